import PyProof.Rows.All
import Wide.All
import OpenK.AllK
import Wide.FinOn
import HandS.ForMost
import HandS.Evl
import HandS.Deep
import HandS.Zip
import HandS.IsInst
import HandS.SortInts
import HandS.Wide
import HandS.TupAny
import HandS.TupMul
import KE.GoesEnumKw
import HandS.Iter
import HandS.Style
import HandS.Defaults
import HandS.HeadEnd
import PyProof.FitsInt
import PyProof.StrLaws
import PySem.Challenge.RW_anysequence_k13_great_numbers_by_own_loo
import HandS.Words
import HandS.WordsExc
import HandS.Head0
import HandS.Head1
import HandS.Head2
import HandS.HeadHook1
import HandS.HeadHook2
set_option Elab.async false
set_option linter.all false
set_option maxRecDepth 100000
set_option maxHeartbeats 4000000
/-! Dl1: an own layer over the readings of HandS: values as data, the frame as a list of slots, each rule a step of a calculus of what is wanted behind. -/
namespace Dl
open PySem L2
abbrev D := PyData
abbrev Ex := Evl.Ex
abbrev Fg := PySem.W.Frag

/-! ### data: lists are live objects of the heap -/
mutual
inductive Dp (K : Fg) (H : Hp) : V → D → Prop
  | non : Dp K H .non .none
  | bl (b : Bool) : Dp K H (.bl b) (.bool b)
  | int (i : Int) : Dp K H (.int i) (.int i)
  | str (x : Str) : Dp K H (.str x) (.str x)
  | lst {a : Addr} {xs : List V} {ds : List D} : H a = some (.lst xs) → DpAll K H xs ds → Dp K H (.ref a) (.list ds)
  | tup {a : Addr} {xs : List V} {ds : List D} : SqT K H a xs → DpAll K H xs ds → Dp K H (.ref a) (.tuple ds)
inductive DpAll (K : Fg) (H : Hp) : List V → List D → Prop
  | nil : DpAll K H [] []
  | cons {v : V} {vs : List V} {d : D} {ds : List D} : Dp K H v d → DpAll K H vs ds → DpAll K H (v :: vs) (d :: ds)
end
mutual
theorem Dp.old {K : Fg} {H : Hp} : ∀ (d : D) (v : V), Dp K H v d → L2.Dp K H v d
  | .none, _, h => by cases h; exact .non
  | .bool b, _, h => by cases h; exact .bl b
  | .int i, _, h => by cases h; exact .int i
  | .str x, _, h => by cases h; exact .str x
  | .list ds, _, h => by
    cases h with
    | lst hs ha => exact .lst (Evl.sq_of hs) (DpAll.old ds _ ha)
  | .tuple ds, _, h => by
    cases h with
    | tup hs ha => exact .tup hs (DpAll.old ds _ ha)
  | .dict _, _, h => by cases h
theorem DpAll.old {K : Fg} {H : Hp} : ∀ (ds : List D) (vs : List V), DpAll K H vs ds → L2.DpAll K H vs ds
  | [], _, h => by cases h; exact .nil
  | d :: ds, _, h => by
    cases h with
    | cons h1 h2 => exact .cons (Dp.old d _ h1) (DpAll.old ds _ h2)
end
/-! ### data under a heap that grows -/
mutual
theorem dp_mono {K : Fg} {H H' : Hp} (e : Ex H H') : ∀ (d : D) (v : V), Dp K H v d → Dp K H' v d
  | .none, _, h => by cases h; exact .non
  | .bool b, _, h => by cases h; exact .bl b
  | .int i, _, h => by cases h; exact .int i
  | .str x, _, h => by cases h; exact .str x
  | .list ds, _, h => by
    cases h with
    | lst hs ha => exact .lst (e _ _ hs) (dpAll_mono e ds _ ha)
  | .tuple ds, _, h => by
    cases h with
    | tup hs ha => exact .tup (Evl.ex_t e hs) (dpAll_mono e ds _ ha)
  | .dict _, _, h => by cases h
theorem dpAll_mono {K : Fg} {H H' : Hp} (e : Ex H H') : ∀ (ds : List D) (vs : List V), DpAll K H vs ds → DpAll K H' vs ds
  | [], _, h => by cases h; exact .nil
  | d :: ds, _, h => by
    cases h with
    | cons h1 h2 => exact .cons (dp_mono e d _ h1) (dpAll_mono e ds _ h2)
end
theorem Dp.up {K : Fg} {H H' : Hp} {v : V} {d : D} (h : Dp K H v d) (e : Ex H H') : Dp K H' v d := dp_mono e d v h
theorem DpAll.up {K : Fg} {H H' : Hp} {vs : List V} {ds : List D} (h : DpAll K H vs ds) (e : Ex H H') : DpAll K H' vs ds := dpAll_mono e ds vs h
section
variable {K : Fg} {H : Hp}
theorem DpAll.len : ∀ {vs : List V} {ds : List D}, DpAll K H vs ds → vs.length = ds.length
  | [], _, h => by cases h; rfl
  | _ :: _, _, h => by
    cases h with
    | cons _ h2 =>
      show _ + 1 = _ + 1
      rw [DpAll.len h2]
theorem DpAll.get : ∀ {vs : List V} {ds : List D} {i : Nat} {d : D}, DpAll K H vs ds → ds[i]? = some d → ∃ v, vs[i]? = some v ∧ Dp K H v d
  | [], _, _, _, h, e => by cases h; simp at e
  | v :: _, _, 0, _, h, e => by
    cases h with
    | cons h1 _ =>
      have e' := Option.some.inj e
      subst e'
      exact ⟨v, rfl, h1⟩
  | _ :: vs, _, i + 1, _, h, e => by
    cases h with
    | cons _ h2 => exact DpAll.get (vs := vs) (i := i) h2 e
theorem DpAll.getV : ∀ {vs : List V} {ds : List D} {i : Nat} {v : V}, DpAll K H vs ds → vs[i]? = some v → ∃ d, ds[i]? = some d ∧ Dp K H v d
  | [], _, _, _, h, e => by simp at e
  | v :: _, _, 0, _, h, e => by
    cases h with
    | cons h1 _ =>
      have e' := Option.some.inj e
      subst e'
      exact ⟨_, rfl, h1⟩
  | _ :: vs, _, i + 1, _, h, e => by
    cases h with
    | cons _ h2 => exact DpAll.getV (vs := vs) (i := i) h2 e
theorem DpAll.app : ∀ {vs ws : List V} {ds es : List D}, DpAll K H vs ds → DpAll K H ws es → DpAll K H (vs ++ ws) (ds ++ es)
  | [], _, _, _, h, h' => by cases h; exact h'
  | _ :: _, _, _, _, h, h' => by
    cases h with
    | cons h1 h2 => exact .cons h1 (DpAll.app h2 h')
theorem DpAll.take : ∀ {vs : List V} {ds : List D} (n : Nat), DpAll K H vs ds → DpAll K H (vs.take n) (ds.take n)
  | _, _, 0, _ => by simp only [List.take_zero]; exact .nil
  | [], _, _ + 1, h => by cases h; exact .nil
  | _ :: _, _, n + 1, h => by
    cases h with
    | cons h1 h2 => exact .cons h1 (DpAll.take n h2)
theorem DpAll.drop : ∀ {vs : List V} {ds : List D} (n : Nat), DpAll K H vs ds → DpAll K H (vs.drop n) (ds.drop n)
  | _, _, 0, h => h
  | [], _, _ + 1, h => by cases h; exact .nil
  | _ :: _, _, n + 1, h => by
    cases h with
    | cons h1 h2 => exact DpAll.drop n h2
theorem DpAll.set {v : V} {d : D} (r : Dp K H v d) : ∀ {vs : List V} {ds : List D} (i : Nat), DpAll K H vs ds → DpAll K H (vs.set i v) (ds.set i d)
  | [], _, _, h => by cases h; exact .nil
  | _ :: _, _, 0, h => by
    cases h with
    | cons h1 h2 => exact .cons r h2
  | _ :: _, _, i + 1, h => by
    cases h with
    | cons h1 h2 => exact .cons h1 (DpAll.set r i h2)
theorem DpAll.rep {v : V} {d : D} (r : Dp K H v d) : ∀ n : Nat, DpAll K H (List.replicate n v) (List.replicate n d)
  | 0 => .nil
  | n + 1 => .cons r (DpAll.rep r n)
theorem DpAll.ints : ∀ ns : List Int, DpAll K H (ns.map V.int) (ns.map PyData.int)
  | [] => .nil
  | n :: ns => .cons (.int n) (DpAll.ints ns)
theorem DpAll.ints_inv : ∀ {ns : List Int} {vs : List V}, DpAll K H vs (ns.map PyData.int) → vs = ns.map V.int
  | [], _, h => by cases h; rfl
  | n :: ns, _, h => by
    cases h with
    | cons h1 h2 =>
      cases h1
      rw [DpAll.ints_inv h2]
      rfl
theorem DpAll.bls_inv : ∀ {ns : List Bool} {vs : List V}, DpAll K H vs (ns.map PyData.bool) → vs = ns.map V.bl
  | [], _, h => by cases h; rfl
  | n :: ns, _, h => by
    cases h with
    | cons h1 h2 =>
      cases h1
      rw [DpAll.bls_inv h2]
      rfl
theorem DpAll.strs_inv : ∀ {ns : List Str} {vs : List V}, DpAll K H vs (ns.map PyData.str) → vs = ns.map V.str
  | [], _, h => by cases h; rfl
  | n :: ns, _, h => by
    cases h with
    | cons h1 h2 =>
      cases h1
      rw [DpAll.strs_inv h2]
      rfl
theorem Dp.int_inv {v : V} {i : Int} (h : Dp K H v (.int i)) : v = .int i := by cases h; rfl
theorem Dp.bl_inv {v : V} {b : Bool} (h : Dp K H v (.bool b)) : v = .bl b := by cases h; rfl
theorem Dp.str_inv {v : V} {x : Str} (h : Dp K H v (.str x)) : v = .str x := by cases h; rfl
theorem Dp.non_inv {v : V} (h : Dp K H v .none) : v = .non := by cases h; rfl
theorem Dp.tup_inv {v : V} {ds : List D} (h : Dp K H v (.tuple ds)) : ∃ a vs, v = .ref a ∧ SqT K H a vs ∧ DpAll K H vs ds := by
  cases h with
  | tup hs ha => exact ⟨_, _, rfl, hs, ha⟩
theorem Dp.lst_inv {v : V} {ds : List D} (h : Dp K H v (.list ds)) : ∃ a vs, v = .ref a ∧ H a = some (.lst vs) ∧ DpAll K H vs ds := by
  cases h with
  | lst hs ha => exact ⟨_, _, rfl, hs, ha⟩
end

/-! ### growing: new objects alone, some of them data -/
structure Grow (H G H' G' : Hp) : Prop where
  h : Ex H H'
  g : Ex G G'
  s : Ex G' H'
  n : ∀ a o, G' a = some o → H a ≠ none → G a = some o
theorem Grow.refl {H G : Hp} (e : Ex G H) : Grow H G H G := ⟨Evl.Ex.refl H, Evl.Ex.refl G, e, fun _ _ h _ => h⟩
theorem Grow.trans {H G H1 G1 H2 G2 : Hp} (a : Grow H G H1 G1) (b : Grow H1 G1 H2 G2) : Grow H G H2 G2 :=
  ⟨a.h.trans b.h, a.g.trans b.g, b.s, fun x o h hn => a.n x o (b.n x o h (fun z => by
    cases q : H x with
    | none => exact hn q
    | some u =>
      rw [a.h x u q] at z
      cases z)) hn⟩
theorem ex_none {G H : Hp} {p : Addr} (e : Ex G H) (h : H p = none) : G p = none := Evl.fresh_back e h
/-- a new datum -/
theorem Grow.new {H G : Hp} {p : Addr} {o : HO} (e : Ex G H) (h : H p = none) : Grow H G (upd H p o) (upd G p o) where
  h := Evl.Ex.new h
  g := Evl.Ex.new (ex_none e h)
  s := fun a u q => by
    by_cases hb : a = p
    · subst hb
      rw [upd_same] at q ⊢
      exact q
    · rw [upd_ne hb] at q ⊢
      exact e a u q
  n := fun a u q hn => by
    by_cases hb : a = p
    · subst hb
      exact absurd h hn
    · rw [upd_ne hb] at q
      exact q
/-- a new object that is no datum yet -/
theorem Grow.newH {H G : Hp} {p : Addr} {o : HO} (e : Ex G H) (h : H p = none) : Grow H G (upd H p o) G where
  h := Evl.Ex.new h
  g := Evl.Ex.refl G
  s := e.trans (Evl.Ex.new h)
  n := fun _ _ q _ => q

/-! ### slots of a frame, values of expressions -/
/-- a slot: forgotten; a datum; a list, a dict of the frame's own; the draws' source (its dict, its cells) -/
inductive Sl where
  | un
  | d (x : D)
  | own (p : Addr) (xs : List D)
  | dic (p : Addr) (kvs : List (Key × D))
  | src (a c : Addr)
/-- a value: a datum; a slot's own list or dict, read; a new list or dict; the source -/
inductive Vl where
  | d (x : D)
  | vw (p : Addr) (xs : List D)
  | vd (p : Addr) (kvs : List (Key × D))
  | own (p : Addr) (xs : List D)
  | dic (p : Addr) (kvs : List (Key × D))
  | src (a c : Addr)
def Sl.ads : Sl → List Addr
  | .own p _ => [p]
  | .dic p _ => [p]
  | .src a c => [a, c]
  | _ => []
/-- the draws' source: its dict at a, the cells at c -/
def SrcAt (H : Hp) (a c : Addr) : Prop := ∃ (cells : List Int) (left mixed turn : Int),
  H a = some (.dK [(Sum.inr "cells", .ref c), (Sum.inr "left", .int left), (Sum.inr "mixed", .int mixed), (Sum.inr "turn", .int turn)]) ∧ H c = some (.lst (cells.map V.int)) ∧
  (∀ x ∈ cells, 0 ≤ x) ∧ 0 ≤ left ∧ 0 ≤ mixed ∧ mixed < 2147483648
def KvD (K : Fg) (G : Hp) : List (Key × V) → List (Key × D) → Prop := Paired fun p q => p.1 = q.1 ∧ Dp K G p.2 q.2
theorem KvD.up {K : Fg} {G G' : Hp} (e : Ex G G') : ∀ {vs : List (Key × V)} {ds : List (Key × D)}, KvD K G vs ds → KvD K G' vs ds
  | _, _, .nil => .nil
  | _, _, .cons h t => .cons ⟨h.1, Dp.up h.2 e⟩ (KvD.up e t)
def OwnAt (K : Fg) (H G : Hp) (p : Addr) (xs : List D) : Prop := G p = none ∧ ∃ vs, H p = some (.lst vs) ∧ DpAll K G vs xs
def DicAt (K : Fg) (H G : Hp) (p : Addr) (kvs : List (Key × D)) : Prop := G p = none ∧ ∃ vs, H p = some (.dK vs) ∧ KvD K G vs kvs
def RelVl (K : Fg) (H G : Hp) (v : V) : Vl → Prop
  | .d x => Dp K G v x
  | .vw p xs => v = .ref p ∧ OwnAt K H G p xs
  | .vd p kvs => v = .ref p ∧ DicAt K H G p kvs
  | .own p xs => v = .ref p ∧ OwnAt K H G p xs
  | .dic p kvs => v = .ref p ∧ DicAt K H G p kvs
  | .src a c => v = .ref a ∧ G a = none ∧ G c = none ∧ SrcAt H a c
/-- the value of a slot when it is read -/
def Sl.rd : Sl → Option Vl
  | .un => none
  | .d x => some (.d x)
  | .own p xs => some (.vw p xs)
  | .dic p kvs => some (.vd p kvs)
  | .src a c => some (.src a c)
def RelSl (K : Fg) (H G : Hp) (o : Option V) (s : Sl) : Prop := ∀ x, s.rd = some x → ∃ v, o = some v ∧ RelVl K H G v x
/-- the entry of a def: heap, data, the objects handed in that it may change -/
structure Ga where
  H0 : Hp
  G0 : Hp
  S : List Addr
def SlOw (Γ : Ga) : Sl → Prop
  | .own p _ => Γ.H0 p = none
  | .dic p _ => Γ.H0 p = none
  | .src a c => (a ∈ Γ.S ∧ c ∈ Γ.S) ∨ (Γ.H0 a = none ∧ Γ.H0 c = none)
  | _ => True
structure RelS (K : Fg) (Γ : Ga) (σ : L2.St) (H G : Hp) (δ : List Sl) : Prop where
  len : σ.length = δ.length
  sl : ∀ (i : Nat) (s : Sl), δ[i]? = some s → ∃ o, σ[i]? = some o ∧ RelSl K H G o s
  ap : ∀ (i j : Nat) (s t : Sl), δ[i]? = some s → δ[j]? = some t → i ≠ j → ∀ a ∈ s.ads, a ∉ t.ads
  ow : ∀ s ∈ δ, SlOw Γ s
  sub : Ex G H
  fr : ∀ a o, Γ.H0 a = some o → a ∉ Γ.S → H a = some o
  h0 : ∀ a, Γ.H0 a ≠ none → H a ≠ none
  g0 : Ex Γ.G0 G
  gn : ∀ a o, G a = some o → Γ.H0 a ≠ none → Γ.G0 a = some o

theorem SrcAt.of {H H' : Hp} {a c : Addr} (h : SrcAt H a c) (ea : H' a = H a) (ec : H' c = H c) : SrcAt H' a c := by
  obtain ⟨cells, l, m, t, h1, h2, h3⟩ := h
  exact ⟨cells, l, m, t, ea.trans h1, ec.trans h2, h3⟩
theorem SrcAt.ne {H : Hp} {a c : Addr} (h : SrcAt H a c) : a ≠ c := by
  obtain ⟨cells, l, m, t, h1, h2, h3⟩ := h
  exact ne_of h1 h2 (by intro z; cases z)
/-- the objects that a value stands for -/
def Vl.ads : Vl → List Addr
  | .d _ => []
  | .vw p _ => [p]
  | .vd p _ => [p]
  | .own p _ => [p]
  | .dic p _ => [p]
  | .src a c => [a, c]
theorem Sl.rd_ads {s : Sl} {x : Vl} (h : s.rd = some x) : x.ads = s.ads := by
  cases s with
  | un => cases h
  | _ => cases h; rfl
theorem Sl.ads_rd {s : Sl} {a : Addr} (h : a ∈ s.ads) : ∃ x, s.rd = some x := by
  cases s with
  | un => cases h
  | _ => exact ⟨_, rfl⟩
theorem OwnAt.keep {K : Fg} {H G H' G' : Hp} {p : Addr} {xs : List D} (h : OwnAt K H G p xs) (e : Ex G G') (k : H' p = H p) (n : G' p = none) : OwnAt K H' G' p xs := by
  obtain ⟨_, vs, h3, h4⟩ := h
  exact ⟨n, vs, k.trans h3, DpAll.up h4 e⟩
theorem DicAt.keep {K : Fg} {H G H' G' : Hp} {p : Addr} {xs : List (Key × D)} (h : DicAt K H G p xs) (e : Ex G G') (k : H' p = H p) (n : G' p = none) : DicAt K H' G' p xs := by
  obtain ⟨_, vs, h3, h4⟩ := h
  exact ⟨n, vs, k.trans h3, KvD.up e h4⟩
theorem RelVl.keep {K : Fg} {H G H' G' : Hp} {v : V} {x : Vl} (h : RelVl K H G v x) (e : Ex G G') (k : ∀ a ∈ x.ads, H' a = H a) (n : ∀ a ∈ x.ads, G' a = none) : RelVl K H' G' v x := by
  cases x with
  | d x => exact Dp.up h e
  | vw p xs => exact ⟨h.1, h.2.keep e (k p (by simp [Vl.ads])) (n p (by simp [Vl.ads]))⟩
  | vd p xs => exact ⟨h.1, h.2.keep e (k p (by simp [Vl.ads])) (n p (by simp [Vl.ads]))⟩
  | own p xs => exact ⟨h.1, h.2.keep e (k p (by simp [Vl.ads])) (n p (by simp [Vl.ads]))⟩
  | dic p xs => exact ⟨h.1, h.2.keep e (k p (by simp [Vl.ads])) (n p (by simp [Vl.ads]))⟩
  | src a c => exact ⟨h.1, n a (by simp [Vl.ads]), n c (by simp [Vl.ads]), h.2.2.2.of (k a (by simp [Vl.ads])) (k c (by simp [Vl.ads]))⟩
theorem RelVl.at {K : Fg} {H G : Hp} {v : V} {x : Vl} (h : RelVl K H G v x) : ∀ a ∈ x.ads, G a = none ∧ H a ≠ none := by
  cases x with
  | d x => intro a ha; cases ha
  | vw p xs =>
    intro a ha
    obtain rfl : a = p := by simpa [Vl.ads] using ha
    obtain ⟨_, h2, vs, h3, _⟩ := h
    exact ⟨h2, by rw [h3]; simp⟩
  | vd p xs =>
    intro a ha
    obtain rfl : a = p := by simpa [Vl.ads] using ha
    obtain ⟨_, h2, vs, h3, _⟩ := h
    exact ⟨h2, by rw [h3]; simp⟩
  | own p xs =>
    intro a ha
    obtain rfl : a = p := by simpa [Vl.ads] using ha
    obtain ⟨_, h2, vs, h3, _⟩ := h
    exact ⟨h2, by rw [h3]; simp⟩
  | dic p xs =>
    intro a ha
    obtain rfl : a = p := by simpa [Vl.ads] using ha
    obtain ⟨_, h2, vs, h3, _⟩ := h
    exact ⟨h2, by rw [h3]; simp⟩
  | src a' c =>
    intro a ha
    obtain ⟨_, h2, h3, cells, l, m, t, h4, h5, _⟩ := h
    have ha' : a = a' ∨ a = c := by simpa [Vl.ads] using ha
    rcases ha' with rfl | rfl
    · exact ⟨h2, by rw [h4]; simp⟩
    · exact ⟨h3, by rw [h5]; simp⟩

/-- how a part of a run may change the heaps: the slots' own objects, else new ones alone -/
structure Fr (δ : List Sl) (H G H' G' : Hp) : Prop where
  g : Ex G G'
  h : ∀ a o, H a = some o → (∀ s ∈ δ, a ∉ s.ads) → H' a = some o
  t : ∀ a, H a ≠ none → H' a ≠ none
  n : ∀ a o, G' a = some o → H a ≠ none → G a = some o
theorem Fr.refl {δ : List Sl} {H G : Hp} : Fr δ H G H G := ⟨Evl.Ex.refl G, fun _ _ h _ => h, fun _ h => h, fun _ _ h _ => h⟩
theorem Fr.trans {δ : List Sl} {H G H1 G1 H2 G2 : Hp} (a : Fr δ H G H1 G1) (b : Fr δ H1 G1 H2 G2) : Fr δ H G H2 G2 :=
  ⟨a.g.trans b.g, fun x o h q => b.h x o (a.h x o h q) q, fun x h => b.t x (a.t x h), fun x o h hn => a.n x o (b.n x o h (a.t x hn)) hn⟩
theorem ex_ne {H H' : Hp} (e : Ex H H') {a : Addr} (h : H a ≠ none) : H' a ≠ none := fun z => h (Evl.fresh_back e z)
theorem Grow.fr {δ : List Sl} {H G H' G' : Hp} (a : Grow H G H' G') : Fr δ H G H' G' := ⟨a.g, fun x o h _ => a.h x o h, fun _ h => ex_ne a.h h, a.n⟩

section
variable {K : Fg} {Γ : Ga} {σ : L2.St} {H G H' G' : Hp} {δ : List Sl}
theorem ex_eq {H H' : Hp} (e : Ex H H') {a : Addr} (h : H a ≠ none) : H' a = H a := by
  cases q : H a with
  | none => exact absurd q h
  | some u => exact e a u q
theorem none_of {α : Type} {o : Option α} (h : ∀ u, o = some u → False) : o = none := by
  cases o with
  | none => rfl
  | some u => exact (h u rfl).elim
theorem RelS.grow (R : RelS K Γ σ H G δ) (g : Grow H G H' G') : RelS K Γ σ H' G' δ where
  len := R.len
  sl := fun i s e => by
    obtain ⟨o, h1, h2⟩ := R.sl i s e
    refine ⟨o, h1, fun x hx => ?_⟩
    obtain ⟨v, h3, h4⟩ := h2 x hx
    refine ⟨v, h3, h4.keep g.g (fun a ha => ex_eq g.h (h4.at a ha).2) fun a ha => none_of fun u q => ?_⟩
    have := g.n a u q (h4.at a ha).2
    rw [(h4.at a ha).1] at this
    cases this
  ap := R.ap
  ow := R.ow
  sub := g.s
  fr := fun a o h hs => g.h a o (R.fr a o h hs)
  h0 := fun a h => ex_ne g.h (R.h0 a h)
  g0 := R.g0.trans g.g
  gn := fun a o h hn => R.gn a o (g.n a o h (R.h0 a hn)) hn
/-- a slot's reading -/
theorem RelS.rd (R : RelS K Γ σ H G δ) {i : Nat} {s : Sl} {x : Vl} (e : δ[i]? = some s) (hx : s.rd = some x) : ∃ v, σ[i]? = some (some v) ∧ RelVl K H G v x := by
  obtain ⟨o, h1, h2⟩ := R.sl i s e
  obtain ⟨v, h3, h4⟩ := h2 x hx
  exact ⟨v, by rw [h1, h3], h4⟩
theorem RelS.new (R : RelS K Γ σ H G δ) {p : Addr} (h : H p = none) : Γ.H0 p = none := none_of fun u q => R.h0 p (by rw [q]; simp) h
/-- what stands in a slot is no new address -/
theorem RelS.nin (R : RelS K Γ σ H G δ) {p : Addr} (h : H p = none) : ∀ s ∈ δ, p ∉ s.ads := fun s hs hp => by
  obtain ⟨i, hi⟩ := List.getElem?_of_mem hs
  obtain ⟨x, hx⟩ := Sl.ads_rd hp
  obtain ⟨v, _, h4⟩ := R.rd hi hx
  exact (h4.at p (by rw [Sl.rd_ads hx]; exact hp)).2 h
/-- a name is stored -/
theorem RelS.set (R : RelS K Γ σ H G δ) (i : Nat) {v : V} {s : Sl} (hs : ∀ x, s.rd = some x → RelVl K H G v x) (ho : SlOw Γ s) (ha : ∀ a ∈ s.ads, ∀ t ∈ δ, a ∉ t.ads) : RelS K Γ (σ.set i (some v)) H G (δ.set i s) where
  len := by rw [List.length_set, List.length_set]; exact R.len
  sl := fun j t e => by
    by_cases h : i = j
    · subst h
      have hl : i < δ.length := by
        have := (List.getElem?_eq_some_iff.mp e).1
        rwa [List.length_set] at this
      rw [List.getElem?_set_self hl] at e
      cases e
      exact ⟨some v, List.getElem?_set_self (by rw [R.len]; exact hl), fun x hx => ⟨v, rfl, hs x hx⟩⟩
    · rw [List.getElem?_set_ne h] at e ⊢
      exact R.sl j t e
  ap := fun j k t u e1 e2 hjk a ha1 ha2 => by
    by_cases h : i = j
    · subst h
      rw [List.getElem?_set_ne hjk] at e2
      have hl : i < δ.length := by
        have := (List.getElem?_eq_some_iff.mp e1).1
        rwa [List.length_set] at this
      rw [List.getElem?_set_self hl] at e1
      cases e1
      exact ha a ha1 u (List.mem_of_getElem? e2) ha2
    · rw [List.getElem?_set_ne h] at e1
      by_cases h' : i = k
      · subst h'
        have hl : i < δ.length := by
          have := (List.getElem?_eq_some_iff.mp e2).1
          rwa [List.length_set] at this
        rw [List.getElem?_set_self hl] at e2
        cases e2
        exact ha a ha2 t (List.mem_of_getElem? e1) ha1
      · rw [List.getElem?_set_ne h'] at e2
        exact R.ap j k t u e1 e2 hjk a ha1 ha2
  ow := fun t ht => by
    rcases List.mem_or_eq_of_mem_set ht with h | h
    · exact R.ow t h
    · rw [h]; exact ho
  sub := R.sub
  fr := R.fr
  h0 := R.h0
  g0 := R.g0
  gn := R.gn
/-- a slot is forgotten -/
theorem RelS.setD (R : RelS K Γ σ H G δ) (i : Nat) {v : V} {x : D} (h : Dp K G v x) : RelS K Γ (σ.set i (some v)) H G (δ.set i (.d x)) :=
  R.set i (fun y hy => by cases hy; exact h) trivial fun a ha => by cases ha
/-- an owned object is changed -/
theorem RelS.write (R : RelS K Γ σ H G δ) {i : Nat} {s s' : Sl} (e : δ[i]? = some s) (k : ∀ a, a ∉ s.ads → H' a = H a) (t : ∀ a ∈ s.ads, H' a ≠ none) (ha : s'.ads = s.ads) (ho : SlOw Γ s')
    (hs : ∀ o, RelSl K H G o s → RelSl K H' G o s') : RelS K Γ σ H' G (δ.set i s') where
  len := by rw [List.length_set]; exact R.len
  sl := fun j u e' => by
    by_cases h : i = j
    · subst h
      have hl := (List.getElem?_eq_some_iff.mp e).1
      rw [List.getElem?_set_self hl] at e'
      cases e'
      obtain ⟨o, h1, h2⟩ := R.sl i s e
      exact ⟨o, h1, hs o h2⟩
    · rw [List.getElem?_set_ne h] at e'
      obtain ⟨o, h1, h2⟩ := R.sl j u e'
      refine ⟨o, h1, fun x hx => ?_⟩
      obtain ⟨v, h3, h4⟩ := h2 x hx
      exact ⟨v, h3, h4.keep (Evl.Ex.refl G) (fun a hax => k a fun z => R.ap i j s u e e' h a z (by rw [← Sl.rd_ads hx]; exact hax)) fun a hax => (h4.at a hax).1⟩
  ap := fun j k t u e1 e2 hjk a ha1 ha2 => by
    have key : ∀ (j : Nat) (t : Sl), (δ.set i s')[j]? = some t → a ∈ t.ads → ∃ t0, δ[j]? = some t0 ∧ a ∈ t0.ads := fun j t e1 h1 => by
      by_cases h : i = j
      · subst h
        have hl := (List.getElem?_eq_some_iff.mp e).1
        rw [List.getElem?_set_self hl] at e1
        cases e1
        exact ⟨s, e, by rw [← ha]; exact h1⟩
      · rw [List.getElem?_set_ne h] at e1
        exact ⟨t, e1, h1⟩
    obtain ⟨t0, g1, g2⟩ := key j t e1 ha1
    obtain ⟨u0, g3, g4⟩ := key k u e2 ha2
    exact R.ap j k t0 u0 g1 g3 hjk a g2 g4
  ow := fun t ht => by
    rcases List.mem_or_eq_of_mem_set ht with h | h
    · exact R.ow t h
    · rw [h]; exact ho
  sub := fun a o h => by
    have hn : a ∉ s.ads := fun z => by
      obtain ⟨x, hx⟩ := Sl.ads_rd z
      obtain ⟨v, _, h4⟩ := R.rd e hx
      have := (h4.at a (by rw [Sl.rd_ads hx]; exact z)).1
      rw [h] at this
      cases this
    rw [k a hn]
    exact R.sub a o h
  fr := fun a o h hS => by
    have hn : a ∉ s.ads := fun z => by
      have hw := R.ow s (List.mem_of_getElem? e)
      cases s with
      | un => cases z
      | d x => cases z
      | own p xs =>
        obtain rfl : a = p := by simpa [Sl.ads] using z
        have hw' : Γ.H0 a = none := hw
        rw [h] at hw'
        cases hw'
      | dic p xs =>
        obtain rfl : a = p := by simpa [Sl.ads] using z
        have hw' : Γ.H0 a = none := hw
        rw [h] at hw'
        cases hw'
      | src a' c =>
        have z' : a = a' ∨ a = c := by simpa [Sl.ads] using z
        rcases hw with hw | hw
        · rcases z' with rfl | rfl
          · exact hS hw.1
          · exact hS hw.2
        · rcases z' with rfl | rfl
          · rw [h] at hw; exact nomatch hw.1
          · rw [h] at hw; exact nomatch hw.2
    rw [k a hn]
    exact R.fr a o h hS
  h0 := fun a h => by
    by_cases z : a ∈ s.ads
    · exact t a z
    · rw [k a z]
      exact R.h0 a h
  g0 := R.g0
  gn := R.gn
/-- the same, as a change of the heaps -/
theorem fr_write {s : Sl} (e : s ∈ δ) (k : ∀ a, a ∉ s.ads → H' a = H a) (t : ∀ a ∈ s.ads, H' a ≠ none) : Fr δ H G H' G :=
  ⟨Evl.Ex.refl G, fun a o h q => by rw [k a (q s e)]; exact h, fun a h => by
    by_cases z : a ∈ s.ads
    · exact t a z
    · rw [k a z]; exact h, fun _ _ h _ => h⟩
/-- an owned list becomes a datum -/
theorem RelS.freeze (R : RelS K Γ σ H G δ) {i : Nat} {p : Addr} {xs : List D} (e : δ[i]? = some (.own p xs)) : ∃ G', RelS K Γ σ H G' (δ.set i (.d (.list xs))) ∧ Ex G G' := by
  obtain ⟨v, h1, hv, gp, vs, hp, ha⟩ := R.rd e rfl
  subst hv
  have eg : Ex G (upd G p (.lst vs)) := Evl.Ex.new gp
  have hw : Γ.H0 p = none := R.ow _ (List.mem_of_getElem? e)
  have hl := (List.getElem?_eq_some_iff.mp e).1
  refine ⟨upd G p (.lst vs), ⟨by rw [List.length_set]; exact R.len, fun j u e' => ?_, fun j k t u e1 e2 hjk a ha1 ha2 => ?_, fun t ht => ?_, fun a o h => ?_, R.fr, R.h0, R.g0.trans eg, fun a o h hn => ?_⟩, eg⟩
  · by_cases h : i = j
    · subst h
      rw [List.getElem?_set_self hl] at e'
      cases e'
      exact ⟨_, h1, fun x hx => by cases hx; exact ⟨_, rfl, .lst (upd_same) (DpAll.up ha eg)⟩⟩
    · rw [List.getElem?_set_ne h] at e'
      obtain ⟨o, h2, h3⟩ := R.sl j u e'
      refine ⟨o, h2, fun x hx => ?_⟩
      obtain ⟨w, h4, h5⟩ := h3 x hx
      refine ⟨w, h4, h5.keep eg (fun _ _ => rfl) fun a hax => ?_⟩
      have : a ≠ p := fun z => R.ap i j _ u e e' h p (by simp [Sl.ads]) (by rw [← z, ← Sl.rd_ads hx]; exact hax)
      rw [upd_ne this]
      exact (h5.at a hax).1
  · by_cases h : i = j
    · subst h
      rw [List.getElem?_set_self hl] at e1
      cases e1
      cases ha1
    · rw [List.getElem?_set_ne h] at e1
      by_cases h' : i = k
      · subst h'
        rw [List.getElem?_set_self hl] at e2
        cases e2
        cases ha2
      · rw [List.getElem?_set_ne h'] at e2
        exact R.ap j k t u e1 e2 hjk a ha1 ha2
  · rcases List.mem_or_eq_of_mem_set ht with h | h
    · exact R.ow t h
    · rw [h]; trivial
  · by_cases hb : a = p
    · subst hb
      rw [upd_same] at h
      cases h
      exact hp
    · rw [upd_ne hb] at h
      exact R.sub a o h
  · by_cases hb : a = p
    · subst hb
      exact absurd hw hn
    · rw [upd_ne hb] at h
      exact R.gn a o h hn
/-- a slot's content is forgotten, or only read -/
theorem RelS.forget (R : RelS K Γ σ H G δ) (i : Nat) : RelS K Γ σ H G (δ.set i .un) where
  len := by rw [List.length_set]; exact R.len
  sl := fun j u e' => by
    by_cases h : i = j
    · subst h
      have hl : i < δ.length := by
        have := (List.getElem?_eq_some_iff.mp e').1
        rwa [List.length_set] at this
      rw [List.getElem?_set_self hl] at e'
      cases e'
      exact ⟨σ[i]'(by rw [R.len]; exact hl), List.getElem?_eq_getElem _, fun x hx => by cases hx⟩
    · rw [List.getElem?_set_ne h] at e'
      exact R.sl j u e'
  ap := fun j k t u e1 e2 hjk a ha1 ha2 => by
    have key : ∀ (j : Nat) (t : Sl), (δ.set i .un)[j]? = some t → a ∈ t.ads → δ[j]? = some t := fun j t e1 h1 => by
      by_cases h : i = j
      · subst h
        have hl : i < δ.length := by
          have := (List.getElem?_eq_some_iff.mp e1).1
          rwa [List.length_set] at this
        rw [List.getElem?_set_self hl] at e1
        cases e1
        cases h1
      · rw [List.getElem?_set_ne h] at e1
        exact e1
    exact R.ap j k t u (key j t e1 ha1) (key k u e2 ha2) hjk a ha1 ha2
  ow := fun t ht => by
    rcases List.mem_or_eq_of_mem_set ht with h | h
    · exact R.ow t h
    · rw [h]; trivial
  sub := R.sub
  fr := R.fr
  h0 := R.h0
  g0 := R.g0
  gn := R.gn
end
end Dl

/-! Dl2: what an expression, a test, an argument list comes to. -/
namespace Dl
open PySem L2

/-- a value as it comes: of a slot, or new -/
def Vok (δ : List Sl) (H : Hp) : Vl → Prop
  | .d _ => True
  | .vw p xs => Sl.own p xs ∈ δ
  | .vd p kvs => Sl.dic p kvs ∈ δ
  | .own p _ => H p = none
  | .dic p _ => H p = none
  | .src a c => Sl.src a c ∈ δ
section
variable {K : Fg} {Γ : Ga} {σ : L2.St} {H G H' G' H1 G1 : Hp} {δ : List Sl}
theorem Vok.mono {x : Vl} (f : Fr δ H G H' G') (h : Vok δ H' x) : Vok δ H x := by
  cases x with
  | d x => trivial
  | vw p xs => exact h
  | vd p xs => exact h
  | own p xs => exact none_of fun u q => f.t p (by rw [q]; simp) h
  | dic p xs => exact none_of fun u q => f.t p (by rw [q]; simp) h
  | src a c => exact h
/-- a value stays while the run goes on -/
theorem RelVl.stay {v : V} {x : Vl} (h : RelVl K H1 G1 v x) (ok : Vok δ H x) (R1 : RelS K Γ σ H1 G1 δ) (R : RelS K Γ σ H G δ) (R' : RelS K Γ σ H' G' δ) (f : Fr δ H1 G1 H' G') : RelVl K H' G' v x := by
  have key : ∀ (s : Sl), s ∈ δ → s.rd = some x → (∀ v w, RelVl K H1 G1 v x → RelVl K H' G' w x → v = w) → RelVl K H' G' v x := fun s hs hx hi => by
    obtain ⟨i, hi'⟩ := List.getElem?_of_mem hs
    obtain ⟨w, _, h4⟩ := R'.rd hi' hx
    rw [hi v w h h4]
    exact h4
  cases x with
  | d x => exact Dp.up h f.g
  | vw p xs => exact key _ ok rfl fun v w a b => a.1.trans b.1.symm
  | vd p xs => exact key _ ok rfl fun v w a b => a.1.trans b.1.symm
  | src a c => exact key _ ok rfl fun v w a b => a.1.trans b.1.symm
  | own p xs =>
    refine h.keep f.g (fun a ha => ?_) fun a ha => ?_
    · obtain rfl : a = p := by simpa [Vl.ads] using ha
      cases q : H1 a with
      | none => exact absurd q (h.at a ha).2
      | some u => exact f.h a u q fun s hs => R.nin ok s hs
    · refine none_of fun u q => ?_
      have := f.n a u q (h.at a ha).2
      rw [(h.at a ha).1] at this
      cases this
  | dic p xs =>
    refine h.keep f.g (fun a ha => ?_) fun a ha => ?_
    · obtain rfl : a = p := by simpa [Vl.ads] using ha
      cases q : H1 a with
      | none => exact absurd q (h.at a ha).2
      | some u => exact f.h a u q fun s hs => R.nin ok s hs
    · refine none_of fun u q => ?_
      have := f.n a u q (h.at a ha).2
      rw [(h.at a ha).1] at this
      cases this
end

/-! ### judgements -/
def Ev (K : Fg) (Γ : Ga) (δ : List Sl) (te : TE) (P : Vl → Prop) : Prop := ∀ (σ : L2.St) (H G : Hp), RelS K Γ σ H G δ → ∀ Q : VK,
  (∀ v H' G' x, RelS K Γ σ H' G' δ → Fr δ H G H' G' → RelVl K H' G' v x → Vok δ H x → P x → Q v H') → te σ H Q
def EvT (K : Fg) (Γ : Ga) (δ : List Sl) (tt : TT) (P : Bool → Prop) : Prop := ∀ (σ : L2.St) (H G : Hp), RelS K Γ σ H G δ → ∀ Q : Bool → Hp → Prop,
  (∀ b H' G', RelS K Γ σ H' G' δ → Fr δ H G H' G' → P b → Q b H') → tt σ H Q
/-- new values of a list stand apart -/
def Apart : List Vl → Prop
  | [] => True
  | .own p _ :: r => (∀ x ∈ r, ∀ q, (∃ ys, x = .own q ys) ∨ (∃ ys, x = .dic q ys) → q ≠ p) ∧ Apart r
  | .dic p _ :: r => (∀ x ∈ r, ∀ q, (∃ ys, x = .own q ys) ∨ (∃ ys, x = .dic q ys) → q ≠ p) ∧ Apart r
  | _ :: r => Apart r
def EvA (K : Fg) (Γ : Ga) (δ : List Sl) (ta : TA) (P : List Vl → Prop) : Prop := ∀ (σ : L2.St) (H G : Hp), RelS K Γ σ H G δ → ∀ Q : List V → Hp → Prop,
  (∀ vs H' G' xs, RelS K Γ σ H' G' δ → Fr δ H G H' G' → Paired (RelVl K H' G') vs xs → (∀ x ∈ xs, Vok δ H x) → Apart xs → P xs → Q vs H') → ta σ H Q
/-- an operation by values: data in the end, the heap grown -/
def OpD (K : Fg) (r : R2) (x y : Vl) (P : Vl → Prop) : Prop := ∀ (H G : Hp) (v w : V), Ex G H → RelVl K H G v x → RelVl K H G w y → ∀ Q : VK,
  (∀ z H' G' u, Grow H G H' G' → RelVl K H' G' z u → ((∃ d, u = .d d) ∨ ∃ p xs, u = .own p xs ∧ H p = none) → P u → Q z H') → r v w H Q
def UnD (K : Fg) (r : V → Hp → VK → Prop) (x : Vl) (P : Vl → Prop) : Prop := ∀ (H G : Hp) (v : V), Ex G H → RelVl K H G v x → ∀ Q : VK,
  (∀ z H' G' u, Grow H G H' G' → RelVl K H' G' z u → ((∃ d, u = .d d) ∨ ∃ p xs, u = .own p xs ∧ H p = none) → P u → Q z H') → r v H Q
def CaD (K : Fg) (r : List V → Hp → VK → Prop) (xs : List Vl) (P : Vl → Prop) : Prop := ∀ (H G : Hp) (vs : List V), Ex G H → Paired (RelVl K H G) vs xs → ∀ Q : VK,
  (∀ z H' G' u, Grow H G H' G' → RelVl K H' G' z u → ((∃ d, u = .d d) ∨ ∃ p xs, u = .own p xs ∧ H p = none) → P u → Q z H') → r vs H Q

section
variable {K : Fg} {Γ : Ga} {δ : List Sl} {te ta tb tc : TE} {t u : TT} {P P' : Vl → Prop}
theorem Ev.imp (h : Ev K Γ δ te P) (k : ∀ x, P x → P' x) : Ev K Γ δ te P' := fun σ H G R Q q => h σ H G R Q fun v H' G' x a b c d e => q v H' G' x a b c d (k x e)
theorem EvT.imp {P P' : Bool → Prop} (h : EvT K Γ δ t P) (k : ∀ x, P x → P' x) : EvT K Γ δ t P' := fun σ H G R Q q => h σ H G R Q fun v H' G' a b c => q v H' G' a b (k v c)
theorem vok_res {H G H' G' : Hp} {x : Vl} (g : Grow H G H' G') (h : (∃ d, x = .d d) ∨ ∃ p xs, x = .own p xs ∧ H p = none) : Vok δ H x := by
  rcases h with ⟨d, rfl⟩ | ⟨p, xs, rfl, h⟩
  · trivial
  · exact h
theorem ev_rd {i : Nat} {s : Sl} {x : Vl} (e : δ[i]? = some s) (hx : s.rd = some x) (h : P x) : Ev K Γ δ (tVar i) P := fun σ H G R Q q => by
  obtain ⟨v, h1, h2⟩ := R.rd e hx
  refine ⟨v, h1, q v H G x R Fr.refl h2 ?_ h⟩
  have hm := List.mem_of_getElem? e
  cases s with
  | un => cases hx
  | d x => cases hx; trivial
  | own p xs => cases hx; exact hm
  | dic p xs => cases hx; exact hm
  | src a c => cases hx; exact hm
theorem ev_v {i : Nat} {x : D} (e : δ[i]? = some (.d x)) (h : P (.d x)) : Ev K Γ δ (tVar i) P := ev_rd e rfl h
theorem ev_vo {i : Nat} {p : Addr} {xs : List D} (e : δ[i]? = some (.own p xs)) (h : P (.vw p xs)) : Ev K Γ δ (tVar i) P := ev_rd e rfl h
theorem ev_vd {i : Nat} {p : Addr} {xs : List (Key × D)} (e : δ[i]? = some (.dic p xs)) (h : P (.vd p xs)) : Ev K Γ δ (tVar i) P := ev_rd e rfl h
theorem ev_vs {i : Nat} {a c : Addr} (e : δ[i]? = some (.src a c)) (h : P (.src a c)) : Ev K Γ δ (tVar i) P := ev_rd e rfl h
theorem ev_ck {v : V} {x : D} (hk : ∀ H, Dp K H v x) (h : P (.d x)) : Ev K Γ δ (tC v) P := fun σ H G R Q q => q v H G (.d x) R Fr.refl (hk G) trivial h
theorem ev_ci {i : Int} (h : P (.d (.int i))) : Ev K Γ δ (tC (.int i)) P := ev_ck (fun _ => .int i) h
theorem ev_cb {b : Bool} (h : P (.d (.bool b))) : Ev K Γ δ (tC (.bl b)) P := ev_ck (fun _ => .bl b) h
theorem ev_cs {x : Str} (h : P (.d (.str x))) : Ev K Γ δ (tC (.str x)) P := ev_ck (fun _ => .str x) h
theorem ev_cn (h : P (.d .none)) : Ev K Γ δ (tC .non) P := ev_ck (fun _ => .non) h
/-- two expressions, then what is made of both -/
theorem ev_two {R0 : V → V → Hp → VK → Prop} (h : Ev K Γ δ ta fun x => Ev K Γ δ tb fun y => OpD K R0 x y P) : Ev K Γ δ (tOp R0 ta tb) P := fun σ H G R Q q =>
  h σ H G R _ fun v H1 G1 x R1 f1 r1 k1 h1 => h1 σ H1 G1 R1 _ fun w H2 G2 y R2 f2 r2 k2 h2 =>
    h2 H2 G2 v w R2.sub (r1.stay k1 R1 R R2 f2) r2 _ fun z H3 G3 u g r3 hu p => q z H3 G3 u (R2.grow g) ((f1.trans f2).trans g.fr) r3 ((vok_res g hu).mono (f1.trans f2)) p
theorem ev_op {r : R2} (h : Ev K Γ δ ta fun x => Ev K Γ δ tb fun y => OpD K r x y P) : Ev K Γ δ (tOp r ta tb) P := ev_two h
theorem ev_un {r : V → Hp → VK → Prop} (h : Ev K Γ δ ta fun x => UnD K r x P) : Ev K Γ δ (tUn r ta) P := fun σ H G R Q q =>
  h σ H G R _ fun v H1 G1 x R1 f1 r1 k1 h1 => h1 H1 G1 v R1.sub r1 _ fun z H3 G3 u g r3 hu p => q z H3 G3 u (R1.grow g) (f1.trans g.fr) r3 ((vok_res g hu).mono f1) p
theorem ev_if (h : EvT K Γ δ t fun b => if b = true then Ev K Γ δ ta P else Ev K Γ δ tb P) : Ev K Γ δ (tIf t ta tb) P := fun σ H G R Q q =>
  h σ H G R _ fun b H1 G1 R1 f1 h1 => by
    cases b with
    | true => exact (show Ev K Γ δ ta P from h1) σ H1 G1 R1 Q fun z H2 G2 u R2 f2 r2 k2 p => q z H2 G2 u R2 (f1.trans f2) r2 (k2.mono f1) p
    | false => exact (show Ev K Γ δ tb P from h1) σ H1 G1 R1 Q fun z H2 G2 u R2 f2 r2 k2 p => q z H2 G2 u R2 (f1.trans f2) r2 (k2.mono f1) p
theorem et_B {P : Bool → Prop} (h : Ev K Γ δ te fun x => ∃ b, x = .d (.bool b) ∧ P b) : EvT K Γ δ (tB te) P := fun σ H G R Q q =>
  h σ H G R _ fun v H1 G1 x R1 f1 r1 k1 ⟨b, hb, p⟩ => by
    subst hb
    exact ⟨b, Dp.bl_inv r1, q b H1 G1 R1 f1 p⟩
theorem et_test {P : Bool → Prop} (h : Ev K Γ δ te fun x => ∃ b, x = .d (.bool b) ∧ P b) : EvT K Γ δ (tTest te) P := fun σ H G R Q q =>
  h σ H G R _ fun v H1 G1 x R1 f1 r1 k1 ⟨b, hb, p⟩ => by
    subst hb
    exact ⟨b, Dp.bl_inv r1, q b H1 G1 R1 f1 p⟩
theorem et_and {P : Bool → Prop} (h : EvT K Γ δ t fun b => if b = true then EvT K Γ δ u P else P false) : EvT K Γ δ (tAnd t u) P := fun σ H G R Q q =>
  h σ H G R _ fun b H1 G1 R1 f1 h1 => by
    cases b with
    | true => exact (show EvT K Γ δ u P from h1) σ H1 G1 R1 Q fun z H2 G2 R2 f2 p => q z H2 G2 R2 (f1.trans f2) p
    | false => exact q false H1 G1 R1 f1 h1
theorem et_or {P : Bool → Prop} (h : EvT K Γ δ t fun b => if b = true then P true else EvT K Γ δ u P) : EvT K Γ δ (tOr t u) P := fun σ H G R Q q =>
  h σ H G R _ fun b H1 G1 R1 f1 h1 => by
    cases b with
    | true => exact q true H1 G1 R1 f1 h1
    | false => exact (show EvT K Γ δ u P from h1) σ H1 G1 R1 Q fun z H2 G2 R2 f2 p => q z H2 G2 R2 (f1.trans f2) p
theorem et_not {P : Bool → Prop} (h : EvT K Γ δ t fun b => P (!b)) : EvT K Γ δ (tNot t) P := fun σ H G R Q q =>
  h σ H G R _ fun b H1 G1 R1 f1 h1 => q _ H1 G1 R1 f1 h1
theorem ev_andV (h : Ev K Γ δ ta fun x => ∃ b, x = .d (.bool b) ∧ if b = true then Ev K Γ δ tb P else P (.d (.bool false))) : Ev K Γ δ (tAndV ta tb) P := fun σ H G R Q q =>
  h σ H G R _ fun v H1 G1 x R1 f1 r1 k1 ⟨b, hb, p⟩ => by
    subst hb
    refine ⟨b, Dp.bl_inv r1, ?_⟩
    cases b with
    | true => exact (show Ev K Γ δ tb P from p) σ H1 G1 R1 Q fun z H2 G2 u R2 f2 r2 k2 p => q z H2 G2 u R2 (f1.trans f2) r2 (k2.mono f1) p
    | false => exact q _ H1 G1 (.d (.bool false)) R1 f1 (.bl false) trivial p
theorem ev_orV (h : Ev K Γ δ ta fun x => ∃ b, x = .d (.bool b) ∧ if b = true then P (.d (.bool true)) else Ev K Γ δ tb P) : Ev K Γ δ (tOrV ta tb) P := fun σ H G R Q q =>
  h σ H G R _ fun v H1 G1 x R1 f1 r1 k1 ⟨b, hb, p⟩ => by
    subst hb
    refine ⟨b, Dp.bl_inv r1, ?_⟩
    cases b with
    | true => exact q _ H1 G1 (.d (.bool true)) R1 f1 (.bl true) trivial p
    | false => exact (show Ev K Γ δ tb P from p) σ H1 G1 R1 Q fun z H2 G2 u R2 f2 r2 k2 p => q z H2 G2 u R2 (f1.trans f2) r2 (k2.mono f1) p
theorem ev_notV (h : Ev K Γ δ ta fun x => ∃ b, x = .d (.bool b) ∧ P (.d (.bool (!b)))) : Ev K Γ δ (tNotV ta) P := fun σ H G R Q q =>
  h σ H G R _ fun v H1 G1 x R1 f1 r1 k1 ⟨b, hb, p⟩ => by
    subst hb
    exact ⟨b, Dp.bl_inv r1, q _ H1 G1 (.d (.bool (!b))) R1 f1 (.bl _) trivial p⟩
theorem ev_chain {r r' : R2} (h : Ev K Γ δ ta fun x => Ev K Γ δ tb fun y => OpD K r x y fun z => ∃ b, z = .d (.bool b) ∧ if b = true then Ev K Γ δ tc fun z' => OpD K r' y z' P else P (.d (.bool false))) : Ev K Γ δ (tChain r r' ta tb tc) P := fun σ H G R Q q =>
  h σ H G R _ fun v H1 G1 x R1 f1 r1 k1 h1 => h1 σ H1 G1 R1 _ fun w H2 G2 y R2 f2 r2 k2 h2 =>
    h2 H2 G2 v w R2.sub (r1.stay k1 R1 R R2 f2) r2 _ fun z H3 G3 u g r3 hu ⟨b, hb, p⟩ => by
      subst hb
      have R3 := R2.grow g
      refine ⟨b, Dp.bl_inv r3, ?_⟩
      cases b with
      | true =>
        have p' : Ev K Γ δ tc fun z' => OpD K r' y z' P := p
        refine p' σ H3 G3 R3 _ fun w' H4 G4 z' R4 f4 r4 k4 h4 => ?_
        refine h4 H4 G4 w w' R4.sub (r2.stay k2 R2 R1 R4 (g.fr.trans f4)) r4 _ fun zz H5 G5 uu g5 r5 hu5 p5 => ?_
        exact q zz H5 G5 uu (R4.grow g5) ((((f1.trans f2).trans g.fr).trans f4).trans g5.fr) r5 ((vok_res g5 hu5).mono (((f1.trans f2).trans g.fr).trans f4)) p5
      | false => exact q _ H3 G3 (.d (.bool false)) R3 ((f1.trans f2).trans g.fr) (.bl false) trivial p

/-! ### arguments -/
theorem ea_nil {P : List Vl → Prop} (h : P []) : EvA K Γ δ tNil P := fun σ H G R Q q => q [] H G [] R Fr.refl .nil (fun x hx => by cases hx) trivial h
theorem apart_cons {x : Vl} {xs : List Vl} {H H' G G' : Hp} (v : V) (hv : RelVl K H' G' v x) (hs : ∀ y ∈ xs, Vok δ H' y) (ha : Apart xs) : Apart (x :: xs) := by
  have key : ∀ p, H' p ≠ none → ∀ y ∈ xs, ∀ q, (∃ ys, y = .own q ys) ∨ (∃ ys, y = .dic q ys) → q ≠ p := fun p hp y hy q hq => by
    have k := hs y hy
    rcases hq with ⟨ys, rfl⟩ | ⟨ys, rfl⟩
    · intro e
      subst e
      exact hp k
    · intro e
      subst e
      exact hp k
  cases x with
  | own p ys => exact ⟨key p (hv.at p (by simp [Vl.ads])).2, ha⟩
  | dic p ys => exact ⟨key p (hv.at p (by simp [Vl.ads])).2, ha⟩
  | d _ => exact ha
  | vw _ _ => exact ha
  | vd _ _ => exact ha
  | src _ _ => exact ha
theorem ea_cons {tr : TA} {P : List Vl → Prop} (h : Ev K Γ δ te fun x => EvA K Γ δ tr fun xs => P (x :: xs)) : EvA K Γ δ (tCons te tr) P := fun σ H G R Q q =>
  h σ H G R _ fun v H1 G1 x R1 f1 r1 k1 h1 => h1 σ H1 G1 R1 _ fun vs H2 G2 xs R2 f2 r2 k2 a2 h2 =>
    q (v :: vs) H2 G2 (x :: xs) R2 (f1.trans f2) (.cons (r1.stay k1 R1 R R2 f2) r2) (fun y hy => by
      rcases List.mem_cons.mp hy with rfl | hy
      · exact k1
      · exact (k2 y hy).mono f1) (by
      exact apart_cons (H := H1) (H' := H1) (G := G1) (G' := G1) v r1 (fun y hy => k2 y hy) a2) h2

/-- a datum, whether of the data or a list that is read -/
def Vl.dat : Vl → Option D
  | .d x => some x
  | .vw _ xs => some (.list xs)
  | .own _ xs => some (.list xs)
  | _ => none
theorem RelVl.dat {H G : Hp} {v : V} {x : Vl} {d : D} (h : RelVl K H G v x) (e : Ex G H) (hd : x.dat = some d) : Dp K H v d := by
  cases x with
  | d y => cases hd; exact Dp.up h e
  | vw p xs =>
    cases hd
    obtain ⟨rfl, gp, vs, hp, ha⟩ := h
    exact .lst (hp) (DpAll.up ha e)
  | own p xs =>
    cases hd
    obtain ⟨rfl, gp, vs, hp, ha⟩ := h
    exact .lst (hp) (DpAll.up ha e)
  | vd p xs => cases hd
  | dic p xs => cases hd
  | src a c => cases hd
/-- the items of a list that is read -/
def Vl.lst : Vl → Option (List D)
  | .d (.list xs) => some xs
  | .vw _ xs => some xs
  | .own _ xs => some xs
  | _ => none
theorem RelVl.lst {H G : Hp} {v : V} {x : Vl} {ds : List D} (h : RelVl K H G v x) (e : Ex G H) (hd : x.lst = some ds) : ∃ a vs, v = .ref a ∧ H a = some (.lst vs) ∧ DpAll K G vs ds := by
  cases x with
  | d y =>
    cases y with
    | list xs =>
      cases hd
      obtain ⟨a, vs, h1, h2, h3⟩ := Dp.lst_inv h
      exact ⟨a, vs, h1, e _ _ h2, h3⟩
    | _ => cases hd
  | vw p xs =>
    cases hd
    obtain ⟨rfl, gp, vs, hp, ha⟩ := h
    exact ⟨p, vs, rfl, hp, ha⟩
  | own p xs =>
    cases hd
    obtain ⟨rfl, gp, vs, hp, ha⟩ := h
    exact ⟨p, vs, rfl, hp, ha⟩
  | vd p xs => cases hd
  | dic p xs => cases hd
  | src a c => cases hd
theorem RelVl.tup {H G : Hp} {v : V} {ds : List D} (h : RelVl K H G v (.d (.tuple ds))) (e : Ex G H) : ∃ a vs, v = .ref a ∧ SqT K H a vs ∧ DpAll K G vs ds := by
  obtain ⟨a, vs, h1, h2, h3⟩ := Dp.tup_inv h
  exact ⟨a, vs, h1, Evl.ex_t e h2, h3⟩

/-- data alone -/
def allD : List Vl → Option (List D)
  | [] => some []
  | .d x :: r => (allD r).map (x :: ·)
  | _ => none
theorem allD_rel {H G : Hp} : ∀ {xs : List Vl} {vs : List V} {ds : List D}, Paired (RelVl K H G) vs xs → allD xs = some ds → DpAll K G vs ds
  | [], _, _, h, e => by cases h; cases e; exact .nil
  | .d x :: r, _, _, h, e => by
    cases h with
    | cons h1 h2 =>
      cases q : allD r with
      | none => simp [allD, q] at e
      | some es =>
        simp [allD, q] at e
        subst e
        exact .cons h1 (allD_rel h2 q)
  | .vw _ _ :: _, _, _, _, e => by cases e
  | .vd _ _ :: _, _, _, _, e => by cases e
  | .own _ _ :: _, _, _, _, e => by cases e
  | .dic _ _ :: _, _, _, _, e => by cases e
  | .src _ _ :: _, _, _, _, e => by cases e
/-- (a, b, ..) -/
theorem ev_tup {ta : TA} (h : EvA K Γ δ ta fun xs => ∃ ds, allD xs = some ds ∧ ds.length ≤ 100000 ∧ P (.d (.tuple ds))) : Ev K Γ δ (tTup ta) P := fun σ H G R Q q =>
  h σ H G R _ fun vs H1 G1 xs R1 f1 r1 k1 a1 ⟨ds, e, hl, p⟩ => by
    have hd := allD_rel r1 e
    refine ⟨by rw [DpAll.len hd]; exact Nat.le_trans hl (by decide), fun p0 hp => ?_⟩
    have g : Grow H1 G1 (upd H1 p0 (.tup vs)) (upd G1 p0 (.tup vs)) := Grow.new R1.sub hp
    exact q _ _ _ (.d (.tuple ds)) (R1.grow g) (f1.trans g.fr) (Dp.tup (Evl.st_of upd_same) (DpAll.up hd g.g)) trivial p
/-- [a, b, ..] -/
theorem ev_lst {ta : TA} (h : EvA K Γ δ ta fun xs => ∃ ds, allD xs = some ds ∧ ds.length ≤ 100000 ∧ ∀ p, P (.own p ds)) : Ev K Γ δ (tLst ta) P := fun σ H G R Q q =>
  h σ H G R _ fun vs H1 G1 xs R1 f1 r1 k1 a1 ⟨ds, e, hl, p⟩ => by
    have hd := allD_rel r1 e
    refine ⟨by rw [DpAll.len hd]; exact Nat.le_trans hl (by decide), fun p0 hp => ?_⟩
    have g : Grow H1 G1 (upd H1 p0 (.lst vs)) G1 := Grow.newH R1.sub hp
    refine q _ _ _ (.own p0 ds) (R1.grow g) (f1.trans g.fr) ⟨rfl, ex_none R1.sub hp, vs, upd_same, hd⟩ ?_ (p p0)
    exact none_of fun u z => f1.t p0 (by rw [z]; simp) hp
/-- a builtin, a builtin class, called -/
theorem ev_cb1 {r : List V → Hp → VK → Prop} {ta : TA} (h : EvA K Γ δ ta fun xs => CaD K r xs P) : Ev K Γ δ (tCB r ta) P := fun σ H G R Q q =>
  h σ H G R _ fun vs H1 G1 xs R1 f1 r1 k1 a1 h1 => h1 H1 G1 vs R1.sub r1 _ fun z H3 G3 u g r3 hu p => q z H3 G3 u (R1.grow g) (f1.trans g.fr) r3 ((vok_res g hu).mono f1) p
/-- a new list becomes a datum -/
theorem ev_frz (h : Ev K Γ δ te fun x => ∃ p xs, x = .own p xs ∧ P (.d (.list xs))) : Ev K Γ δ te P := fun σ H G R Q q =>
  h σ H G R _ fun v H1 G1 x R1 f1 r1 k1 ⟨p, xs, hx, hp⟩ => by
    subst hx
    obtain ⟨rfl, gp, vs, h1, ha⟩ := r1
    have hn : H p = none := k1
    have hs : ∀ s ∈ δ, p ∉ s.ads := R.nin hn
    have eg : Ex G1 (upd G1 p (.lst vs)) := Evl.Ex.new gp

    refine q (.ref p) H1 (upd G1 p (.lst vs)) (.d (.list xs)) ⟨R1.len, fun i s e => ?_, R1.ap, R1.ow, fun a o h => ?_, R1.fr, R1.h0, R1.g0.trans eg, fun a o h hh => ?_⟩ ⟨f1.g.trans eg, f1.h, f1.t, fun a o h hh => ?_⟩ (Dp.lst upd_same (DpAll.up ha eg)) trivial hp
    · obtain ⟨o, h2, h3⟩ := R1.sl i s e
      refine ⟨o, h2, fun y hy => ?_⟩
      obtain ⟨w, h4, h5⟩ := h3 y hy
      refine ⟨w, h4, h5.keep eg (fun _ _ => rfl) fun a hax => ?_⟩
      have : a ≠ p := fun z => hs s (List.mem_of_getElem? e) (by rw [← z, ← Sl.rd_ads hy]; exact hax)
      rw [upd_ne this]
      exact (h5.at a hax).1
    · by_cases hb : a = p
      · subst hb
        rw [upd_same] at h
        cases h
        exact h1
      · rw [upd_ne hb] at h
        exact R1.sub a o h
    · by_cases hb : a = p
      · subst hb
        exact absurd (R.new hn) hh
      · rw [upd_ne hb] at h
        exact R1.gn a o h hh
    · by_cases hb : a = p
      · subst hb
        exact absurd hn hh
      · rw [upd_ne hb] at h
        exact f1.n a o h hh

end
end Dl

/-! Dl3: statements, loops, comprehensions, defs. -/
namespace Dl
open PySem L2

structure DE where
  nx : List Sl → Prop
  rt : D → List Sl → Prop
  bk : List Sl → Prop := fun _ => False
  ct : List Sl → Prop := fun _ => False
/-- what is wanted of slots serves what is wanted of the frame -/
structure Lf (K : Fg) (Γ : Ga) (G : Hp) (E : DE) (D : Ends) : Prop where
  nx : ∀ σ H' G' δ, RelS K Γ σ H' G' δ → Ex G G' → E.nx δ → D.nx σ H'
  rt : ∀ v x σ H' G' δ, RelS K Γ σ H' G' δ → Ex G G' → Dp K G' v x → E.rt x δ → D.rt v H'
  bk : ∀ σ H' G' δ, RelS K Γ σ H' G' δ → Ex G G' → E.bk δ → D.bk σ H'
  ct : ∀ σ H' G' δ, RelS K Γ σ H' G' δ → Ex G G' → E.ct δ → D.ct σ H'
theorem Lf.up {K : Fg} {Γ : Ga} {G G1 : Hp} {E : DE} {D : Ends} (L : Lf K Γ G E D) (e : Ex G G1) : Lf K Γ G1 E D :=
  ⟨fun σ H' G' δ R x h => L.nx σ H' G' δ R (e.trans x) h, fun v y σ H' G' δ R x d h => L.rt v y σ H' G' δ R (e.trans x) d h, fun σ H' G' δ R x h => L.bk σ H' G' δ R (e.trans x) h, fun σ H' G' δ R x h => L.ct σ H' G' δ R (e.trans x) h⟩
def SD (K : Fg) (Γ : Ga) (δ : List Sl) (ts : TS) (E : DE) : Prop := ∀ σ H G, RelS K Γ σ H G δ → ∀ D : Ends, Lf K Γ G E D → ts D σ H
/-- a target takes a datum -/
def GD (K : Fg) (Γ : Ga) (δ : List Sl) (g : TG) (x : D) (P : List Sl → Prop) : Prop := ∀ v σ H G, RelS K Γ σ H G δ → Dp K G v x → ∀ Q : L2.St → Hp → Prop, (∀ σ' δ', RelS K Γ σ' H G δ' → P δ' → Q σ' H) → g v σ H Q
def GDs (K : Fg) (Γ : Ga) (δ : List Sl) (g : TGs) (xs : List D) (P : List Sl → Prop) : Prop := ∀ vs σ H G, RelS K Γ σ H G δ → DpAll K G vs xs → ∀ Q : L2.St → Hp → Prop, (∀ σ' δ', RelS K Γ σ' H G δ' → P δ' → Q σ' H) → g vs σ H Q
/-- what is walked: data xs, one by one -/
structure WalkD (K : Fg) (J : It) (G0 : Hp) (xs : List D) : Prop where
  go : ∀ H G i, Ex G0 G → Ex G H → i < xs.length → J.go i H
  stop : ∀ H G, Ex G0 G → Ex G H → J.stop xs.length H
  yld : ∀ H G i x H', Ex G0 G → Ex G H → i < xs.length → J.yld i H x H' → ∃ G' d, Grow H G H' G' ∧ xs[i]? = some d ∧ Dp K G' x d
def EvI (K : Fg) (Γ : Ga) (δ : List Sl) (ti : TI) (P : List D → Prop) : Prop := ∀ σ H G, RelS K Γ σ H G δ → ∀ R0 : It → Hp → Prop,
  (∀ J H' G' xs, RelS K Γ σ H' G' δ → Fr δ H G H' G' → WalkD K J G' xs → P xs → R0 J H') → ti σ H R0

section
variable {K : Fg} {Γ : Ga} {δ : List Sl} {te ta tb tc : TE} {t u : TT} {E : DE} {ts tu tw : TS} {g : TG}
theorem sd_seq (h : SD K Γ δ ts { E with nx := fun δ' => SD K Γ δ' tu E }) : SD K Γ δ (tSeq ts tu) E := fun σ H G R D L =>
  h σ H G R { D with nx := tu D } ⟨fun σ' H' G' δ' R' e q => q σ' H' G' R' D (L.up e), L.rt, L.bk, L.ct⟩
theorem sd_next (h : E.nx δ) : SD K Γ δ tNext E := fun σ H G R D L => L.nx σ H G δ R (Evl.Ex.refl G) h
theorem sd_brk (h : E.bk δ) : SD K Γ δ tBreak E := fun σ H G R D L => L.bk σ H G δ R (Evl.Ex.refl G) h
theorem sd_cont (h : E.ct δ) : SD K Γ δ tCont E := fun σ H G R D L => L.ct σ H G δ R (Evl.Ex.refl G) h
theorem sd_retN (h : E.rt .none δ) : SD K Γ δ tRetN E := fun σ H G R D L => L.rt .non .none σ H G δ R (Evl.Ex.refl G) .non h
theorem sd_ret (h : Ev K Γ δ te fun x => ∃ d, x = .d d ∧ E.rt d δ) : SD K Γ δ (tRet te) E := fun σ H G R D L =>
  h σ H G R _ fun v H' G' x R' f r k ⟨d, hd, q⟩ => by
    subst hd
    exact L.rt v d σ H' G' δ R' f.g r q
theorem sd_if (h : EvT K Γ δ t fun b => if b = true then SD K Γ δ tu E else SD K Γ δ tw E) : SD K Γ δ (tIfS t tu tw) E := fun σ H G R D L =>
  h σ H G R _ fun b H' G' R' f q => by
    cases b with
    | true => exact (show SD K Γ δ tu E from q) σ H' G' R' D (L.up f.g)
    | false => exact (show SD K Γ δ tw E from q) σ H' G' R' D (L.up f.g)
theorem sd_drop (h : Ev K Γ δ te fun _ => E.nx δ) : SD K Γ δ (tDrop te) E := fun σ H G R D L =>
  h σ H G R _ fun v H' G' x R' f r k q => L.nx σ H' G' δ R' f.g q
/-- what a value is to a slot that takes it -/
def Vl.sl : Vl → Option Sl
  | .d x => some (.d x)
  | .own p xs => some (.own p xs)
  | .dic p kvs => some (.dic p kvs)
  | _ => none
theorem take_sl {σ : L2.St} {H G H' G' : Hp} {v : V} {x : Vl} {s : Sl} (R : RelS K Γ σ H G δ) (R' : RelS K Γ σ H' G' δ) (r : RelVl K H' G' v x) (k : Vok δ H x) (hs : x.sl = some s) (i : Nat) : RelS K Γ (σ.set i (some v)) H' G' (δ.set i s) := by
  cases x with
  | d y =>
    cases hs
    exact R'.setD i r
  | own p xs =>
    cases hs
    exact R'.set i (fun y hy => by cases hy; exact r) (R.new k) fun a ha t ht => by
      obtain rfl : a = p := by simpa [Sl.ads] using ha
      exact R.nin k t ht
  | dic p xs =>
    cases hs
    exact R'.set i (fun y hy => by cases hy; exact r) (R.new k) fun a ha t ht => by
      obtain rfl : a = p := by simpa [Sl.ads] using ha
      exact R.nin k t ht
  | _ => cases hs
theorem sd_asg {i : Nat} (h : Ev K Γ δ te fun x => ∃ s, x.sl = some s ∧ E.nx (δ.set i s)) : SD K Γ δ (tAsg te (gName i)) E := fun σ H G R D L =>
  h σ H G R _ fun v H' G' x R' f r k ⟨s, hs, q⟩ => L.nx _ H' G' _ (take_sl R R' r k hs i) f.g q
/-- a, b = x, y -/
theorem sd_par {i j : Nat} {ta : TA} (h : EvA K Γ δ ta fun xs => ∃ x y s t, xs = [x, y] ∧ x.sl = some s ∧ y.sl = some t ∧ E.nx ((δ.set i s).set j t)) : SD K Γ δ (tPar i j ta) E := fun σ H G R D L =>
  h σ H G R _ fun vs H' G' xs R' f r k ap ⟨x, y, s, t, hx, hs, ht, q⟩ => by
    subst hx
    cases r with
    | @cons v _ _ _ r1 r =>
      cases r with
      | @cons w _ _ _ r2 r =>
        cases r
        refine ⟨v, w, rfl, L.nx _ H' G' _ ?_ f.g q⟩
        have R1 := take_sl R R' r1 (k x (by simp)) hs i
        have k2 := k y (by simp)
        cases y with
        | d z => cases ht; exact R1.setD j r2
        | own p zs =>
          cases ht
          refine R1.set j (fun y hy => by cases hy; exact r2) (R.new k2) fun a ha t ht hat => ?_
          obtain rfl : a = p := by simpa [Sl.ads] using ha
          rcases List.mem_or_eq_of_mem_set ht with h | h
          · exact R.nin k2 t h hat
          · subst h
            cases x with
            | d z => cases hs; cases hat
            | own p' zs' =>
              cases hs
              obtain rfl : a = p' := by simpa [Sl.ads] using hat
              exact ap.1 (.own a zs) (by simp) a (.inl ⟨zs, rfl⟩) rfl
            | dic p' zs' =>
              cases hs
              obtain rfl : a = p' := by simpa [Sl.ads] using hat
              exact ap.1 (.own a zs) (by simp) a (.inl ⟨zs, rfl⟩) rfl
            | _ => cases hs
        | dic p zs =>
          cases ht
          refine R1.set j (fun y hy => by cases hy; exact r2) (R.new k2) fun a ha t ht hat => ?_
          obtain rfl : a = p := by simpa [Sl.ads] using ha
          rcases List.mem_or_eq_of_mem_set ht with h | h
          · exact R.nin k2 t h hat
          · subst h
            cases x with
            | d z => cases hs; cases hat
            | own p' zs' =>
              cases hs
              obtain rfl : a = p' := by simpa [Sl.ads] using hat
              exact ap.1 (.dic a zs) (by simp) a (.inr ⟨zs, rfl⟩) rfl
            | dic p' zs' =>
              cases hs
              obtain rfl : a = p' := by simpa [Sl.ads] using hat
              exact ap.1 (.dic a zs) (by simp) a (.inr ⟨zs, rfl⟩) rfl
            | _ => cases hs
        | _ => cases ht
theorem sd_frz (i : Nat) {p : Addr} {xs : List D} (e : δ[i]? = some (.own p xs)) (h : SD K Γ (δ.set i (.d (.list xs))) ts E) : SD K Γ δ ts E := fun σ H G R D L => by
  obtain ⟨G', R', e'⟩ := R.freeze e
  exact h σ H G' R' D (L.up e')
theorem sd_forget (i : Nat) (h : SD K Γ (δ.set i .un) ts E) : SD K Γ δ ts E := fun σ H G R D L => h σ H G (R.forget i) D L
/-- name op= e, ints -/
theorem sd_aug {i : Nat} {f : Int → Int → Int} {a : Int} (e : δ[i]? = some (.d (.int a))) (h : Ev K Γ δ te fun x => ∃ b, x = .d (.int b) ∧ E.nx (δ.set i (.d (.int (f a b))))) : SD K Γ δ (tAug i te (ipI f)) E := fun σ H G R D L => by
  obtain ⟨v, h1, h2⟩ := R.rd e rfl
  obtain rfl := Dp.int_inv h2
  refine ⟨.int a, h1, h σ H G R _ fun w H' G' x R' fr r k ⟨b, hb, q⟩ => ?_⟩
  subst hb
  obtain rfl := Dp.int_inv r
  exact ⟨a, b, rfl, rfl, L.nx _ H' G' _ (R'.setD i (.int _)) fr.g q⟩

/-! ### targets -/
theorem gd_name {i : Nat} {x : D} {P : List Sl → Prop} (h : P (δ.set i (.d x))) : GD K Γ δ (gName i) x P := fun v σ H G R r Q q => q _ _ (R.setD i r) h
theorem gd_tup {n : Nat} {gs : TGs} {xs : List D} {P : List Sl → Prop} (hn : xs.length = n) (h : GDs K Γ δ gs xs P) : GD K Γ δ (gTup K n gs) (.tuple xs) P := fun v σ H G R r Q q => by
  obtain ⟨a, vs, rfl, h1, h2⟩ := Dp.tup_inv r
  exact ⟨a, vs, rfl, Evl.ex_t R.sub h1, by rw [DpAll.len h2]; exact hn, h vs σ H G R h2 Q q⟩
theorem gds_nil {P : List Sl → Prop} (h : P δ) : GDs K Γ δ gNil [] P := fun vs σ H G R r Q q => by
  cases r
  exact ⟨rfl, q σ δ R h⟩
theorem gds_cons {gs : TGs} {x : D} {xs : List D} {P : List Sl → Prop} (h : GD K Γ δ g x fun δ' => GDs K Γ δ' gs xs P) : GDs K Γ δ (gCons g gs) (x :: xs) P := fun vs σ H G R r Q q => by
  cases r with
  | cons r1 r2 => exact ⟨_, _, rfl, h _ σ H G R r1 _ fun σ' δ' R' q' => q' _ σ' H G R' r2 Q q⟩
theorem sd_asgG (h : Ev K Γ δ te fun x => ∃ d, x = .d d ∧ GD K Γ δ g d E.nx) : SD K Γ δ (tAsg te g) E := fun σ H G R D L =>
  h σ H G R _ fun v H' G' x R' f r k ⟨d, hd, q⟩ => by
    subst hd
    exact q v σ H' G' R' r _ fun σ' δ' R'' p => L.nx σ' H' G' δ' R'' f.g p

/-! ### loops -/
theorem walk_list {a : Addr} {vs : List V} {xs : List D} {G0 : Hp} (hq : SqL K G0 a vs) (hd : DpAll K G0 vs xs) : WalkD K (Itl K a) G0 xs where
  go := fun H G i e e' hi => by
    obtain ⟨v, hv, _⟩ := DpAll.get hd (List.getElem?_eq_getElem hi)
    exact ⟨vs, v, Evl.ex_l (e.trans e') hq, hv⟩
  stop := fun H G e e' => ⟨vs, Evl.ex_l (e.trans e') hq, by rw [DpAll.len hd]; exact Nat.le_refl _⟩
  yld := fun H G i x H' e e' hi hy => by
    obtain ⟨rfl, hx⟩ := hy
    obtain ⟨d, h1, h2⟩ := DpAll.getV hd (hx vs (Evl.ex_l (e.trans e') hq))
    exact ⟨G, d, Grow.refl e', h1, Dp.up h2 e⟩
theorem walk_tup {a : Addr} {vs : List V} {xs : List D} {G0 : Hp} (hq : SqT K G0 a vs) (hd : DpAll K G0 vs xs) : WalkD K (Itt K a) G0 xs where
  go := fun H G i e e' hi => by
    obtain ⟨v, hv, _⟩ := DpAll.get hd (List.getElem?_eq_getElem hi)
    exact ⟨vs, v, Evl.ex_t (e.trans e') hq, hv⟩
  stop := fun H G e e' => ⟨vs, Evl.ex_t (e.trans e') hq, by rw [DpAll.len hd]; exact Nat.le_refl _⟩
  yld := fun H G i x H' e e' hi hy => by
    obtain ⟨rfl, hx⟩ := hy
    obtain ⟨d, h1, h2⟩ := DpAll.getV hd (hx vs (Evl.ex_t (e.trans e') hq))
    exact ⟨G, d, Grow.refl e', h1, Dp.up h2 e⟩
def rngD (lo : Int) (n : Nat) : List D := (List.range n).map fun (i : Nat) => PyData.int (lo + (i : Int))
theorem rngD_len (lo : Int) (n : Nat) : (rngD lo n).length = n := by simp [rngD]
theorem rngD_get {lo : Int} {n i : Nat} (h : i < n) : (rngD lo n)[i]? = some (.int (lo + (i : Int))) := by simp [rngD, h]
theorem walk_rng {lo : Int} {n : Nat} {G0 : Hp} : WalkD K (Itr lo n) G0 (rngD lo n) where
  go := fun H G i e e' hi => by rw [rngD_len] at hi; exact hi
  stop := fun H G e e' => by rw [rngD_len]; exact Nat.le_refl _
  yld := fun H G i x H' e e' hi hy => by
    rw [rngD_len] at hi
    obtain ⟨rfl, rfl⟩ := hy
    exact ⟨G, _, Grow.refl e', rngD_get hi, .int _⟩
/-- pairs (i, x) -/
def enumD : Nat → List D → List D
  | _, [] => []
  | i, x :: r => .tuple [.int (i : Int), x] :: enumD (i + 1) r
theorem enumD_len : ∀ (i : Nat) (xs : List D), (enumD i xs).length = xs.length
  | _, [] => rfl
  | i, _ :: r => by
    show _ + 1 = _ + 1
    rw [enumD_len]
theorem enumD_get : ∀ {i : Nat} {xs : List D} {j : Nat} {x : D}, xs[j]? = some x → (enumD i xs)[j]? = some (.tuple [.int ((i + j : Nat) : Int), x])
  | _, [], _, _, h => by simp at h
  | i, y :: r, 0, x, h => by
    have e := Option.some.inj h
    subst e
    rfl
  | i, y :: r, j + 1, x, h => by
    have := enumD_get (i := i + 1) (xs := r) (j := j) h
    rw [show i + 1 + j = i + (j + 1) by omega] at this
    exact this
theorem walk_enum {a : Addr} {vs : List V} {xs : List D} {G0 : Hp} (hq : SqL K G0 a vs) (hd : DpAll K G0 vs xs) : WalkD K (Ite K a) G0 (enumD 0 xs) where
  go := fun H G i e e' hi => by
    rw [enumD_len] at hi
    obtain ⟨v, hv, _⟩ := DpAll.get hd (List.getElem?_eq_getElem hi)
    exact ⟨vs, v, Evl.ex_l (e.trans e') hq, hv⟩
  stop := fun H G e e' => ⟨vs, Evl.ex_l (e.trans e') hq, by rw [DpAll.len hd, enumD_len]; exact Nat.le_refl _⟩
  yld := fun H G i x H' e e' hi hy => by
    rw [enumD_len] at hi
    obtain ⟨T, y, rfl, hT, rfl, hx⟩ := hy
    obtain ⟨d, h1, h2⟩ := DpAll.getV hd (hx vs (Evl.ex_l (e.trans e') hq))
    have g : Grow H G (upd H T (.tup [.int (i : Nat), y])) (upd G T (.tup [.int (i : Nat), y])) := Grow.new e' hT
    refine ⟨_, _, g, enumD_get h1, Dp.tup (Evl.st_of upd_same) (.cons ?_ (.cons (Dp.up h2 (e.trans g.g)) .nil))⟩
    rw [Nat.zero_add]
    exact .int _
/-- pairs of two -/
def zipD : List D → List D → List D
  | x :: r, y :: q => .tuple [x, y] :: zipD r q
  | _, _ => []
theorem zipD_get : ∀ {xs ys : List D} {j : Nat} {x y : D}, xs[j]? = some x → ys[j]? = some y → (zipD xs ys)[j]? = some (.tuple [x, y])
  | [], _, _, _, _, h, _ => by simp at h
  | _ :: _, [], _, _, _, _, h => by simp at h
  | a :: r, b :: q, 0, x, y, h, h' => by
    have e := Option.some.inj h
    have e' := Option.some.inj h'
    subst e e'
    rfl
  | a :: r, b :: q, j + 1, x, y, h, h' => zipD_get (xs := r) (ys := q) (j := j) h h'
theorem zipD_len : ∀ xs ys : List D, (zipD xs ys).length = min xs.length ys.length
  | [], ys => by simp [zipD]
  | _ :: _, [] => by simp [zipD]
  | _ :: r, _ :: q => by
    show _ + 1 = min (_ + 1) (_ + 1)
    rw [zipD_len r q]
    omega
theorem walk_zipL {a b : Addr} {vs ws : List V} {xs ys : List D} {G0 : Hp} (hq : SqL K G0 a vs) (hd : DpAll K G0 vs xs) (hq' : SqL K G0 b ws) (hd' : DpAll K G0 ws ys) : WalkD K (Itz K a b) G0 (zipD xs ys) where
  go := fun H G i e e' hi => by
    rw [zipD_len] at hi
    obtain ⟨v, hv, _⟩ := DpAll.get hd (List.getElem?_eq_getElem (show i < xs.length by omega))
    obtain ⟨w, hw, _⟩ := DpAll.get hd' (List.getElem?_eq_getElem (show i < ys.length by omega))
    exact ⟨vs, ws, v, w, Evl.ex_l (e.trans e') hq, Evl.ex_l (e.trans e') hq', hv, hw⟩
  stop := fun H G e e' => ⟨vs, ws, Evl.ex_l (e.trans e') hq, Evl.ex_l (e.trans e') hq', by
    rw [DpAll.len hd, DpAll.len hd', zipD_len]
    omega⟩
  yld := fun H G i x H' e e' hi hy => by
    obtain ⟨T, y, z, rfl, hT, rfl, hx, hz⟩ := hy
    obtain ⟨d, h1, h2⟩ := DpAll.getV hd (hx vs (Evl.ex_l (e.trans e') hq))
    obtain ⟨d', h1', h2'⟩ := DpAll.getV hd' (hz ws (Evl.ex_l (e.trans e') hq'))
    have g : Grow H G (upd H T (.tup [y, z])) (upd G T (.tup [y, z])) := Grow.new e' hT
    exact ⟨_, _, g, zipD_get h1 h1', Dp.tup (Evl.st_of upd_same) (.cons (Dp.up h2 (e.trans g.g)) (.cons (Dp.up h2' (e.trans g.g)) .nil))⟩
theorem walk_zipT {a b : Addr} {vs ws : List V} {xs ys : List D} {G0 : Hp} (hq : SqT K G0 a vs) (hd : DpAll K G0 vs xs) (hq' : SqT K G0 b ws) (hd' : DpAll K G0 ws ys) : WalkD K (RZ.ItzT K a b) G0 (zipD xs ys) where
  go := fun H G i e e' hi => by
    rw [zipD_len] at hi
    obtain ⟨v, hv, _⟩ := DpAll.get hd (List.getElem?_eq_getElem (show i < xs.length by omega))
    obtain ⟨w, hw, _⟩ := DpAll.get hd' (List.getElem?_eq_getElem (show i < ys.length by omega))
    exact ⟨vs, ws, v, w, Evl.ex_t (e.trans e') hq, Evl.ex_t (e.trans e') hq', hv, hw⟩
  stop := fun H G e e' => ⟨vs, ws, Evl.ex_t (e.trans e') hq, Evl.ex_t (e.trans e') hq', by
    rw [DpAll.len hd, DpAll.len hd', zipD_len]
    omega⟩
  yld := fun H G i x H' e e' hi hy => by
    obtain ⟨T, y, z, rfl, hT, rfl, hx, hz⟩ := hy
    obtain ⟨d, h1, h2⟩ := DpAll.getV hd (hx vs (Evl.ex_t (e.trans e') hq))
    obtain ⟨d', h1', h2'⟩ := DpAll.getV hd' (hz ws (Evl.ex_t (e.trans e') hq'))
    have g : Grow H G (upd H T (.tup [y, z])) (upd G T (.tup [y, z])) := Grow.new e' hT
    exact ⟨_, _, g, zipD_get h1 h1', Dp.tup (Evl.st_of upd_same) (.cons (Dp.up h2 (e.trans g.g)) (.cons (Dp.up h2' (e.trans g.g)) .nil))⟩
/-! iterables -/
theorem ei_list {tl : TE} {P : List D → Prop} (h : Ev K Γ δ tl fun x => ∃ xs, x = .d (.list xs) ∧ P xs) : EvI K Γ δ (iList K tl) P := fun σ H G R Q q =>
  h σ H G R _ fun v H1 G1 x R1 f1 r1 k1 ⟨xs, hx, p⟩ => by
    subst hx
    obtain ⟨a, vs, rfl, h1, h2⟩ := Dp.lst_inv r1
    replace h1 := Evl.sq_of (K := K) h1
    exact ⟨a, rfl, ⟨vs, Evl.ex_l R1.sub h1⟩, q _ H1 G1 xs R1 f1 (walk_list h1 h2) p⟩
theorem ei_tup {tl : TE} {P : List D → Prop} (h : Ev K Γ δ tl fun x => ∃ xs, x = .d (.tuple xs) ∧ P xs) : EvI K Γ δ (iTup K tl) P := fun σ H G R Q q =>
  h σ H G R _ fun v H1 G1 x R1 f1 r1 k1 ⟨xs, hx, p⟩ => by
    subst hx
    obtain ⟨a, vs, rfl, h1, h2⟩ := Dp.tup_inv r1
    exact ⟨a, rfl, ⟨vs, Evl.ex_t R1.sub h1⟩, q _ H1 G1 xs R1 f1 (walk_tup h1 h2) p⟩
theorem ei_rng1 {ta : TA} {P : List D → Prop} (h : EvA K Γ δ ta fun xs => ∃ n : Int, xs = [.d (.int n)] ∧ n < 2 ^ 62 ∧ -(2 ^ 62) ≤ n ∧ P (rngD 0 n.toNat)) : EvI K Γ δ (iRng1 ta) P := fun σ H G R Q q =>
  h σ H G R _ fun vs H1 G1 x R1 f1 r1 k1 a1 ⟨n, hx, h1, h2, p⟩ => by
    subst hx
    cases r1 with
    | cons r1 r2 =>
      cases r2
      obtain rfl := Dp.int_inv r1
      exact ⟨n, rfl, h2, h1, q _ H1 G1 _ R1 f1 walk_rng p⟩
theorem ei_rng2 {ta : TA} {P : List D → Prop} (h : EvA K Γ δ ta fun xs => ∃ m n : Int, xs = [.d (.int m), .d (.int n)] ∧ (-(2 ^ 62) ≤ m ∧ m < 2 ^ 62 ∧ -(2 ^ 62) ≤ n ∧ n < 2 ^ 62) ∧ P (rngD m (n - m).toNat)) : EvI K Γ δ (iRng2 ta) P := fun σ H G R Q q =>
  h σ H G R _ fun vs H1 G1 x R1 f1 r1 k1 a1 ⟨m, n, hx, h1, p⟩ => by
    subst hx
    cases r1 with
    | cons r1 r2 =>
      cases r2 with
      | cons r2 r3 =>
        cases r3
        obtain rfl := Dp.int_inv r1
        obtain rfl := Dp.int_inv r2
        exact ⟨m, n, rfl, h1, q _ H1 G1 _ R1 f1 walk_rng p⟩
theorem ei_enum {ta : TA} {P : List D → Prop} (h : EvA K Γ δ ta fun xs => ∃ ds, xs = [.d (.list ds)] ∧ P (enumD 0 ds)) : EvI K Γ δ (iEnum K ta) P := fun σ H G R Q q =>
  h σ H G R _ fun vs H1 G1 x R1 f1 r1 k1 a1 ⟨ds, hx, p⟩ => by
    subst hx
    cases r1 with
    | cons r1 r2 =>
      cases r2
      obtain ⟨a, vs, rfl, h1, h2⟩ := Dp.lst_inv r1
      replace h1 := Evl.sq_of (K := K) h1
      exact ⟨a, vs, rfl, Evl.ex_l R1.sub h1, q _ H1 G1 _ R1 f1 (walk_enum h1 h2) p⟩
theorem ei_zip {ta : TA} {P : List D → Prop} (h : EvA K Γ δ ta fun xs => ∃ ds es, (xs = [.d (.list ds), .d (.list es)] ∨ xs = [.d (.tuple ds), .d (.tuple es)]) ∧ P (zipD ds es)) : EvI K Γ δ (RZ.iZipA K ta) P := fun σ H G R Q q =>
  h σ H G R _ fun vs H1 G1 x R1 f1 r1 k1 a1 ⟨ds, es, hx, p⟩ => by
    rcases hx with hx | hx
    · subst hx
      cases r1 with
      | cons r1 r2 =>
        cases r2 with
        | cons r2 r3 =>
          cases r3
          obtain ⟨a, vs, rfl, h1, h2⟩ := Dp.lst_inv r1
          replace h1 := Evl.sq_of (K := K) h1
          obtain ⟨b, ws, rfl, h3, h4⟩ := Dp.lst_inv r2
          replace h3 := Evl.sq_of (K := K) h3
          exact ⟨a, b, vs, ws, rfl, .inl ⟨Evl.ex_l R1.sub h1, Evl.ex_l R1.sub h3, q _ H1 G1 _ R1 f1 (walk_zipL h1 h2 h3 h4) p⟩⟩
    · subst hx
      cases r1 with
      | cons r1 r2 =>
        cases r2 with
        | cons r2 r3 =>
          cases r3
          obtain ⟨a, vs, rfl, h1, h2⟩ := Dp.tup_inv r1
          obtain ⟨b, ws, rfl, h3, h4⟩ := Dp.tup_inv r2
          exact ⟨a, b, vs, ws, rfl, .inr ⟨Evl.ex_t R1.sub h1, Evl.ex_t R1.sub h3, q _ H1 G1 _ R1 f1 (walk_zipT h1 h2 h3 h4) p⟩⟩
theorem sd_for {ti : TI} (h : EvI K Γ δ ti fun xs => ∃ I : Nat → List Sl → Prop, I 0 δ ∧
    (∀ i x δ', xs[i]? = some x → I i δ' → GD K Γ δ' g x fun δ'' => SD K Γ δ'' tu { nx := I (i + 1), rt := E.rt, bk := E.nx, ct := I (i + 1) }) ∧ (∀ δ', I xs.length δ' → E.nx δ')) : SD K Γ δ (tFor ti g tu) E := fun σ H G R D L =>
  h σ H G R _ fun J H1 G1 xs R1 f1 wk ⟨I, h0, hs, hd⟩ => by
    refine ⟨fun i m σ H => i + m = xs.length ∧ ∃ G' δ', RelS K Γ σ H G' δ' ∧ Ex G1 G' ∧ I i δ', ⟨xs.length, by omega, G1, δ, R1, Evl.Ex.refl G1, h0⟩, fun i m σ2 H2 ⟨hi, G2, δ2, R2, e2, h2⟩ => ?_⟩
    by_cases hm : m = 0
    · subst hm
      have : i = xs.length := by omega
      subst this
      exact .inl ⟨wk.stop H2 G2 e2 R2.sub, L.nx σ2 H2 G2 δ2 R2 (f1.g.trans e2) (hd δ2 h2)⟩
    · have hlt : i < xs.length := by omega
      refine .inr ⟨wk.go H2 G2 i e2 R2.sub hlt, fun σ' H' => ∃ G' δ', RelS K Γ σ' H' G' δ' ∧ Ex G1 G' ∧ I (i + 1) δ', fun σ' H' hN => ⟨m - 1, by omega, by omega, hN⟩, fun x H' hy => ?_⟩
      obtain ⟨G', d, gr, hx, hdp⟩ := wk.yld H2 G2 i x H' e2 R2.sub hlt hy
      have R3 := R2.grow gr
      refine hs i d δ2 hx h2 x σ2 H' G' R3 hdp _ fun σ3 δ3 R4 q => ?_
      refine q σ3 H' G' R4 _ ⟨fun σ' H'' G'' δ' R' e' q' => ⟨G'', δ', R', (e2.trans gr.g).trans e', q'⟩, fun v y σ' H'' G'' δ' R' e' dd q' => L.rt v y σ' H'' G'' δ' R' (((f1.g.trans e2).trans gr.g).trans e') dd q', fun σ' H'' G'' δ' R' e' q' => L.nx σ' H'' G'' δ' R' (((f1.g.trans e2).trans gr.g).trans e') q', fun σ' H'' G'' δ' R' e' q' => ⟨G'', δ', R', (e2.trans gr.g).trans e', q'⟩⟩
theorem sd_while (I : Nat → List Sl → Prop) (m0 : Nat) (h0 : I m0 δ) (h : ∀ m δ', I m δ' → EvT K Γ δ' t fun b => if b = true then SD K Γ δ' tu { nx := fun δ'' => ∃ m', m' < m ∧ I m' δ'', rt := E.rt, bk := E.nx, ct := fun δ'' => ∃ m', m' < m ∧ I m' δ'' } else E.nx δ') : SD K Γ δ (tWhile t tu) E := fun σ H G R D L => by
  refine ⟨fun m σ H => ∃ G' δ', RelS K Γ σ H G' δ' ∧ Ex G G' ∧ I m δ', ⟨m0, G, δ, R, Evl.Ex.refl G, h0⟩, fun m σ2 H2 ⟨G2, δ2, R2, e2, h2⟩ => ?_⟩
  refine h m δ2 h2 σ2 H2 G2 R2 _ fun b H3 G3 R3 f3 q => ?_
  cases b with
  | true =>
    rw [if_pos rfl] at q ⊢
    refine ⟨fun σ' H' => ∃ m', m' < m ∧ ∃ G' δ', RelS K Γ σ' H' G' δ' ∧ Ex G G' ∧ I m' δ', fun σ' H' hN => hN, ?_⟩
    refine q σ2 H3 G3 R3 _ ⟨fun σ' H'' G'' δ' R' e' ⟨m', hm, q'⟩ => ⟨m', hm, G'', δ', R', (e2.trans f3.g).trans e', q'⟩, fun v y σ' H'' G'' δ' R' e' dd q' => L.rt v y σ' H'' G'' δ' R' ((e2.trans f3.g).trans e') dd q', fun σ' H'' G'' δ' R' e' q' => L.nx σ' H'' G'' δ' R' ((e2.trans f3.g).trans e') q', fun σ' H'' G'' δ' R' e' ⟨m', hm, q'⟩ => ⟨m', hm, G'', δ', R', (e2.trans f3.g).trans e', q'⟩⟩
  | false =>
    rw [if_neg Bool.false_ne_true] at q ⊢
    exact L.nx σ2 H3 G3 δ2 R3 (e2.trans f3.g) q

/-! ### comprehensions -/
def wipeD (δ : List Sl) : List Nat → List Sl
  | [] => δ
  | i :: r => (wipeD δ r).set i .un
theorem wipe_def (σ : L2.St) (i : Nat) (r : List Nat) : wipe σ (i :: r) = (wipe σ r).set i none := rfl
def NoA (vs : List Nat) (δ : List Sl) : Prop := ∀ k ∈ vs, ∀ s, δ[k]? = some s → s.ads = []
/-- a target of a comprehension: only the slots at vs change -/
def GDv (K : Fg) (Γ : Ga) (vs : List Nat) (δ : List Sl) (g : TG) (x : D) (P : List Sl → Prop) : Prop := ∀ v σ H G, RelS K Γ σ H G δ → Dp K G v x → ∀ Q : L2.St → Hp → Prop,
  (∀ σ' δ', RelS K Γ σ' H G δ' → σ'.length = σ.length → (∀ k, k ∉ vs → σ'[k]? = σ[k]?) → (∀ k, k ∉ vs → δ'[k]? = δ[k]?) → (NoA vs δ → NoA vs δ') → P δ' → Q σ' H) → g v σ H Q
def GDvs (K : Fg) (Γ : Ga) (vs : List Nat) (δ : List Sl) (g : TGs) (xs : List D) (P : List Sl → Prop) : Prop := ∀ us σ H G, RelS K Γ σ H G δ → DpAll K G us xs → ∀ Q : L2.St → Hp → Prop,
  (∀ σ' δ', RelS K Γ σ' H G δ' → σ'.length = σ.length → (∀ k, k ∉ vs → σ'[k]? = σ[k]?) → (∀ k, k ∉ vs → δ'[k]? = δ[k]?) → (NoA vs δ → NoA vs δ') → P δ' → Q σ' H) → g us σ H Q
theorem gv_name {vs : List Nat} {i : Nat} {x : D} {P : List Sl → Prop} (hi : i ∈ vs) (h : P (δ.set i (.d x))) : GDv K Γ vs δ (gName i) x P := fun v σ H G R r Q q =>
  q _ _ (R.setD i r) (List.length_set ..) (fun k hk => List.getElem?_set_ne fun (z : i = k) => hk (z ▸ hi)) (fun k hk => List.getElem?_set_ne fun (z : i = k) => hk (z ▸ hi)) (fun hn k hk s e => by
    by_cases z : i = k
    · subst z
      have hl : i < δ.length := by
        have := (List.getElem?_eq_some_iff.mp e).1
        rwa [List.length_set] at this
      rw [List.getElem?_set_self hl] at e
      cases e
      rfl
    · rw [List.getElem?_set_ne z] at e
      exact hn k hk s e) h
theorem gv_tup {vs : List Nat} {n : Nat} {gs : TGs} {xs : List D} {P : List Sl → Prop} (hn : xs.length = n) (h : GDvs K Γ vs δ gs xs P) : GDv K Γ vs δ (gTup K n gs) (.tuple xs) P := fun v σ H G R r Q q => by
  obtain ⟨a, us, rfl, h1, h2⟩ := Dp.tup_inv r
  exact ⟨a, us, rfl, Evl.ex_t R.sub h1, by rw [DpAll.len h2]; exact hn, h us σ H G R h2 Q q⟩
theorem gvs_nil {vs : List Nat} {P : List Sl → Prop} (h : P δ) : GDvs K Γ vs δ gNil [] P := fun us σ H G R r Q q => by
  cases r
  exact ⟨rfl, q σ δ R rfl (fun _ _ => rfl) (fun _ _ => rfl) (fun z => z) h⟩
theorem gvs_cons {vs : List Nat} {gs : TGs} {x : D} {xs : List D} {P : List Sl → Prop} (h : GDv K Γ vs δ g x fun δ' => GDvs K Γ vs δ' gs xs P) : GDvs K Γ vs δ (gCons g gs) (x :: xs) P := fun us σ H G R r Q q => by
  cases r with
  | cons r1 r2 => exact ⟨_, _, rfl, h _ σ H G R r1 _ fun σ' δ' R' hl ho hod hn q' => q' _ σ' H G R' r2 Q fun σ'' δ'' R'' hl' ho' hod' hn' p => q σ'' δ'' R'' (hl'.trans hl) (fun k hk => (ho' k hk).trans (ho k hk)) (fun k hk => (hod' k hk).trans (hod k hk)) (fun z => hn' (hn z)) p⟩
theorem RelS.wipe1 {σ : L2.St} {H G : Hp} (R : RelS K Γ σ H G δ) (i : Nat) : RelS K Γ (σ.set i none) H G (δ.set i .un) := by
  have R' := R.forget i
  refine ⟨by rw [List.length_set]; exact R'.len, fun j s e => ?_, R'.ap, R'.ow, R'.sub, R'.fr, R'.h0, R'.g0, R'.gn⟩
  by_cases h : i = j
  · subst h
    have hl : i < δ.length := by
      have := (List.getElem?_eq_some_iff.mp e).1
      rwa [List.length_set] at this
    rw [List.getElem?_set_self hl] at e
    cases e
    exact ⟨none, List.getElem?_set_self (by rw [R.len]; exact hl), fun x hx => by cases hx⟩
  · rw [List.getElem?_set_ne h]
    exact R'.sl j s e
theorem RelS.wipes {σ : L2.St} {H G : Hp} (R : RelS K Γ σ H G δ) : ∀ vs : List Nat, RelS K Γ (wipe σ vs) H G (wipeD δ vs)
  | [] => R
  | i :: r => (RelS.wipes R r).wipe1 i
theorem wipe_out' {α : Type} [DecidableEq Nat] {σ : L2.St} : ∀ {vs : List Nat} {k : Nat}, k ∉ vs → (wipe σ vs)[k]? = σ[k]?
  | [], _, _ => rfl
  | i :: r, k, h => by
    rw [wipe_def, List.getElem?_set_ne fun z => h (by rw [← z]; simp)]
    exact wipe_out' (α := α) fun z => h (List.mem_cons_of_mem _ z)
theorem wipeD_out : ∀ {vs : List Nat} {k : Nat}, k ∉ vs → (wipeD δ vs)[k]? = δ[k]?
  | [], _, _ => rfl
  | i :: r, k, h => by
    show ((wipeD δ r).set i .un)[k]? = _
    rw [List.getElem?_set_ne fun z => h (by rw [← z]; simp)]
    exact wipeD_out fun z => h (List.mem_cons_of_mem _ z)
theorem wipe_in {σ : L2.St} : ∀ {vs : List Nat} {k : Nat}, k ∈ vs → k < σ.length → (wipe σ vs)[k]? = some none
  | i :: r, k, h, hl => by
    rw [wipe_def]
    by_cases e : i = k
    · subst e
      exact List.getElem?_set_self (by rw [wipe_length]; exact hl)
    · rw [List.getElem?_set_ne e]
      exact wipe_in ((List.mem_cons.mp h).resolve_left fun z => e z.symm) hl
theorem wipe_same {σ σ' : L2.St} {vs : List Nat} (hl : σ'.length = (wipe σ vs).length) (h : ∀ k, k ∉ vs → σ'[k]? = (wipe σ vs)[k]?) : wipe σ' vs = wipe σ vs := by
  refine List.ext_getElem? fun k => ?_
  by_cases hk : k ∈ vs
  · by_cases hlt : k < σ.length
    · rw [wipe_in hk hlt, wipe_in hk (by rw [hl, wipe_length]; exact hlt)]
    · rw [List.getElem?_eq_none (by rw [wipe_length, hl, wipe_length]; omega), List.getElem?_eq_none (by rw [wipe_length]; omega)]
  · rw [wipe_out' (α := Nat) hk, h k hk]
theorem noA_wipe : ∀ {vs : List Nat}, NoA vs (wipeD δ vs)
  | [], k, h, _, _ => by cases h
  | i :: r, k, h, s, e => by
    have e' : ((wipeD δ r).set i .un)[k]? = some s := e
    by_cases z : i = k
    · subst z
      have hl : i < (wipeD δ r).length := by
        have := (List.getElem?_eq_some_iff.mp e').1
        rwa [List.length_set] at this
      rw [List.getElem?_set_self hl] at e'
      cases e'
      rfl
    · rw [List.getElem?_set_ne z] at e'
      exact noA_wipe (vs := r) k ((List.mem_cons.mp h).resolve_left fun y => z y.symm) s e'
theorem ev_lc {ti : TI} {vs : List Nat} {P : Vl → Prop} (hv : NoA vs δ)
    (h : EvI K Γ δ ti fun xs => ∃ I : Nat → List D → Prop, xs.length ≤ 100000 ∧ I 0 [] ∧
      (∀ i x acc, xs[i]? = some x → I i acc → GDv K Γ vs (wipeD δ vs) g x fun δ2 => EvT K Γ δ2 t fun b => if b = true then Ev K Γ δ2 te fun y => ∃ d, y = .d d ∧ I (i + 1) (acc ++ [d]) else I (i + 1) acc) ∧
      (∀ acc, I xs.length acc → ∀ p, P (.own p acc))) : Ev K Γ δ (tLc ti g t te vs) P := fun σ H G R Q q =>
  h σ H G R _ fun J H1 G1 xs R1 f1 wk ⟨I, hz, h0, hs, hd⟩ Dl hD => by
    have gD : G1 Dl = none := ex_none R1.sub hD
    have gr0 : Grow H1 G1 (upd H1 Dl (.lst [])) G1 := Grow.newH R1.sub hD
    have hH : H Dl = none := none_of fun u z => f1.t Dl (by rw [z]; simp) hD
    refine ⟨fun i m H2 => i + m = xs.length ∧ ∃ G2 us acc, RelS K Γ σ H2 G2 δ ∧ Fr δ H1 G1 H2 G2 ∧ H2 Dl = some (.lst us) ∧ G2 Dl = none ∧ DpAll K G2 us acc ∧ acc.length ≤ i ∧ I i acc,
      ⟨xs.length, by omega, G1, [], [], R1.grow gr0, gr0.fr, upd_same, gD, .nil, Nat.le_refl _, h0⟩, fun i m H2 ⟨hi, G2, us, acc, R2, f2, hDl, gDl, ha, hl, hI⟩ => ?_⟩
    by_cases hm : m = 0
    · subst hm
      have : i = xs.length := by omega
      subst this
      refine .inl ⟨wk.stop H2 G2 f2.g R2.sub, q _ H2 G2 (.own Dl acc) R2 (f1.trans f2) ⟨rfl, gDl, us, hDl, ha⟩ hH (hd acc hI Dl)⟩
    · have hlt : i < xs.length := by omega
      refine .inr ⟨wk.go H2 G2 i f2.g R2.sub hlt, fun H' => ∃ G' us acc, RelS K Γ σ H' G' δ ∧ Fr δ H1 G1 H' G' ∧ H' Dl = some (.lst us) ∧ G' Dl = none ∧ DpAll K G' us acc ∧ acc.length ≤ i + 1 ∧ I (i + 1) acc, fun H' hN => ⟨m - 1, by omega, by omega, hN⟩, fun x H' hy => ?_⟩
      obtain ⟨G3, d, gr, hx, hdp⟩ := wk.yld H2 G2 i x H' f2.g R2.sub hlt hy
      have R3 : RelS K Γ σ H' G3 δ := R2.grow gr
      have f3 : Fr δ H1 G1 H' G3 := f2.trans gr.fr
      have hDl3 : H' Dl = some (.lst us) := gr.h _ _ hDl
      have gDl3 : G3 Dl = none := none_of fun u z => by
        have := gr.n Dl u z (by rw [hDl]; simp)
        rw [gDl] at this
        cases this
      refine hs i d acc hx hI x (wipe σ vs) H' G3 (R3.wipes vs) hdp _ fun σ2 δ2 R4 hlen hout houtD hnoA ht => ⟨wipe_same hlen fun k hk => hout k hk, ?_⟩
      have nW : NoA vs (wipeD δ vs) := noA_wipe
      have nV : NoA vs δ2 := hnoA nW
      have nD : ∀ s ∈ δ2, Dl ∉ s.ads := fun s hs hDs => by
        obtain ⟨k, hk⟩ := List.getElem?_of_mem hs
        by_cases hkv : k ∈ vs
        · rw [nV k hkv s hk] at hDs
          cases hDs
        · have hk' : δ[k]? = some s := by rw [← wipeD_out hkv, ← houtD k hkv]; exact hk
          exact R1.nin hD s (List.mem_of_getElem? hk') hDs
      have back : ∀ H4 G4, RelS K Γ σ2 H4 G4 δ2 → Fr δ2 H' G3 H4 G4 → RelS K Γ σ H4 G4 δ ∧ Fr δ H1 G1 H4 G4 := fun H4 G4 R5 f5 => by
        have fe : Fr δ H' G3 H4 G4 := ⟨f5.g, fun a o ho hs => f5.h a o ho fun s hs2 has => by
          obtain ⟨k, hk⟩ := List.getElem?_of_mem hs2
          by_cases hkv : k ∈ vs
          · rw [nV k hkv s hk] at has
            cases has
          · have hk' : δ[k]? = some s := by rw [← wipeD_out hkv, ← houtD k hkv]; exact hk
            exact hs s (List.mem_of_getElem? hk') has, f5.t, f5.n⟩
        refine ⟨⟨R3.len, fun k s e => ?_, R3.ap, R3.ow, R5.sub, R5.fr, R5.h0, R5.g0, R5.gn⟩, f3.trans fe⟩
        by_cases hkv : k ∈ vs
        · obtain ⟨o, h1, h2⟩ := R3.sl k s e
          refine ⟨o, h1, fun y hy => ?_⟩
          obtain ⟨w, h3, h4⟩ := h2 y hy
          have hna := hv k hkv s e
          exact ⟨w, h3, h4.keep f5.g (fun a ha => by rw [Sl.rd_ads hy, hna] at ha; cases ha) fun a ha => by rw [Sl.rd_ads hy, hna] at ha; cases ha⟩
        · have e2 : δ2[k]? = some s := by rw [houtD k hkv, wipeD_out hkv]; exact e
          obtain ⟨o, h1, h2⟩ := R5.sl k s e2
          exact ⟨o, by rw [← wipe_out' (α := Nat) (σ := σ) hkv, ← hout k hkv]; exact h1, h2⟩
      have keepD : ∀ H4 G4, Fr δ2 H' G3 H4 G4 → H4 Dl = some (.lst us) ∧ G4 Dl = none ∧ DpAll K G4 us acc := fun H4 G4 f5 => by
        have q2 : G4 Dl = none := none_of fun u z => by
          have := f5.n Dl u z (by rw [hDl3]; simp)
          rw [gDl3] at this
          cases this
        exact ⟨f5.h _ _ hDl3 nD, q2, DpAll.up ha (gr.g.trans f5.g)⟩
      refine ht σ2 H' G3 R4 _ fun b H4 G4 R5 f5 hb => ?_
      cases b with
      | false =>
        rw [if_neg Bool.false_ne_true] at hb ⊢
        obtain ⟨q1, q2, q3⟩ := keepD H4 G4 f5
        obtain ⟨R6, f6⟩ := back H4 G4 R5 f5
        exact ⟨G4, us, acc, R6, f6, q1, q2, q3, by omega, hb⟩
      | true =>
        rw [if_pos rfl] at hb ⊢
        refine hb σ2 H4 G4 R5 _ fun y H5 G5 x' R6 f6 r6 k6 ⟨dy, hdy, hI'⟩ => ?_
        subst hdy
        obtain ⟨q1, q2, q3⟩ := keepD H5 G5 (f5.trans f6)
        obtain ⟨R7, f7⟩ := back H5 G5 R6 (f5.trans f6)
        have hD5 : ∀ s ∈ δ, Dl ∉ s.ads := R1.nin hD
        have hsz : us.length < sizeLine := by
          rw [DpAll.len q3]
          exact Nat.lt_of_le_of_lt (show acc.length ≤ 100000 by omega) (by decide)
        have eD : ∀ a, a ≠ Dl → (upd H5 Dl (.lst (us ++ [y]))) a = H5 a := fun a h => upd_ne h
        refine ⟨us, q1, hsz, G5, us ++ [y], acc ++ [dy], ?_, ?_, upd_same, q2, DpAll.app q3 (.cons r6 .nil), by rw [List.length_append]; show acc.length + 1 ≤ i + 1; omega, hI'⟩
        · refine ⟨R7.len, fun k s e => ?_, R7.ap, R7.ow, fun a o h => ?_, fun a o h hS => ?_, fun a h => ?_, R7.g0, R7.gn⟩
          · obtain ⟨o, h1, h2⟩ := R7.sl k s e
            refine ⟨o, h1, fun y hy => ?_⟩
            obtain ⟨w, h3, h4⟩ := h2 y hy
            exact ⟨w, h3, h4.keep (Evl.Ex.refl G5) (fun a ha => eD a fun z => hD5 s (List.mem_of_getElem? e) (by rw [← z, ← Sl.rd_ads hy]; exact ha)) fun a ha => (h4.at a ha).1⟩
          · rw [eD a fun z => by rw [z, q2] at h; cases h]
            exact R7.sub a o h
          · rw [eD a fun z => by rw [z, R.new hH] at h; cases h]
            exact R7.fr a o h hS
          · by_cases z : a = Dl
            · rw [z, upd_same]; simp
            · rw [eD a z]
              exact R7.h0 a h
        · refine ⟨f7.g, fun a o h hs => ?_, fun a h => ?_, f7.n⟩
          · rw [eD a fun z => by rw [z, hD] at h; cases h]
            exact f7.h a o h hs
          · by_cases z : a = Dl
            · rw [z, upd_same]; simp
            · rw [eD a z]
              exact f7.t a h
end
end Dl

/-! Dl4: what a def promises, its call, its body. -/
namespace Dl
open PySem L2

/-- a def's promise: the arguments, what is wanted of what it hands back -/
abbrev FS := List Vl → (D → Prop) → Prop
def argSl : Vl → Sl
  | .d x => .d x
  | .src a c => .src a c
  | _ => .un
/-- data, and one source at most -/
def argOk : List Vl → Bool
  | [] => true
  | .d _ :: r => argOk r
  | .src _ _ :: r => (allD r).isSome
  | _ => false
def srcs : List Vl → List Addr
  | [] => []
  | .src a c :: r => a :: c :: srcs r
  | _ :: r => srcs r
theorem argOk_d : ∀ {xs : List Vl}, argOk xs = true → ∀ x ∈ xs, (∃ d, x = .d d) ∨ ∃ a c, x = .src a c
  | [], _, _, h => by cases h
  | .d y :: r, h, x, hx => by
    rcases List.mem_cons.mp hx with rfl | hx
    · exact .inl ⟨_, rfl⟩
    · exact argOk_d (xs := r) h x hx
  | .src a c :: r, h, x, hx => by
    rcases List.mem_cons.mp hx with rfl | hx
    · exact .inr ⟨_, _, rfl⟩
    · have key : ∀ {r : List Vl}, (allD r).isSome = true → ∀ x ∈ r, ∃ d, x = .d d := by
        intro r
        induction r with
        | nil => intro _ x hx; cases hx
        | cons y r ih =>
          intro h x hx
          cases y with
          | d z =>
            rcases List.mem_cons.mp hx with rfl | hx
            · exact ⟨_, rfl⟩
            · refine ih ?_ x hx
              cases q : allD r with
              | none => simp [allD, q] at h
              | some _ => rfl
          | _ => simp [allD] at h
      exact .inl (key h x hx)
  | .vw _ _ :: _, h, _, _ => by cases h
  | .vd _ _ :: _, h, _, _ => by cases h
  | .own _ _ :: _, h, _, _ => by cases h
  | .dic _ _ :: _, h, _, _ => by cases h
theorem allD_srcs : ∀ {xs : List Vl}, (allD xs).isSome = true → srcs xs = []
  | [], _ => rfl
  | .d y :: r, h => by
    show srcs r = []
    refine allD_srcs ?_
    cases q : allD r with
    | none => simp [allD, q] at h
    | some _ => rfl
  | .vw _ _ :: _, h => by simp [allD] at h
  | .vd _ _ :: _, h => by simp [allD] at h
  | .own _ _ :: _, h => by simp [allD] at h
  | .dic _ _ :: _, h => by simp [allD] at h
  | .src _ _ :: _, h => by simp [allD] at h
theorem srcs_mem : ∀ {xs : List Vl} {a c : Addr}, Vl.src a c ∈ xs → a ∈ srcs xs ∧ c ∈ srcs xs
  | x :: r, a, c, h => by
    rcases List.mem_cons.mp h with rfl | h
    · simp [srcs]
    · have := srcs_mem h
      cases x <;> simp [srcs, this]
theorem mem_srcs : ∀ {xs : List Vl} {b : Addr}, b ∈ srcs xs → ∃ a c, Vl.src a c ∈ xs ∧ (b = a ∨ b = c)
  | x :: r, b, h => by
    cases x with
    | src a c =>
      simp only [srcs, List.mem_cons] at h
      rcases h with h | h | h
      · exact ⟨a, c, by simp, .inl h⟩
      · exact ⟨a, c, by simp, .inr h⟩
      · obtain ⟨a', c', h1, h2⟩ := mem_srcs h
        exact ⟨a', c', List.mem_cons_of_mem _ h1, h2⟩
    | _ =>
      obtain ⟨a', c', h1, h2⟩ := mem_srcs (xs := r) h
      exact ⟨a', c', List.mem_cons_of_mem _ h1, h2⟩
/-- one place alone for a source -/
theorem argOk_one : ∀ {xs : List Vl} {i j : Nat} {a c a' c' : Addr}, argOk xs = true → xs[i]? = some (.src a c) → xs[j]? = some (.src a' c') → i = j
  | [], _, _, _, _, _, _, _, h, _ => by simp at h
  | .d y :: r, 0, _, _, _, _, _, _, h, _ => by simp at h
  | .d y :: r, _ + 1, 0, _, _, _, _, _, _, h => by simp at h
  | .d y :: r, i + 1, j + 1, a, c, a', c', h, h1, h2 => by
    have e : i = j := argOk_one (xs := r) h (by simpa using h1) (by simpa using h2)
    exact congrArg (· + 1) e
  | .src b e :: r, i, j, a, c, a', c', h, h1, h2 => by
    have key : ∀ {r : List Vl} {k : Nat} {a c : Addr}, (allD r).isSome = true → r[k]? = some (.src a c) → False := by
      intro r
      induction r with
      | nil => intro k a c _ h; simp at h
      | cons y r ih =>
        intro k a c h h'
        cases y with
        | d z =>
          cases k with
          | zero => simp at h'
          | succ k =>
            refine ih (k := k) ?_ (by simpa using h')
            cases q : allD r with
            | none => simp [allD, q] at h
            | some _ => rfl
        | _ => simp [allD] at h
    cases i with
    | zero =>
      cases j with
      | zero => rfl
      | succ j => exact (key (r := r) h (by simpa using h2)).elim
    | succ i => exact (key (r := r) h (by simpa using h1)).elim
  | .vw _ _ :: _, _, _, _, _, _, _, h, _, _ => by cases h
  | .vd _ _ :: _, _, _, _, _, _, _, h, _, _ => by cases h
  | .own _ _ :: _, _, _, _, _, _, _, h, _, _ => by cases h
  | .dic _ _ :: _, _, _, _, _, _, _, h, _, _ => by cases h

/-- how a call may change the heaps -/
structure FrA (S : List Addr) (H G H' G' : Hp) : Prop where
  g : Ex G G'
  h : ∀ a o, H a = some o → a ∉ S → H' a = some o
  t : ∀ a, H a ≠ none → H' a ≠ none
  n : ∀ a o, G' a = some o → H a ≠ none → G a = some o
def liftSp (K : Fg) (F : FS) : Sp := fun vs H Q _ => ∃ (G : Hp) (xs : List Vl) (P : D → Prop), Ex G H ∧ Paired (RelVl K H G) vs xs ∧ argOk xs = true ∧ F xs P ∧
  ∀ v H' G' d, Ex G' H' → FrA (srcs xs) H G H' G' → (∀ a c, Vl.src a c ∈ xs → G' a = none ∧ G' c = none ∧ SrcAt H' a c) → Dp K G' v d → P d → Q v H'

section
variable {K : Fg} {Γ : Ga} {δ : List Sl} {ta : TA} {P : Vl → Prop}
theorem paired_get {α β : Type} {F : α → β → Prop} : ∀ {xs : List α} {ys : List β} {i : Nat} {y : β}, Paired F xs ys → ys[i]? = some y → ∃ x, xs[i]? = some x ∧ F x y
  | _, _, _, _, .nil, h => by simp at h
  | _, _, 0, y, .cons r _, h => by
    have e := Option.some.inj h
    subst e
    exact ⟨_, rfl, r⟩
  | _, _, i + 1, y, .cons _ t, h => by
    obtain ⟨x, h1, h2⟩ := paired_get (i := i) (y := y) t (by simpa using h)
    exact ⟨x, by simpa using h1, h2⟩
/-- a call's end for the caller's frame -/
theorem call_back {σ : L2.St} {H G H' G' H1 G1 : Hp} {xs : List Vl} (R : RelS K Γ σ H G δ) (R1 : RelS K Γ σ H1 G1 δ) (k : ∀ a c, Vl.src a c ∈ xs → Sl.src a c ∈ δ) (e' : Ex G' H') (f : FrA (srcs xs) H1 G1 H' G') (hs : ∀ a c, Vl.src a c ∈ xs → G' a = none ∧ G' c = none ∧ SrcAt H' a c) :
    RelS K Γ σ H' G' δ ∧ Fr δ H1 G1 H' G' := by
  have inS : ∀ b ∈ srcs xs, ∃ s ∈ δ, b ∈ s.ads := fun b hb => by
    obtain ⟨a, c, h1, h2⟩ := mem_srcs hb
    exact ⟨_, k a c h1, by rcases h2 with rfl | rfl <;> simp [Sl.ads]⟩
  refine ⟨⟨R1.len, fun i s e => ?_, R1.ap, R1.ow, e', fun a o h hS => ?_, fun a h => f.t a (R1.h0 a h), R1.g0.trans f.g, fun a o h hn => R1.gn a o (f.n a o h (R1.h0 a hn)) hn⟩, f.g, fun a o h hs => f.h a o h fun z => ?_, f.t, f.n⟩
  · obtain ⟨o, h1, h2⟩ := R1.sl i s e
    refine ⟨o, h1, fun x hx => ?_⟩
    obtain ⟨v, h3, h4⟩ := h2 x hx
    refine ⟨v, h3, ?_⟩
    by_cases hsx : ∃ a c, x = .src a c ∧ Vl.src a c ∈ xs
    · obtain ⟨a, c, rfl, hm⟩ := hsx
      obtain ⟨g1, g2, g3⟩ := hs a c hm
      exact ⟨h4.1, g1, g2, g3⟩
    · have nin : ∀ a ∈ x.ads, a ∉ srcs xs := fun a ha hb => by
        obtain ⟨a', c', h5, h6⟩ := mem_srcs hb
        have hd := k a' c' h5
        obtain ⟨j, hj⟩ := List.getElem?_of_mem hd
        by_cases hij : i = j
        · subst hij
          rw [e] at hj
          cases hj
          cases hx
          exact hsx ⟨a', c', rfl, h5⟩
        · exact R1.ap i j s _ e hj hij a (by rw [← Sl.rd_ads hx]; exact ha) (by rcases h6 with rfl | rfl <;> simp [Sl.ads])
      refine h4.keep f.g (fun a ha => ?_) fun a ha => none_of fun u z => ?_
      · cases q : H1 a with
        | none => exact absurd q (h4.at a ha).2
        | some u => exact f.h a u q (nin a ha)
      · have := f.n a u z (h4.at a ha).2
        rw [(h4.at a ha).1] at this
        cases this
  · refine f.h a o (R1.fr a o h hS) fun z => ?_
    obtain ⟨a', c', h5, h6⟩ := mem_srcs z
    have hw := R1.ow _ (k a' c' h5)
    rcases hw with hw | hw
    · rcases h6 with rfl | rfl
      · exact hS hw.1
      · exact hS hw.2
    · rcases h6 with rfl | rfl
      · rw [h] at hw; exact nomatch hw.1
      · rw [h] at hw; exact nomatch hw.2
  · obtain ⟨s, h1, h2⟩ := inS a z
    exact hs s h1 h2
/-- f(..), data and the source handed on -/
theorem ev_call {F : FS} (h : EvA K Γ δ ta fun xs => argOk xs = true ∧ F xs fun d => P (.d d)) : Ev K Γ δ (tCall (liftSp K F) [] E0 ta) P := fun σ H G R Q q =>
  h σ H G R _ fun vs H1 G1 xs R1 f1 r1 k1 a1 ⟨ha, hF⟩ => by
    refine ⟨G1, xs, _, R1.sub, by rw [List.append_nil]; exact r1, ha, hF, fun v H' G' d e' f hs hd hp => ?_⟩
    obtain ⟨R2, f2⟩ := call_back R R1 (fun a c hm => k1 _ hm) e' f hs
    exact q v H' G' (.d d) R2 (f1.trans f2) hd trivial hp

/-! ### no list within -/
mutual
def noL : D → Bool
  | .tuple ds => noLs ds
  | .list _ => false
  | .dict _ => false
  | _ => true
def noLs : List D → Bool
  | [] => true
  | d :: ds => noL d && noLs ds
end
mutual
theorem dp_drop {G : Hp} {ps : List Addr} (hp : ∀ p ∈ ps, ∀ xs, ¬ Rd G p (.tup xs)) : ∀ (d : D) (v : V), noL d = true → Dp K G v d → Dp K (fun a => if a ∈ ps then none else G a) v d
  | .none, _, _, h => by cases h; exact .non
  | .bool b, _, _, h => by cases h; exact .bl b
  | .int i, _, _, h => by cases h; exact .int i
  | .str x, _, _, h => by cases h; exact .str x
  | .list ds, _, n, h => by simp [noL] at n
  | .dict ds, _, n, h => by simp [noL] at n
  | .tuple ds, _, n, h => by
    cases h with
    | @tup a xs _ hs ha =>
      refine .tup ?_ (dpAll_drop hp ds _ (by simpa [noL] using n) ha)
      rcases hs with hs | hs
      · have na : a ∉ ps := fun z => hp a z xs hs
        refine .inl ?_
        rcases hs with hs | ⟨o, hs⟩
        · exact .inl (by simp only [if_neg na]; exact hs)
        · exact .inr ⟨o, by simp only [if_neg na]; exact hs⟩
      · exact .inr hs
theorem dpAll_drop {G : Hp} {ps : List Addr} (hp : ∀ p ∈ ps, ∀ xs, ¬ Rd G p (.tup xs)) : ∀ (ds : List D) (vs : List V), noLs ds = true → DpAll K G vs ds → DpAll K (fun a => if a ∈ ps then none else G a) vs ds
  | [], _, _, h => by cases h; exact .nil
  | d :: ds, _, n, h => by
    have n' : noL d = true ∧ noLs ds = true := by simpa [noLs, Bool.and_eq_true] using n
    cases h with
    | cons h1 h2 => exact .cons (dp_drop hp d _ n'.1 h1) (dpAll_drop hp ds _ n'.2 h2)
end
/-- a list that is read, as a datum -/
def fz : Vl → Vl
  | .vw _ ys => .d (.list ys)
  | .own _ ys => .d (.list ys)
  | x => x
def fza : Vl → List Addr
  | .vw p _ => [p]
  | .own p _ => [p]
  | _ => []
/-- f(..), lists lent: what is handed back holds no list -/
theorem ev_callB {F : FS} (h : EvA K Γ δ ta fun xs => argOk (xs.map fz) = true ∧ F (xs.map fz) fun d => noL d = true ∧ P (.d d)) : Ev K Γ δ (tCall (liftSp K F) [] E0 ta) P := fun σ H G R Q q =>
  h σ H G R _ fun vs H1 G1 xs R1 f1 r1 k1 a1 ⟨ha, hF⟩ => by
    let ps := (xs.map fza).flatten
    let G2 : Hp := fun a => if a ∈ ps then H1 a else G1 a
    have hps : ∀ p ∈ ps, ∃ us, H1 p = some (.lst us) ∧ G1 p = none := fun p hp => by
      obtain ⟨l, hl, hpl⟩ := List.mem_flatten.mp hp
      obtain ⟨x, hx, rfl⟩ := List.mem_map.mp hl
      obtain ⟨i, hi⟩ := List.getElem?_of_mem hx
      obtain ⟨v, _, hr⟩ := paired_get r1 hi
      cases x with
      | vw p' ys =>
        obtain rfl : p = p' := by simpa [fza] using hpl
        obtain ⟨_, g1, us, g2, _⟩ := hr
        exact ⟨us, g2, g1⟩
      | own p' ys =>
        obtain rfl : p = p' := by simpa [fza] using hpl
        obtain ⟨_, g1, us, g2, _⟩ := hr
        exact ⟨us, g2, g1⟩
      | _ => cases hpl
    have e12 : Ex G1 G2 := fun a o h => by
      show (if a ∈ ps then H1 a else G1 a) = some o
      by_cases z : a ∈ ps
      · obtain ⟨us, _, g⟩ := hps a z
        rw [g] at h
        cases h
      · rw [if_neg z]
        exact h
    have e2 : Ex G2 H1 := fun a o h => by
      have h' : (if a ∈ ps then H1 a else G1 a) = some o := h
      by_cases z : a ∈ ps
      · rwa [if_pos z] at h'
      · rw [if_neg z] at h'
        exact R1.sub a o h'
    have key : ∀ {xs' : List Vl} {vs : List V}, (∀ x ∈ xs', x ∈ xs) → argOk (xs'.map fz) = true → Paired (RelVl K H1 G1) vs xs' → Paired (RelVl K H1 G2) vs (xs'.map fz) := by
      intro xs'
      induction xs' with
      | nil => intro vs _ _ r; cases r; exact .nil
      | cons x r ih =>
        intro vs hm hok rr
        cases rr with
        | @cons v _ _ _ r1 r2 =>
          have hx : x ∈ xs := hm x (by simp)
          have mem : ∀ p, p ∈ fza x → p ∈ ps := fun p hp => List.mem_flatten.mpr ⟨fza x, List.mem_map.mpr ⟨x, hx, rfl⟩, hp⟩
          have tl : argOk (r.map fz) = true := by
            cases x with
            | src a c =>
              have : (allD (r.map fz)).isSome = true := hok
              have key2 : ∀ {l : List Vl}, (allD l).isSome = true → argOk l = true := by
                intro l
                induction l with
                | nil => intro _; rfl
                | cons y l ih =>
                  intro h
                  cases y with
                  | d z =>
                    refine ih ?_
                    cases q : allD l with
                    | none => simp [allD, q] at h
                    | some _ => rfl
                  | _ => simp [allD] at h
              exact key2 this
            | d y => exact hok
            | vw p y => exact hok
            | own p y => exact hok
            | vd p y => cases hok
            | dic p y => cases hok
          refine .cons ?_ (ih (fun y hy => hm y (List.mem_cons_of_mem _ hy)) tl r2)
          cases x with
          | d y => exact Dp.up r1 e12
          | vw p y =>
            obtain ⟨rfl, g1, us, g2, g3⟩ := r1
            have e : G2 p = some (.lst us) := by
              show (if p ∈ ps then H1 p else G1 p) = _
              rw [if_pos (mem p (by simp [fza]))]
              exact g2
            exact Dp.lst e (DpAll.up g3 e12)
          | own p y =>
            obtain ⟨rfl, g1, us, g2, g3⟩ := r1
            have e : G2 p = some (.lst us) := by
              show (if p ∈ ps then H1 p else G1 p) = _
              rw [if_pos (mem p (by simp [fza]))]
              exact g2
            exact Dp.lst e (DpAll.up g3 e12)
          | src a c =>
            obtain ⟨g0, g1, g2, g3⟩ := r1
            have np : ∀ b, (H1 b ≠ none) → b ∈ ps → ∃ us, H1 b = some (.lst us) := fun b _ hb => let ⟨us, h, _⟩ := hps b hb; ⟨us, h⟩
            obtain ⟨cells, l, m, t, q1, q2, q3⟩ := id g3
            refine ⟨g0, ?_, ?_, g3⟩
            · show (if a ∈ ps then H1 a else G1 a) = none
              by_cases z : a ∈ ps
              · obtain ⟨us, g, _⟩ := hps a z
                rw [q1] at g
                cases g
              · rw [if_neg z]; exact g1
            · show (if c ∈ ps then H1 c else G1 c) = none
              by_cases z : c ∈ ps
              · exfalso
                obtain ⟨l, hl, hpl⟩ := List.mem_flatten.mp z
                obtain ⟨x, hx', rfl⟩ := List.mem_map.mp hl
                have hsrc : Sl.src a c ∈ δ := k1 _ hx
                have kx := k1 x hx'
                cases x with
                | vw p' ys =>
                  obtain rfl : c = p' := by simpa [fza] using hpl
                  obtain ⟨i, hi⟩ := List.getElem?_of_mem hsrc
                  obtain ⟨j, hj⟩ := List.getElem?_of_mem (show Sl.own c ys ∈ δ from kx)
                  by_cases hij : i = j
                  · subst hij
                    rw [hi] at hj
                    cases hj
                  · exact R.ap i j _ _ hi hj hij c (by simp [Sl.ads]) (by simp [Sl.ads])
                | own p' ys =>
                  obtain rfl : c = p' := by simpa [fza] using hpl
                  exact R.nin (show H c = none from kx) _ hsrc (by simp [Sl.ads])
                | _ => cases hpl
              · rw [if_neg z]; exact g2
          | vd p y => cases hok
          | dic p y => cases hok
    refine ⟨G2, xs.map fz, _, e2, by rw [List.append_nil]; exact key (fun _ h => h) ha r1, ha, hF, fun v H' G' d e' f hs hd ⟨hn, hp⟩ => ?_⟩
    have nt : ∀ p ∈ ps, ∀ ys, ¬ Rd G' p (.tup ys) := fun p hp ys hr => by
      obtain ⟨us, g, _⟩ := hps p hp
      have e : G2 p = some (.lst us) := by
        show (if p ∈ ps then H1 p else G1 p) = _
        rw [if_pos hp]
        exact g
      have e3 := f.g p _ e
      rcases hr with hr | ⟨o, hr⟩ <;> (rw [e3] at hr; cases hr)
    have hd' := dp_drop nt d v hn hd
    let G3 : Hp := fun a => if a ∈ ps then none else G' a
    have e3' : Ex G3 H' := fun a o h => by
      have h' : (if a ∈ ps then none else G' a) = some o := h
      by_cases z : a ∈ ps
      · rw [if_pos z] at h'; cases h'
      · rw [if_neg z] at h'; exact e' a o h'
    have srcEq : ∀ a c, Vl.src a c ∈ xs.map fz ↔ Vl.src a c ∈ xs := fun a c => by
      constructor
      · intro h
        obtain ⟨x, hx, he⟩ := List.mem_map.mp h
        cases x with
        | src a' c' => cases he; exact hx
        | _ => cases he
      · intro h
        exact List.mem_map.mpr ⟨_, h, rfl⟩
    have srcsEq : ∀ b, b ∈ srcs (xs.map fz) ↔ b ∈ srcs xs := fun b => by
      constructor
      · intro h
        obtain ⟨a, c, h1, h2⟩ := mem_srcs h
        have := srcs_mem ((srcEq a c).mp h1)
        rcases h2 with rfl | rfl
        · exact this.1
        · exact this.2
      · intro h
        obtain ⟨a, c, h1, h2⟩ := mem_srcs h
        have := srcs_mem ((srcEq a c).mpr h1)
        rcases h2 with rfl | rfl
        · exact this.1
        · exact this.2
    have f3 : FrA (srcs xs) H1 G1 H' G3 := {
      g := fun a o h => by
        show (if a ∈ ps then none else G' a) = some o
        by_cases z : a ∈ ps
        · obtain ⟨us, _, g⟩ := hps a z
          rw [g] at h
          cases h
        · rw [if_neg z]
          exact f.g a o (e12 a o h)
      h := fun a o h hS => f.h a o h fun z => hS ((srcsEq a).mp z)
      t := f.t
      n := fun a o h hn => by
        have h' : (if a ∈ ps then none else G' a) = some o := h
        by_cases z : a ∈ ps
        · rw [if_pos z] at h'; cases h'
        · rw [if_neg z] at h'
          have h2 : (if a ∈ ps then H1 a else G1 a) = some o := f.n a o h' hn
          rwa [if_neg z] at h2 }
    have hs3 : ∀ a c, Vl.src a c ∈ xs → G3 a = none ∧ G3 c = none ∧ SrcAt H' a c := fun a c hm => by
      obtain ⟨g1, g2, g3⟩ := hs a c ((srcEq a c).mpr hm)
      refine ⟨?_, ?_, g3⟩
      · show (if a ∈ ps then none else G' a) = none
        rw [g1]; simp
      · show (if c ∈ ps then none else G' c) = none
        rw [g2]; simp
    obtain ⟨R2, f2⟩ := call_back R R1 (fun a c hm => k1 _ hm) e3' f3 hs3
    exact q v H' G3 (.d d) R2 (f1.trans f2) hd' trivial hp

/-! ### a def's body -/
def Kept (xs : List Vl) (δ' : List Sl) : Prop := ∀ a c, Vl.src a c ∈ xs → Sl.src a c ∈ δ'
def slots (N : List Str) (xs : List Vl) : List Sl := xs.map argSl ++ List.replicate (N.length - xs.length) .un
theorem start_rel {H G : Hp} {N : List Str} {vs : List V} {xs : List Vl} (e : Ex G H) (r : Paired (RelVl K H G) vs xs) (ha : argOk xs = true) : RelS K ⟨H, G, srcs xs⟩ (start N vs) H G (slots N xs) := by
  have hl : vs.length = xs.length := Paired.length r
  have at_ : ∀ (i : Nat) (s : Sl), (slots N xs)[i]? = some s → (∃ x, xs[i]? = some x ∧ s = argSl x) ∨ (s = .un ∧ xs.length ≤ i ∧ i < (start N vs).length) := fun i s h => by
    unfold slots at h
    by_cases hi : i < xs.length
    · rw [List.getElem?_append_left (by simpa using hi), List.getElem?_map] at h
      cases q : xs[i]? with
      | none => rw [q] at h; cases h
      | some x =>
        rw [q] at h
        exact .inl ⟨x, rfl, (Option.some.inj h).symm⟩
    · rw [List.getElem?_append_right (by simpa using Nat.le_of_not_lt hi)] at h
      have hlt := (List.getElem?_eq_some_iff.mp h).1
      rw [List.length_replicate, List.length_map] at hlt
      rw [List.getElem?_replicate] at h
      split at h
      · refine .inr ⟨(Option.some.inj h).symm, by omega, ?_⟩
        unfold L2.start
        rw [List.length_append, List.length_map, List.length_replicate]
        omega
      · cases h
  refine ⟨?_, fun i s h => ?_, fun i j s t h1 h2 hij a ha1 ha2 => ?_, fun s hs => ?_, e, fun a o h _ => h, fun a h => h, Evl.Ex.refl G, fun a o h _ => h⟩
  · unfold L2.start slots
    rw [List.length_append, List.length_append, List.length_map, List.length_map, List.length_replicate, List.length_replicate, hl]
  · rcases at_ i s h with ⟨x, hx, rfl⟩ | ⟨rfl, h1, h2⟩
    · obtain ⟨v, hv, hr⟩ := paired_get r hx
      refine ⟨some v, ?_, fun y hy => ?_⟩
      · unfold L2.start
        have : i < vs.length := (List.getElem?_eq_some_iff.mp hv).1
        rw [List.getElem?_append_left (by simpa using this), List.getElem?_map, hv]
        rfl
      · refine ⟨v, rfl, ?_⟩
        cases x with
        | d z => cases hy; exact hr
        | src a c => cases hy; exact hr
        | _ => cases hy
    · exact ⟨_, List.getElem?_eq_getElem h2, fun x hx => by cases hx⟩
  · rcases at_ i s h1 with ⟨x, hx, rfl⟩ | ⟨rfl, _⟩
    · rcases at_ j t h2 with ⟨y, hy, rfl⟩ | ⟨rfl, _⟩
      · cases x with
        | src a1 c1 =>
          cases y with
          | src a2 c2 => exact hij (argOk_one ha hx hy)
          | _ => cases ha2
        | _ => cases ha1
      · cases ha2
    · cases ha1
  · obtain ⟨i, hi⟩ := List.getElem?_of_mem hs
    rcases at_ i s hi with ⟨x, hx, rfl⟩ | ⟨rfl, _⟩
    · cases x with
      | src a c => exact .inl (srcs_mem (List.mem_of_getElem? hx))
      | _ => trivial
    · trivial
theorem end_fra {σ : L2.St} {H G H' G' : Hp} {xs : List Vl} {δ' : List Sl} (R : RelS K ⟨H, G, srcs xs⟩ σ H' G' δ') : FrA (srcs xs) H G H' G' := ⟨R.g0, R.fr, R.h0, R.gn⟩
theorem end_src {σ : L2.St} {H' G' : Hp} {δ' : List Sl} (R : RelS K Γ σ H' G' δ') {a c : Addr} (h : Sl.src a c ∈ δ') : G' a = none ∧ G' c = none ∧ SrcAt H' a c := by
  obtain ⟨i, hi⟩ := List.getElem?_of_mem h
  obtain ⟨v, _, hr⟩ := R.rd hi rfl
  exact hr.2
/-- the body of a def that keeps F -/
theorem fn_go {F : FS} {t : TS} {N : List Str} {vs : List V} {H : Hp} {Q : VK} {E : XK} (h : liftSp K F vs H Q E)
    (hb : ∀ (Γ : Ga) (xs : List Vl) (P : D → Prop), argOk xs = true → F xs P → SD K Γ (slots N xs) t { nx := fun δ' => P .none ∧ Kept xs δ', rt := fun d δ' => P d ∧ Kept xs δ' }) : t { nx := fun _ H' => Q .non H', rt := Q } (start N vs) H := by
  obtain ⟨G, xs, P, e, r, ha, hF, k⟩ := h
  refine hb ⟨H, G, srcs xs⟩ xs P ha hF _ H G (start_rel e r ha) _ ⟨fun σ H' G' δ' R' _ ⟨hp, hk⟩ => ?_, fun v d σ H' G' δ' R' _ hd ⟨hp, hk⟩ => ?_, fun _ _ _ _ _ _ z => z.elim, fun _ _ _ _ _ _ z => z.elim⟩
  · exact k .non H' G' .none R'.sub (end_fra R') (fun a c hm => end_src R' (hk a c hm)) .non hp
  · exact k v H' G' d R'.sub (end_fra R') (fun a c hm => end_src R' (hk a c hm)) hd hp
theorem lift_len {F : FS} {n : Nat} (hF : ∀ xs P, F xs P → xs.length = n) : ∀ vs H Q E, liftSp K F vs H Q E → vs.length = n := fun vs H Q E ⟨G, xs, P, _, r, _, h, _⟩ => (Paired.length r).trans (hF xs P h)
end
end Dl

/-! Dl5: operators and builtins: unions of the layer's rules, and what they are on data. -/
namespace MxT
open PySem PySem.Spec PyProof.Rows
variable {prog : Program} {w : World} {A : Around} {E : Value → Shared → Prop} {s : Shared} {l : Addr} {xs : Array (Int × Tok)}
theorem old_of {h' : Heap} {o2 : Obj} (hk : ∀ b o, b ∉ [s.heap.objs.size] → (s.heap.push o2).get? b = some o → h'.get? b = some o) :
    ∀ b o, s.heap.get? b = some o → h'.get? b = some o := fun b o e => by
  refine hk b o (fun hm => ?_) (Heap.get?_push_of_some _ e)
  rcases List.mem_cons.mp hm with e1 | hm
  · exact absurd (e1 ▸ Heap.lt_size e) (Nat.lt_irrefl _)
  · cases hm
theorem max_intTuple {Q : Value → Shared → Prop} (hh : A.handled = none) (hl : s.heap.IsTuple l (intItems xs)) (hne : 0 < xs.size)
    (h : ∀ v h' tk, (intItems xs)[argBest (fun i j => decide (numAt xs i > numAt xs j)) (xs.size - 1)]? = some v → (∀ b o, s.heap.get? b = some o → h'.get? b = some o) → Q v { s with heap := h', toks := tk }) :
    wpAny (model prog w) A (call (.builtin "max") [.ref l]) Q E s := by
  have hlt : l < s.heap.objs.size := by obtain ⟨_, e, _⟩ := hl; exact Heap.lt_size e
  refine call_max_walk (wpAny_pyIter_tuple hl ?_)
  refine ⟨_, [_, l], [_], _, _, _, _, rfl, Walks.tuple (A := A.in1) hh _ l (Nat.ne_of_lt hlt) (intItems xs), ⟨⟨_, Heap.get?_push_size _ rfl, rfl, rfl⟩, hl.push _⟩, fun b hb => ?_, by simpa [intItems] using hne, CmpOf.ints_gt (numAt xs) (fun _ _ => intItems_at), fun v h' tk hP hk => ?_⟩
  · show b < (s.heap.push _).objs.size
    rw [Heap.size_push]
    rcases List.mem_cons.mp hb with rfl | hb
    · exact Nat.lt_succ_self _
    · rcases List.mem_cons.mp hb with rfl | hb
      · exact Nat.lt_succ_of_lt hlt
      · cases hb
  · exact h v h' tk (by simpa [intItems] using hP) (old_of hk)
theorem min_intTuple {Q : Value → Shared → Prop} (hh : A.handled = none) (hl : s.heap.IsTuple l (intItems xs)) (hne : 0 < xs.size)
    (h : ∀ v h' tk, (intItems xs)[argBest (fun i j => decide (numAt xs i < numAt xs j)) (xs.size - 1)]? = some v → (∀ b o, s.heap.get? b = some o → h'.get? b = some o) → Q v { s with heap := h', toks := tk }) :
    wpAny (model prog w) A (call (.builtin "min") [.ref l]) Q E s := by
  have hlt : l < s.heap.objs.size := by obtain ⟨_, e, _⟩ := hl; exact Heap.lt_size e
  refine call_min_walk (wpAny_pyIter_tuple hl ?_)
  refine ⟨_, [_, l], [_], _, _, _, _, rfl, Walks.tuple (A := A.in1) hh _ l (Nat.ne_of_lt hlt) (intItems xs), ⟨⟨_, Heap.get?_push_size _ rfl, rfl, rfl⟩, hl.push _⟩, fun b hb => ?_, by simpa [intItems] using hne, CmpOf.ints_lt (numAt xs) (fun _ _ => intItems_at), fun v h' tk hP hk => ?_⟩
  · show b < (s.heap.push _).objs.size
    rw [Heap.size_push]
    rcases List.mem_cons.mp hb with rfl | hb
    · exact Nat.lt_succ_self _
    · rcases List.mem_cons.mp hb with rfl | hb
      · exact Nat.lt_succ_of_lt hlt
      · cases hb
  · exact h v h' tk (by simpa [intItems] using hP) (old_of hk)
variable {its : List Value} {ns : List Int}
theorem max_rawT (hh : A.handled = none) (hl : s.heap.IsTuple l its.toArray) (hi : IntsAre its ns) (hne : 0 < ns.length) {Q : Value → Shared → Prop}
    (h : ∀ h' tk M t', (∀ b o, s.heap.get? b = some o → h'.get? b = some o) → M ∈ ns → (∀ a, a ∈ ns → a ≤ M) → Q (.int M t') { s with heap := h', toks := tk }) : wpAny (model prog w) A (call (.builtin "max") [.ref l]) Q E s := by
  obtain ⟨xs, e⟩ := hi.allInts.items
  have hn : numsOf (intItems xs).toList = ns := by rw [← e]; exact hi.numsOf
  rw [nums_intItems] at hn
  subst hn
  rw [e] at hl
  have hsz : 0 < xs.size := by simpa using hne
  refine max_intTuple hh hl hsz fun v h' tk hv hk => ?_
  obtain ⟨t, rfl⟩ := intItems_at hv
  obtain ⟨h1, h2⟩ := argBest_gt (numAt xs) (xs.size - 1)
  refine h h' tk _ t hk ?_ fun a ha => ?_
  · rw [numAt_eq]; exact PySem.getD_mem (by rw [List.length_map, Array.length_toList]; omega)
  · obtain ⟨j, hj, rfl⟩ := mem_getD ha
    rw [List.length_map, Array.length_toList] at hj
    rw [← numAt_eq]; exact h2 j (by omega)
theorem min_rawT (hh : A.handled = none) (hl : s.heap.IsTuple l its.toArray) (hi : IntsAre its ns) (hne : 0 < ns.length) {Q : Value → Shared → Prop}
    (h : ∀ h' tk M t', (∀ b o, s.heap.get? b = some o → h'.get? b = some o) → M ∈ ns → (∀ a, a ∈ ns → M ≤ a) → Q (.int M t') { s with heap := h', toks := tk }) : wpAny (model prog w) A (call (.builtin "min") [.ref l]) Q E s := by
  obtain ⟨xs, e⟩ := hi.allInts.items
  have hn : numsOf (intItems xs).toList = ns := by rw [← e]; exact hi.numsOf
  rw [nums_intItems] at hn
  subst hn
  rw [e] at hl
  have hsz : 0 < xs.size := by simpa using hne
  refine min_intTuple hh hl hsz fun v h' tk hv hk => ?_
  obtain ⟨t, rfl⟩ := intItems_at hv
  obtain ⟨h1, h2⟩ := argBest_lt (numAt xs) (xs.size - 1)
  refine h h' tk _ t hk ?_ fun a ha => ?_
  · rw [numAt_eq]; exact PySem.getD_mem (by rw [List.length_map, Array.length_toList]; omega)
  · obtain ⟨j, hj, rfl⟩ := mem_getD ha
    rw [List.length_map, Array.length_toList] at hj
    rw [← numAt_eq]; exact h2 j (by omega)
end MxT
namespace L2
open PySem PySem.Spec PyProof.Rows
section
variable {X : Cx}
/-- a + b: ints, texts, lists, tuples -/
def rAddS : R2 := fun x y H Q => ∃ i j, x = .str i ∧ y = .str j ∧ i.length + j.length ≤ sizeLine ∧ Q (.str (i ++ j)) H
def rAddU (K : PySem.W.Frag) : R2 := fun x y H Q => rI0 (fun i j => .int (i + j)) x y H Q ∨ (rAddS x y H Q ∨ (rCat x y H Q ∨ rCatA K x y H Q))
theorem op_addU : OpR X (binaryOp .Add) (rAddU X.K) := op_add.or (op_add_str.or (op_cat.or op_catA))
/-- a tuple times an int, any -/
theorem tuple_mul1 (l : Addr) (items : Array Value) (n : Nat) (dd : Option Addr) (sl : Array (Option Value)) (x : Int) (u : Tok) (c0 : (decide (x < -(2 ^ 63)) || decide (x ≥ 2 ^ 63)) = false) (c1 : (items.isEmpty || x == 1) = true) :
    Meets (Builtin.«tuple.__mul__» ⟨[.ref l, .int x u], []⟩) (fun _ R s => s.heap.get? l = some { cls := .type "tuple", dict := dd, data := .seq items n, slots := sl } ∧ R (.ok (.ret (Value.ref l))) s) :=
  .of_wp fun prog w A R s h => by
    obtain ⟨hp, g, d, tk, os⟩ := s
    obtain ⟨hl, h⟩ := h
    have f1 := AutoSeq1.idx_int
    wp_walk using wpAny_loadPart' hl
    repeat (first
      | (refine wpAny_ite_false (decide_eq_false (by rw [c0]; exact Bool.false_ne_true)) ?_; wp_walk using wpAny_loadPart' hl)
      | (refine wpAny_ite_true (decide_eq_true (by rw [c1])) ?_; wp_walk using wpAny_loadPart' hl))
    all_goals exact ⟨_, rfl, h⟩
theorem tuple_mul0 (l : Addr) (items : Array Value) (n : Nat) (dd : Option Addr) (sl : Array (Option Value)) (x : Int) (u : Tok) (c0 : (decide (x < -(2 ^ 63)) || decide (x ≥ 2 ^ 63)) = false) (c1 : (items.isEmpty || x == 1) = false) (c2 : (decide (x ≤ 0) || items.isEmpty) = true) :
    Meets (Builtin.«tuple.__mul__» ⟨[.ref l, .int x u], []⟩) (fun _ R s => s.heap.get? l = some { cls := .type "tuple", dict := dd, data := .seq items n, slots := sl } ∧
      R (.ok (.ret (Value.ref s.heap.objs.size))) { s with heap := s.heap.push { cls := Value.type "tuple", data := Data.seq #[] }, toks := s.toks }) :=
  .of_wp fun prog w A R s h => by
    obtain ⟨hp, g, d, tk, os⟩ := s
    obtain ⟨hl, h⟩ := h
    have f1 := AutoSeq1.idx_int
    wp_walk using wpAny_loadPart' hl
    repeat (first
      | (refine wpAny_ite_false (decide_eq_false (by rw [c0]; exact Bool.false_ne_true)) ?_; wp_walk using wpAny_loadPart' hl)
      | (refine wpAny_ite_false (decide_eq_false (by rw [c1]; exact Bool.false_ne_true)) ?_; wp_walk using wpAny_loadPart' hl)
      | (refine wpAny_ite_true (decide_eq_true (by rw [c2])) ?_; wp_walk using wpAny_loadPart' hl))
    all_goals exact ⟨_, rfl, h⟩
def rRepG (K : PySem.W.Frag) : R2 := fun x y H Q => ∃ l k xs, x = .ref l ∧ y = .int k ∧ SqT K H l xs ∧ -1000 ≤ k ∧ k ≤ 1000 ∧ xs.length ≤ 1000 ∧
  (xs = [] ∨ k = 1 → Q (.ref l) H) ∧ (xs ≠ [] ∧ k ≠ 1 → ∀ p, H p = none → Q (.ref p) (upd H p (.tup (List.replicate k.toNat xs).flatten)))
theorem op_repG : OpR X (binaryOp .Mult) (rRepG X.K) := by
  intro pins s σ H x y v u Q I rx ry h
  obtain ⟨l, k, xs, rfl, rfl, hT, h1, h2, hz, q1, q2⟩ := h
  by_cases h3 : xs ≠ [] ∧ 2 ≤ k
  · exact op_repT pins s σ H _ _ v u Q I rx ry ⟨l, k, xs, rfl, rfl, hT, h3.1, h3.2, h2, hz, q2 ⟨h3.1, by omega⟩⟩
  cases rx
  obtain ⟨t, rfl⟩ := ry
  obtain ⟨its, r, ⟨⟨cls, dd, data, sl⟩, ho, hc, n, hd⟩, hs⟩ := I.tuple hT
  simp only at hc hd
  subst hc hd
  have hle : its.length = xs.length := r.length.symm
  have he : its.toArray.isEmpty = xs.isEmpty := by
    cases its with
    | nil => cases xs with
      | nil => rfl
      | cons a b => simp at hle
    | cons a b => cases xs with
      | nil => simp at hle
      | cons a b => rfl
  have c0 : (decide (k < -(2 ^ 63)) || decide (k ≥ 2 ^ 63)) = false := by
    rw [decide_eq_false (by omega), decide_eq_false (by omega)] <;> rfl
  by_cases h4 : xs = [] ∨ k = 1
  · have c1 : (its.toArray.isEmpty || k == 1) = true := by
      rw [he]
      rcases h4 with rfl | rfl
      · rfl
      · simp
    refine wpAny_binaryOp_repeat_ref (T := "tuple") (U := "int") (by decide) ⟨_, ho, rfl⟩ (fun s' => typeIs_int s' k t) noFill_tuple_mul F.fills_int_mul F.slot_int_rmul repeat_tuple F.slot_int_index.lookup
      (call_meets F.slot_int_rmul (typeIs_int s k t) F.entry_int_rmul (F.args_int_rmul_2 _ _) (int_rmul_tuple k t l its.toArray n dd sl)
        ⟨ho, rfl, ⟨_, ho, rfl⟩, call_meets F.slot_tuple_mul ⟨_, ho, rfl⟩ F.entry_tuple_mul (F.args_tuple_mul_2 _ _) (tuple_mul1 l its.toArray n dd sl k t c0 c1) ⟨ho, ?_⟩⟩)
    exact ⟨.ref l, H, I, rfl, q1 h4⟩
  · have hk : xs ≠ [] ∧ k ≤ 0 := by
      have a : xs ≠ [] := fun z => h4 (.inl z)
      have b : k ≠ 1 := fun z => h4 (.inr z)
      exact ⟨a, by
        have : ¬ 2 ≤ k := fun z => h3 ⟨a, z⟩
        omega⟩
    have hemp : xs.isEmpty = false := by
      cases xs with
      | nil => exact absurd rfl hk.1
      | cons a b => rfl
    have c1 : (its.toArray.isEmpty || k == 1) = false := by
      rw [he, hemp, Bool.false_or]
      exact beq_eq_false_iff_ne.mpr (by omega)
    have c2 : (decide (k ≤ 0) || its.toArray.isEmpty) = true := by
      rw [decide_eq_true hk.2]; rfl
    have hr : List.replicate k.toNat xs = [] := by
      rw [show k.toNat = 0 by omega]; rfl
    refine wpAny_binaryOp_repeat_ref (T := "tuple") (U := "int") (by decide) ⟨_, ho, rfl⟩ (fun s' => typeIs_int s' k t) noFill_tuple_mul F.fills_int_mul F.slot_int_rmul repeat_tuple F.slot_int_index.lookup
      (call_meets F.slot_int_rmul (typeIs_int s k t) F.entry_int_rmul (F.args_int_rmul_2 _ _) (int_rmul_tuple k t l its.toArray n dd sl)
        ⟨ho, rfl, ⟨_, ho, rfl⟩, call_meets F.slot_tuple_mul ⟨_, ho, rfl⟩ F.entry_tuple_mul (F.args_tuple_mul_2 _ _) (tuple_mul0 l its.toArray n dd sl k t c0 c1 c2) ⟨ho, ?_⟩⟩)
    have q := q2 ⟨hk.1, by omega⟩ s.heap.objs.size (I.hok.fresh (Nat.le_refl _))
    rw [hr] at q
    exact ⟨.ref s.heap.objs.size, _, I.laid (t' := s.toks) (o := .tup []) (fun b ob q => Heap.get?_push_of_some _ q) (Nat.le_refl _) ⟨Nat.zero_le _, [], .nil, IsTup.new _ _⟩, rfl, q⟩
def rMulU (K : PySem.W.Frag) : R2 := fun x y H Q => rI CMul (fun i j => .int (i * j)) x y H Q ∨ (rI CMulW (fun i j => .int (i * j)) x y H Q ∨ (rRep x y H Q ∨ rRepG K x y H Q))
theorem op_mulU : OpR X (binaryOp .Mult) (rMulU X.K) := op_mul.or (op_mulW.or (op_rep.or op_repG))
/-- in a list, a tuple of flat items; a list of data; a dict; a text -/
def rInS (neg : Bool) : R2 := fun x y H Q => ∃ i j, x = .str i ∧ y = .str j ∧ Q (.bl (if neg then !(!(Builtin.Str.occurrences j i 0 j.length 1).isEmpty) else (!(Builtin.Str.occurrences j i 0 j.length 1).isEmpty))) H
def rInD1 : R2 := fun y x H Q => ∃ a o, x = .ref a ∧ DGet H a y o ∧ Q (.bl o.isSome) H
def rInD2 : R2 := fun y x H Q => ∃ a o, x = .ref a ∧ DGet H a y o ∧ Q (.bl (!o.isSome)) H
theorem op_inDict (hu : X.A.units + 1 < cLine) : OpR X (compareOp .In) rInD1 := by
  intro pins s σ H y x v u Q I ry rx h
  obtain ⟨a, ov, ex, g, q⟩ := h
  subst ex
  obtain rfl : u = Value.ref a := rx
  exact d_in hu I g ry fun s3 I3 => ⟨.bl ov.isSome, H, I3, rfl, q⟩
theorem op_notInDict (hu : X.A.units + 1 < cLine) : OpR X (compareOp .NotIn) rInD2 := by
  intro pins s σ H y x v u Q I ry rx h
  obtain ⟨a, ov, ex, g, q⟩ := h
  subst ex
  obtain rfl : u = Value.ref a := rx
  exact d_notIn hu I g ry fun s3 I3 => ⟨.bl (!ov.isSome), H, I3, rfl, q⟩
def rInU (K : PySem.W.Frag) : R2 := fun x y H Q => rIn K false x y H Q ∨ (rInD K x y H Q ∨ (rInD1 x y H Q ∨ ((fun x y H Q => ∃ i j, x = .str i ∧ y = .str j ∧ Q (.bl (!(Builtin.Str.occurrences j i 0 j.length 1).isEmpty)) H) : R2) x y H Q))
def rNotInU (K : PySem.W.Frag) : R2 := fun x y H Q => rIn K true x y H Q ∨ (rNotInD K x y H Q ∨ (rInD2 x y H Q ∨ ((fun x y H Q => ∃ i j, x = .str i ∧ y = .str j ∧ Q (.bl (!(!(Builtin.Str.occurrences j i 0 j.length 1).isEmpty))) H) : R2) x y H Q))
theorem op_inU (hu : X.A.units + 65 < cLine) : OpR X (compareOp .In) (rInU X.K) := op_in_seq.or ((op_inD hu).or ((op_inDict (by omega)).or op_in_str))
theorem op_notInU (hu : X.A.units + 65 < cLine) : OpR X (compareOp .NotIn) (rNotInU X.K) := op_notIn_seq.or ((op_notInD hu).or ((op_notInDict (by omega)).or op_notIn_str))
/-- a == b -/
def rEqU (K : PySem.W.Frag) : R2 := fun x y H Q => rEq x y H Q ∨ rEqD K x y H Q
def rNeU (K : PySem.W.Frag) : R2 := fun x y H Q => rNe x y H Q ∨ rNeD K x y H Q
theorem op_eqU (hu : X.A.units + 64 < cLine) : OpR X (compareOp .Eq) (rEqU X.K) := op_eq.or (op_eqD hu)
theorem op_neU (hu : X.A.units + 64 < cLine) : OpR X (compareOp .NotEq) (rNeU X.K) := op_ne.or (op_neD hu)
/-- a[i] -/
def rIxDic : R2 := fun x y H Q => ∃ a v, x = .ref a ∧ DGet H a y (some v) ∧ Q v H
theorem ix_dic (hu : X.A.units + 1 < cLine) : IxR X rIxDic := by
  intro value slice pins s σ H x y v u Q I rx ry h hs
  obtain ⟨a, w, rfl, g, q⟩ := h
  obtain rfl : v = Value.ref a := rx
  exact tail_any (dict_typeIs I g) PySem.F.slot_dict_getitem.lookup (d_getItem hu I g ry fun w' s3 I3 rw' => ⟨w, H, I3, rw', q⟩) hs
def rIxU (K : PySem.W.Frag) : R2 := fun x y H Q => rIx K x y H Q ∨ rIxDic x y H Q
theorem ix_U (hu : X.A.units + 1 < cLine) : IxR X (rIxU X.K) := ix_seq.or (ix_dic hu)
/-- slices -/
def rSlU (K : PySem.W.Frag) : V → Option Int → Option Int → Hp → VK → Prop := fun x lo hi H Q => rSlL K x lo hi H Q ∨ (rSlA K x lo hi H Q ∨ rSlS x lo hi H Q)
theorem sl_U : SlR X (rSlU X.K) := sl_list.or (sl_tupA.or sl_str)
/-- len, max, min, int, tuple, list .. -/
def rLenU (K : PySem.W.Frag) : List V → Hp → VK → Prop := fun xs H Q => (∃ x n, xs = [x] ∧ LenV K x H n ∧ Q (.int n) H) ∨ (∃ a kvs, xs = [V.ref a] ∧ H a = some (.dK kvs) ∧ Q (.int kvs.length) H)
theorem call_lenU : CallR X (.builtin "len") (rLenU X.K) := call_len.or call_lenD
def rMx2 : List V → Hp → VK → Prop := fun xs H Q => ∃ i j, xs = [.int i, .int j] ∧ Q (.int (if j > i then j else i)) H
def rMn2 : List V → Hp → VK → Prop := fun xs H Q => ∃ i j, xs = [.int i, .int j] ∧ Q (.int (if j < i then j else i)) H
/-- max, min of a tuple of ints -/
def rMaxT (K : PySem.W.Frag) : List V → Hp → VK → Prop := fun vs H Q => ∃ (a : Addr) (ns : List Int), vs = [V.ref a] ∧ SqT K H a (ns.map V.int) ∧ 0 < ns.length ∧ ∀ m, m ∈ ns → (∀ y, y ∈ ns → y ≤ m) → Q (.int m) H
def rMinT (K : PySem.W.Frag) : List V → Hp → VK → Prop := fun vs H Q => ∃ (a : Addr) (ns : List Int), vs = [V.ref a] ∧ SqT K H a (ns.map V.int) ∧ 0 < ns.length ∧ ∀ m, m ∈ ns → (∀ y, y ∈ ns → m ≤ y) → Q (.int m) H
theorem cr_maxT (hc : X.calm = true) : CallR X (.builtin "max") (rMaxT X.K) := by
  intro pins s σ H vs us Q I r h
  obtain ⟨a, ns, rfl, hs, hne, q⟩ := h
  obtain ⟨its, rv, hl, _⟩ := I.tuple hs
  rw [Vals.ref1 r]
  exact MxT.max_rawT (I.ok.hd hc) hl rv.ints hne fun h' tk m t' hk h1 h2 => ⟨.int _, H, I.kept hk, ⟨_, rfl⟩, q m h1 h2⟩
theorem cr_minT (hc : X.calm = true) : CallR X (.builtin "min") (rMinT X.K) := by
  intro pins s σ H vs us Q I r h
  obtain ⟨a, ns, rfl, hs, hne, q⟩ := h
  obtain ⟨its, rv, hl, _⟩ := I.tuple hs
  rw [Vals.ref1 r]
  exact MxT.min_rawT (I.ok.hd hc) hl rv.ints hne fun h' tk m t' hk h1 h2 => ⟨.int _, H, I.kept hk, ⟨_, rfl⟩, q m h1 h2⟩
def rMaxU (K : PySem.W.Frag) : List V → Hp → VK → Prop := fun xs H Q => rMx2 xs H Q ∨ (rMax K xs H Q ∨ rMaxT K xs H Q)
def rMinU (K : PySem.W.Frag) : List V → Hp → VK → Prop := fun xs H Q => rMn2 xs H Q ∨ (rMin K xs H Q ∨ rMinT K xs H Q)
theorem call_maxU (hc : X.calm = true) : CallR X (.builtin "max") (rMaxU X.K) := (call_max2 hc).or ((cr_max hc).or (cr_maxT hc))
theorem call_minU (hc : X.calm = true) : CallR X (.builtin "min") (rMinU X.K) := (call_min2 hc).or ((cr_min hc).or (cr_minT hc))
def rAbs1 : List V → Hp → VK → Prop := fun xs H Q => ∃ i, xs = [.int i] ∧ Q (.int (if i < 0 then -i else i)) H
theorem call_absU : CallR X (.builtin "abs") rAbs1 := call_abs
def rInt1 : List V → Hp → VK → Prop := fun xs H Q => (∃ i, xs = [.int i] ∧ Q (.int i) H) ∨ ∃ k, xs = [.bl k] ∧ Q (.int (if k then 1 else 0)) H
theorem call_intU : CallR X (.type "int") rInt1 := call_int1
def rTup1 (K : PySem.W.Frag) : List V → Hp → VK → Prop := fun xs H Q => ∃ p ys, xs = [.ref p] ∧ ((SqL K H p ys ∧ ∀ l, H l = none → Q (.ref l) (upd H l (.tup ys))) ∨ (SqT K H p ys ∧ Q (.ref p) H))
theorem call_tupU : CallR X (.type "tuple") (rTup1 X.K) := call_tuple_of
def rLst1 (K : PySem.W.Frag) : List V → Hp → VK → Prop := fun xs H Q => ∃ p ys, xs = [.ref p] ∧ (SqL K H p ys ∨ SqT K H p ys) ∧ ∀ l, H l = none → Q (.ref l) (upd H l (.lst ys))
theorem call_lstU : CallR X (.type "list") (rLst1 X.K) := call_list_of
def rStr1 : List V → Hp → VK → Prop := fun xs H Q => ∃ i, xs = [.int i] ∧ i.natAbs.log2 < 1920 ∧ Q (.str (toString i)) H
theorem call_strU : CallR X (.type "str") rStr1 := call_str_int
end

/-! ### repr of data -/
section
variable {X : Cx}
def rReprC (K : PySem.W.Frag) : List V → Hp → VK → Prop := fun xs H Q => ∃ (a : Addr) (d : PyData), xs = [.ref a] ∧ Dp K H (.ref a) d ∧ d.showable = true ∧ d.depth ≤ 50 ∧ d.shown.length ≤ sizeLine ∧ Q (.str d.shown) H
def rReprN : List V → Hp → VK → Prop := fun xs H Q => xs = [.non] ∧ Q (.str "None") H
def rReprI : List V → Hp → VK → Prop := fun xs H Q => ∃ i, xs = [.int i] ∧ i.natAbs.log2 < 1920 ∧ Q (.str (toString i)) H
def rReprB : List V → Hp → VK → Prop := fun xs H Q => ∃ b, xs = [.bl b] ∧ Q (.str (if b then "True" else "False")) H
def rRepr (K : PySem.W.Frag) : List V → Hp → VK → Prop := fun xs H Q => rReprC K xs H Q ∨ (rReprN xs H Q ∨ (rReprI xs H Q ∨ rReprB xs H Q))
theorem call_reprN : CallR X (.builtin "repr") rReprN := by
  intro pins s σ H xs us Q I r h
  obtain ⟨rfl, q⟩ := h
  obtain ⟨u, rfl, rx⟩ := vals1 r
  cases rx
  exact PySem.P.repr_of_none ⟨.str "None", H, I.kept (t' := _) fun _ _ e => e, ⟨_, rfl⟩, q⟩
theorem call_reprI : CallR X (.builtin "repr") rReprI := by
  intro pins s σ H xs us Q I r h
  obtain ⟨i, rfl, hi, q⟩ := h
  obtain ⟨u, rfl, rx⟩ := vals1 r
  obtain ⟨t, rfl⟩ := rx
  exact PySem.P.repr_of_int hi ⟨.str _, H, I.kept (t' := _) fun _ _ e => e, ⟨_, rfl⟩, q⟩
theorem call_reprB : CallR X (.builtin "repr") rReprB := by
  intro pins s σ H xs us Q I r h
  obtain ⟨b, rfl, q⟩ := h
  obtain ⟨u, rfl, rx⟩ := vals1 r
  cases rx
  exact PySem.P.repr_of_bool ⟨.str _, H, I.kept (t' := _) fun _ _ e => e, ⟨_, rfl⟩, q⟩
mutual
theorem dp_nodict {K : PySem.W.Frag} {H : Hp} : ∀ (d : PyData) (v : V), Dp K H v d → d.hasDict = false
  | .none, _, _ => rfl
  | .bool b, _, _ => rfl
  | .int i, _, _ => rfl
  | .str x, _, _ => rfl
  | .list ds, _, h => by
    cases h with
    | lst hs ha => rw [PyData.hasDict]; exact dps_nodict ds _ ha
  | .tuple ds, _, h => by
    cases h with
    | tup hs ha => rw [PyData.hasDict]; exact dps_nodict ds _ ha
  | .dict _, _, h => by cases h
theorem dps_nodict {K : PySem.W.Frag} {H : Hp} : ∀ (ds : List PyData) (vs : List V), DpAll K H vs ds → PyData.hasDictAll ds = false
  | [], _, _ => rfl
  | d :: ds, _, h => by
    cases h with
    | cons h1 h2 =>
      rw [PyData.hasDictAll, dp_nodict d _ h1, dps_nodict ds _ h2]
      rfl
end
theorem call_reprC (hg : X.A.guards = some []) (hu : X.A.units + 60 < cLine) : CallR X (.builtin "repr") (rReprC X.K) := by
  intro pins s σ H xs us Q I r h
  obtain ⟨a, d, rfl, hd, hs, hdep, hz, q⟩ := h
  obtain ⟨u, rfl, rx⟩ := vals1 r
  obtain ⟨as, hr⟩ := Dp.reads I d _ u hd rx
  cases rx
  refine PySem.repr_of_reads' hr hs (fun z => by rw [dp_nodict d _ hd] at z; cases z) hg (by omega) (fun _ _ e => e) (fun h' u tk hk => ?_) hz
  exact ⟨.str d.shown, H, I.kept (t' := tk) hk, ⟨u, rfl⟩, q⟩
theorem call_repr (hg : X.A.guards = some []) (hu : X.A.units + 60 < cLine) : CallR X (.builtin "repr") (rRepr X.K) := (call_reprC hg hu).or (call_reprN.or (call_reprI.or call_reprB))
end
end L2

/-! Dl6: operators and builtins on data. -/
namespace Dl
open PySem L2
section
variable {K : Fg} {Γ : Ga} {δ : List Sl} {P : Vl → Prop} {x y : Vl}
/-- the end of an operation by a datum that needs no new object -/
theorem od_val {r : R2} {d : D} (k : ∀ (H G : Hp) (v w : V), Ex G H → RelVl K H G v x → RelVl K H G w y → ∀ Q : VK, (∀ z, Dp K G z d → Q z H) → r v w H Q) (h : P (.d d)) : OpD K r x y P := fun H G v w e rx ry Q q =>
  k H G v w e rx ry Q fun z hz => q z H G (.d d) (Grow.refl e) hz (.inl ⟨d, rfl⟩) h
theorem cd_val {r : List V → Hp → VK → Prop} {xs : List Vl} {d : D} (k : ∀ (H G : Hp) (vs : List V), Ex G H → Paired (RelVl K H G) vs xs → ∀ Q : VK, (∀ z, Dp K G z d → Q z H) → r vs H Q) (h : P (.d d)) : CaD K r xs P := fun H G vs e rx Q q =>
  k H G vs e rx Q fun z hz => q z H G (.d d) (Grow.refl e) hz (.inl ⟨d, rfl⟩) h
theorem int_of {H G : Hp} {v : V} {i : Int} (r : RelVl K H G v (.d (.int i))) : v = .int i := Dp.int_inv r
theorem str_of {H G : Hp} {v : V} {i : Str} (r : RelVl K H G v (.d (.str i))) : v = .str i := Dp.str_inv r
theorem bl_of {H G : Hp} {v : V} {i : Bool} (r : RelVl K H G v (.d (.bool i))) : v = .bl i := Dp.bl_inv r
/-! ### + - * // % ** -/
theorem od_I0i {g : Int → Int → Int} {a b : Int} (h : P (.d (.int (g a b)))) : OpD K (rI0 fun i j => .int (g i j)) (.d (.int a)) (.d (.int b)) P :=
  od_val (fun H G v w e rx ry Q q => ⟨a, b, int_of rx, int_of ry, q _ (.int _)⟩) h
theorem od_I0b {g : Int → Int → Bool} {a b : Int} (h : P (.d (.bool (g a b)))) : OpD K (rI0 fun i j => .bl (g i j)) (.d (.int a)) (.d (.int b)) P :=
  od_val (fun H G v w e rx ry Q q => ⟨a, b, int_of rx, int_of ry, q _ (.bl _)⟩) h
theorem od_Ii {C : Int → Int → Prop} {g : Int → Int → Int} {a b : Int} (hc : C a b) (h : P (.d (.int (g a b)))) : OpD K (rI C fun i j => .int (g i j)) (.d (.int a)) (.d (.int b)) P :=
  od_val (fun H G v w e rx ry Q q => ⟨a, b, int_of rx, int_of ry, hc, q _ (.int _)⟩) h
theorem od_addi {a b : Int} (h : P (.d (.int (a + b)))) : OpD K (rAddU K) (.d (.int a)) (.d (.int b)) P :=
  od_val (fun H G v w e rx ry Q q => .inl ⟨a, b, int_of rx, int_of ry, q _ (.int _)⟩) h
theorem od_adds {a b : Str} (hl : a.length + b.length ≤ sizeLine) (h : P (.d (.str (a ++ b)))) : OpD K (rAddU K) (.d (.str a)) (.d (.str b)) P :=
  od_val (fun H G v w e rx ry Q q => .inr (.inl ⟨a, b, str_of rx, str_of ry, hl, q _ (.str _)⟩)) h
theorem od_addl {xs ys : List D} (hx : x.lst = some xs) (hy : y.lst = some ys) (hl : xs.length + ys.length ≤ 1000000) (h : ∀ p, P (.own p (xs ++ ys))) : OpD K (rAddU K) x y P := fun H G v w e rx ry Q q => by
  obtain ⟨a, vs, rfl, h1, h2⟩ := rx.lst e hx
  obtain ⟨b, ws, rfl, h3, h4⟩ := ry.lst e hy
  refine .inr (.inr (.inl ⟨a, b, vs, ws, rfl, rfl, h1, h3, by rw [DpAll.len h2, DpAll.len h4]; exact Nat.le_trans hl (by decide), fun p hp => ?_⟩))
  exact q _ _ G (.own p (xs ++ ys)) (Grow.newH e hp) ⟨rfl, ex_none e hp, _, upd_same, DpAll.app h2 h4⟩ (.inr ⟨p, _, rfl, hp⟩) (h p)
theorem od_addt {xs ys : List D} (hl : xs.length + ys.length ≤ 1000000) (h : P (.d (.tuple (xs ++ ys)))) : OpD K (rAddU K) (.d (.tuple xs)) (.d (.tuple ys)) P := fun H G v w e rx ry Q q => by
  obtain ⟨a, vs, rfl, h1, h2⟩ := rx.tup e
  obtain ⟨b, ws, rfl, h3, h4⟩ := ry.tup e
  refine .inr (.inr (.inr ⟨a, b, vs, ws, rfl, rfl, h1, h3, by rw [DpAll.len h2, DpAll.len h4]; exact Nat.le_trans hl (by decide), fun z => ?_, fun _ z => ?_, fun _ _ p hp => ?_⟩))
  · subst z
    cases xs with
    | nil => exact q _ H G _ (Grow.refl e) ry (.inl ⟨_, rfl⟩) h
    | cons a b => cases h2
  · subst z
    cases ys with
    | nil =>
      rw [List.append_nil] at h
      exact q _ H G _ (Grow.refl e) rx (.inl ⟨_, rfl⟩) h
    | cons a b => cases h4
  · have g : Grow H G (upd H p (.tup (vs ++ ws))) (upd G p (.tup (vs ++ ws))) := Grow.new e hp
    exact q _ _ _ (.d (.tuple (xs ++ ys))) g (Dp.tup (Evl.st_of upd_same) (DpAll.up (DpAll.app h2 h4) g.g)) (.inl ⟨_, rfl⟩) h
theorem od_muli {a b : Int} (hc : CMul a b ∨ CMulW a b) (h : P (.d (.int (a * b)))) : OpD K (rMulU K) (.d (.int a)) (.d (.int b)) P :=
  od_val (fun H G v w e rx ry Q q => by
    rcases hc with hc | hc
    · exact .inl ⟨a, b, int_of rx, int_of ry, hc, q _ (.int _)⟩
    · exact .inr (.inl ⟨a, b, int_of rx, int_of ry, hc, q _ (.int _)⟩)) h
theorem rep_flat {vs : List V} {xs : List D} {G : Hp} (h : DpAll K G vs xs) : ∀ n : Nat, DpAll K G (List.replicate n vs).flatten (List.replicate n xs).flatten
  | 0 => .nil
  | n + 1 => by
    rw [List.replicate_succ, List.replicate_succ, List.flatten_cons, List.flatten_cons]
    exact DpAll.app h (rep_flat h n)
theorem od_mult {xs : List D} {k : Int} (h1 : -1000 ≤ k) (h2 : k ≤ 1000) (hl : xs.length ≤ 1000) (h : P (.d (.tuple (List.replicate k.toNat xs).flatten))) : OpD K (rMulU K) (.d (.tuple xs)) (.d (.int k)) P := fun H G v w e rx ry Q q => by
  obtain ⟨a, vs, rfl, h3, h4⟩ := rx.tup e
  obtain rfl := int_of ry
  refine .inr (.inr (.inr ⟨a, k, vs, rfl, rfl, h3, h1, h2, by rw [DpAll.len h4]; exact hl, fun z => ?_, fun _ p hp => ?_⟩))
  · have hx : (List.replicate k.toNat xs).flatten = xs := by
      rcases z with z | z
      · subst z
        cases xs with
        | nil => simp
        | cons a b => cases h4
      · subst z
        show (List.replicate 1 xs).flatten = xs
        simp
    rw [hx] at h
    exact q _ H G _ (Grow.refl e) rx (.inl ⟨_, rfl⟩) h
  · have g : Grow H G (upd H p (.tup (List.replicate k.toNat vs).flatten)) (upd G p (.tup (List.replicate k.toNat vs).flatten)) := Grow.new e hp
    exact q _ _ _ (.d (.tuple _)) g (Dp.tup (Evl.st_of upd_same) (DpAll.up (rep_flat h4 _) g.g)) (.inl ⟨_, rfl⟩) h
theorem od_mull {xs : List D} {k : Int} (hx : x.lst = some xs) (h1 : -1000000 ≤ k) (h2 : k ≤ 1000000) (hl : xs.length * k.toNat ≤ 1000000) (h : ∀ p, P (.own p (List.replicate k.toNat xs).flatten)) : OpD K (rMulU K) x (.d (.int k)) P := fun H G v w e rx ry Q q => by
  obtain ⟨a, vs, rfl, h3, h4⟩ := rx.lst e hx
  obtain rfl := int_of ry
  refine .inr (.inr (.inl ⟨a, k, vs, rfl, rfl, h3, by omega, by omega, by rw [DpAll.len h4]; exact Nat.le_trans hl (by decide), fun p hp => ?_⟩))
  exact q _ _ G (.own p _) (Grow.newH e hp) ⟨rfl, ex_none e hp, _, upd_same, rep_flat h4 _⟩ (.inr ⟨p, _, rfl, hp⟩) (h p)
/-! ### comparisons -/
theorem od_eqD {d e : D} (hx : x.dat = some d) (hy : y.dat = some e) (sd : SeqAt.shaped d = true) (se : SeqAt.shaped e = true) (h : P (.d (.bool (PyData.eqv d e)))) : OpD K (rEqU K) x y P :=
  od_val (fun H G v w ex rx ry Q q => .inr ⟨d, e, Dp.old _ _ (rx.dat ex hx), Dp.old _ _ (ry.dat ex hy), sd, se, q _ (.bl _)⟩) h
theorem od_neD {d e : D} (hx : x.dat = some d) (hy : y.dat = some e) (sd : SeqAt.shaped d = true) (se : SeqAt.shaped e = true) (h : P (.d (.bool (!PyData.eqv d e)))) : OpD K (rNeU K) x y P :=
  od_val (fun H G v w ex rx ry Q q => .inr ⟨d, e, Dp.old _ _ (rx.dat ex hx), Dp.old _ _ (ry.dat ex hy), sd, se, q _ (.bl _)⟩) h
theorem od_eqi {a b : Int} (h : P (.d (.bool (decide (a = b))))) : OpD K (rEqU K) (.d (.int a)) (.d (.int b)) P :=
  od_val (fun H G v w ex rx ry Q q => .inl (by
    obtain rfl := int_of rx
    obtain rfl := int_of ry
    refine ⟨rfl, q _ ?_⟩
    have e : decide (V.int a = V.int b) = decide (a = b) := by
      rw [Bool.eq_iff_iff]; simp
    rw [e]
    exact .bl _)) h
theorem od_nei {a b : Int} (h : P (.d (.bool (!decide (a = b))))) : OpD K (rNeU K) (.d (.int a)) (.d (.int b)) P :=
  od_val (fun H G v w ex rx ry Q q => .inl (by
    obtain rfl := int_of rx
    obtain rfl := int_of ry
    refine ⟨rfl, q _ ?_⟩
    have e : decide (V.int a = V.int b) = decide (a = b) := by
      rw [Bool.eq_iff_iff]; simp
    rw [e]
    exact .bl _)) h
theorem od_eqs {a b : Str} (h : P (.d (.bool (decide (a = b))))) : OpD K (rEqU K) (.d (.str a)) (.d (.str b)) P :=
  od_val (fun H G v w ex rx ry Q q => .inl (by
    obtain rfl := str_of rx
    obtain rfl := str_of ry
    refine ⟨rfl, q _ ?_⟩
    have e : decide (V.str a = V.str b) = decide (a = b) := by
      rw [Bool.eq_iff_iff]; simp
    rw [e]
    exact .bl _)) h
theorem od_nes {a b : Str} (h : P (.d (.bool (!decide (a = b))))) : OpD K (rNeU K) (.d (.str a)) (.d (.str b)) P :=
  od_val (fun H G v w ex rx ry Q q => .inl (by
    obtain rfl := str_of rx
    obtain rfl := str_of ry
    refine ⟨rfl, q _ ?_⟩
    have e : decide (V.str a = V.str b) = decide (a = b) := by
      rw [Bool.eq_iff_iff]; simp
    rw [e]
    exact .bl _)) h
/-- is None -/
def isNo : Vl → Bool
  | .d .none => true
  | _ => false
theorem isNo_rel {H G : Hp} {v : V} (r : RelVl K H G v x) : decide (v = .non) = isNo x := by
  cases x with
  | d d =>
    cases d with
    | none => have e := Dp.non_inv r; subst e; rfl
    | bool b => have e := Dp.bl_inv r; subst e; rfl
    | int b => have e := Dp.int_inv r; subst e; rfl
    | str b => have e := Dp.str_inv r; subst e; rfl
    | list b => obtain ⟨a, _, e, _⟩ := Dp.lst_inv r; subst e; rfl
    | tuple b => obtain ⟨a, _, e, _⟩ := Dp.tup_inv r; subst e; rfl
    | dict b => cases r
  | vw p xs => have e := r.1; subst e; rfl
  | vd p xs => have e := r.1; subst e; rfl
  | own p xs => have e := r.1; subst e; rfl
  | dic p xs => have e := r.1; subst e; rfl
  | src a c => have e := r.1; subst e; rfl
def rIsN : R2 := fun x y H Q => y = .non ∧ Q (.bl (decide (x = .non))) H
def rNoN : R2 := fun x y H Q => y = .non ∧ Q (.bl (!decide (x = .non))) H
theorem od_isN (h : P (.d (.bool (isNo x)))) : OpD K rIsN x (.d .none) P :=
  od_val (fun H G v w ex rx ry Q q => ⟨Dp.non_inv ry, q _ (by rw [isNo_rel rx]; exact .bl _)⟩) h
theorem od_noN (h : P (.d (.bool (!isNo x)))) : OpD K rNoN x (.d .none) P :=
  od_val (fun H G v w ex rx ry Q q => ⟨Dp.non_inv ry, q _ (by rw [isNo_rel rx]; exact .bl _)⟩) h
/-! ### in -/
def inD (d : D) (ds : List D) : Bool := ds.any fun z => PyData.eqv z d
theorem od_inl {d : D} {ds : List D} (hx : x.dat = some d) (hy : y.lst = some ds) (sd : SeqAt.shaped d = true) (se : SeqAt.shaped (.list ds) = true) (h : P (.d (.bool (inD d ds)))) : OpD K (rInU K) x y P :=
  od_val (fun H G v w ex rx ry Q q => by
    obtain ⟨a, vs, rfl, h1, h2⟩ := ry.lst ex hy
    exact .inr (.inl ⟨d, ds, Dp.old _ _ (rx.dat ex hx), Dp.old _ _ (.lst h1 (DpAll.up h2 ex)), sd, se, q _ (.bl _)⟩)) h
theorem od_nil {d : D} {ds : List D} (hx : x.dat = some d) (hy : y.lst = some ds) (sd : SeqAt.shaped d = true) (se : SeqAt.shaped (.list ds) = true) (h : P (.d (.bool (!inD d ds)))) : OpD K (rNotInU K) x y P :=
  od_val (fun H G v w ex rx ry Q q => by
    obtain ⟨a, vs, rfl, h1, h2⟩ := ry.lst ex hy
    exact .inr (.inl ⟨d, ds, Dp.old _ _ (rx.dat ex hx), Dp.old _ _ (.lst h1 (DpAll.up h2 ex)), sd, se, q _ (.bl _)⟩)) h
/-- flat data -/
def flD : D → Bool
  | .none | .bool _ | .int _ | .str _ => true
  | _ => false
theorem fl_rel {G : Hp} {v : V} {d : D} (r : Dp K G v d) (h : flD d = true) : flatV v = true := by
  cases r with
  | non => rfl
  | bl b => rfl
  | int i => rfl
  | str s => rfl
  | lst _ _ => cases h
  | tup _ _ => cases h
theorem fl_eq {G : Hp} {v w : V} {d e : D} (r : Dp K G v d) (r' : Dp K G w e) (h : flD d = true) (h' : flD e = true) : eqV v w = PyData.eqv d e := by
  cases r with
  | lst _ _ => cases h
  | tup _ _ => cases h
  | _ =>
    cases r' with
    | lst _ _ => cases h'
    | tup _ _ => cases h'
    | _ => rfl
theorem fls_rel {G : Hp} : ∀ {vs : List V} {ds : List D}, DpAll K G vs ds → ds.all flD = true → vs.all flatV = true
  | _, _, .nil, _ => rfl
  | _, _, .cons r t, h => by
    rw [List.all_cons, Bool.and_eq_true] at h ⊢
    exact ⟨fl_rel r h.1, fls_rel t h.2⟩
theorem fls_in {G : Hp} {v : V} {d : D} (r : Dp K G v d) (h : flD d = true) : ∀ {vs : List V} {ds : List D}, DpAll K G vs ds → ds.all flD = true → inV v vs = inD d ds
  | _, _, .nil, _ => rfl
  | _, _, .cons r' t, h' => by
    rw [List.all_cons, Bool.and_eq_true] at h'
    unfold inV inD
    rw [List.any_cons, List.any_cons, fl_eq r' r h'.1 h]
    exact congrArg _ (fls_in r h t h'.2)
theorem od_int {d : D} {ds : List D} (fd : flD d = true) (fs : ds.all flD = true) (h : P (.d (.bool (inD d ds)))) : OpD K (rInU K) (.d d) (.d (.tuple ds)) P :=
  od_val (fun H G v w ex rx ry Q q => by
    obtain ⟨a, vs, rfl, h1, h2⟩ := ry.tup ex
    refine .inl ⟨a, vs, rfl, .inr h1, fl_rel rx fd, fls_rel h2 fs, ?_⟩
    show Q (.bl (inV v vs)) H
    rw [fls_in rx fd h2 fs]
    exact q _ (.bl _)) h
theorem od_nit {d : D} {ds : List D} (fd : flD d = true) (fs : ds.all flD = true) (h : P (.d (.bool (!inD d ds)))) : OpD K (rNotInU K) (.d d) (.d (.tuple ds)) P :=
  od_val (fun H G v w ex rx ry Q q => by
    obtain ⟨a, vs, rfl, h1, h2⟩ := ry.tup ex
    refine .inl ⟨a, vs, rfl, .inr h1, fl_rel rx fd, fls_rel h2 fs, ?_⟩
    show Q (.bl (!inV v vs)) H
    rw [fls_in rx fd h2 fs]
    exact q _ (.bl _)) h
/-! ### dicts whose keys are ints and texts -/
def keyD : D → Option Key
  | .int i => some (.inl i)
  | .str s => some (.inr s)
  | _ => none
def valD (kvs : List (Key × D)) (k : Key) : Option D := (kvs.find? fun kv => decide (kv.1 = k)).map (·.2)
theorem key_rel {G : Hp} {v : V} {d : D} {k : Key} (r : Dp K G v d) (h : keyD d = some k) : v = kV k := by
  cases r with
  | int i => cases h; rfl
  | str s => cases h; rfl
  | _ => cases h
theorem val_rel {G : Hp} {k : Key} : ∀ {vs : List (Key × V)} {ds : List (Key × D)}, KvD K G vs ds → (valV vs k = none ∧ valD ds k = none) ∨ ∃ v d, valV vs k = some v ∧ valD ds k = some d ∧ Dp K G v d
  | _, _, .nil => .inl ⟨rfl, rfl⟩
  | _, _, .cons (a := p) (b := q) r t => by
    unfold valV valD
    rw [List.find?_cons, List.find?_cons, r.1]
    by_cases h : q.1 = k
    · rw [decide_eq_true h]
      exact .inr ⟨p.2, q.2, rfl, rfl, r.2⟩
    · rw [decide_eq_false h]
      exact val_rel t
theorem vd_of {H G : Hp} {v : V} {p : Addr} {kvs : List (Key × D)} (r : RelVl K H G v (.vd p kvs)) : v = .ref p ∧ ∃ vs, H p = some (.dK vs) ∧ KvD K G vs kvs := ⟨r.1, r.2.2⟩
theorem od_ind {d : D} {k : Key} {p : Addr} {kvs : List (Key × D)} (hk : keyD d = some k) (h : P (.d (.bool (valD kvs k).isSome))) : OpD K (rInU K) (.d d) (.vd p kvs) P :=
  od_val (fun H G v w ex rx ry Q q => by
    obtain ⟨rfl, vs, h1, h2⟩ := vd_of ry
    refine .inr (.inr (.inl ⟨p, valV vs k, rfl, by rw [key_rel rx hk]; exact DGet.k h1, ?_⟩))
    have e : (valV vs k).isSome = (valD kvs k).isSome := by
      rcases val_rel (k := k) h2 with ⟨a, b⟩ | ⟨a, b, c, d, _⟩
      · rw [a, b]; rfl
      · rw [c, d]; rfl
    rw [e]
    exact q _ (.bl _)) h
theorem od_nid {d : D} {k : Key} {p : Addr} {kvs : List (Key × D)} (hk : keyD d = some k) (h : P (.d (.bool (!(valD kvs k).isSome)))) : OpD K (rNotInU K) (.d d) (.vd p kvs) P :=
  od_val (fun H G v w ex rx ry Q q => by
    obtain ⟨rfl, vs, h1, h2⟩ := vd_of ry
    refine .inr (.inr (.inl ⟨p, valV vs k, rfl, by rw [key_rel rx hk]; exact DGet.k h1, ?_⟩))
    have e : (valV vs k).isSome = (valD kvs k).isSome := by
      rcases val_rel (k := k) h2 with ⟨a, b⟩ | ⟨a, b, c, d, _⟩
      · rw [a, b]; rfl
      · rw [c, d]; rfl
    rw [e]
    exact q _ (.bl _)) h
/-! ### a[i] -/
theorem atI_rel {G : Hp} {vs : List V} {ds : List D} {i : Int} {d : D} (h : DpAll K G vs ds) (e : atI ds i = some d) : ∃ v, atI vs i = some v ∧ Dp K G v d := by
  unfold atI at e ⊢
  rw [DpAll.len h]
  cases q : ixN ds.length i with
  | none => rw [q] at e; cases e
  | some j =>
    rw [q] at e
    exact DpAll.get h e
theorem od_ixl {xs : List D} {i : Int} {d : D} (hx : x.lst = some xs) (e : atI xs i = some d) (h : P (.d d)) : OpD K (rIxU K) x (.d (.int i)) P := fun H G v w ex rx ry Q q => by
  obtain ⟨a, vs, rfl, h1, h2⟩ := rx.lst ex hx
  obtain rfl := int_of ry
  obtain ⟨z, hz, hd⟩ := atI_rel h2 e
  exact .inl (.inl ⟨a, vs, i, z, rfl, rfl, Evl.sq_of h1, hz, q z H G (.d d) (Grow.refl ex) hd (.inl ⟨_, rfl⟩) h⟩)
theorem od_ixt {xs : List D} {i : Int} {d : D} (e : atI xs i = some d) (h : P (.d d)) : OpD K (rIxU K) (.d (.tuple xs)) (.d (.int i)) P := fun H G v w ex rx ry Q q => by
  obtain ⟨a, vs, rfl, h1, h2⟩ := rx.tup ex
  obtain rfl := int_of ry
  obtain ⟨z, hz, hd⟩ := atI_rel h2 e
  exact .inl (.inr (.inl ⟨a, vs, i, z, rfl, rfl, h1, hz, q z H G (.d d) (Grow.refl ex) hd (.inl ⟨_, rfl⟩) h⟩))
theorem od_ixs {s : Str} {i : Int} {c : Nat} (hl : s.length ≤ sizeLine) (e : atI s.cps.toList i = some c) (h : P (.d (.str ⟨#[c]⟩))) : OpD K (rIxU K) (.d (.str s)) (.d (.int i)) P :=
  od_val (fun H G v w ex rx ry Q q => .inl (.inr (.inr ⟨s, i, c, str_of rx, int_of ry, hl, e, q _ (.str _)⟩))) h
theorem od_ixd {p : Addr} {kvs : List (Key × D)} {k : Key} {d e : D} (hk : keyD d = some k) (hv : valD kvs k = some e) (h : P (.d e)) : OpD K (rIxU K) (.vd p kvs) (.d d) P := fun H G v w ex rx ry Q q => by
  obtain ⟨rfl, vs, h1, h2⟩ := vd_of rx
  rcases val_rel (k := k) h2 with ⟨_, b⟩ | ⟨z, e', c, d', hd⟩
  · rw [hv] at b; cases b
  · rw [hv] at d'
    cases d'
    refine .inr ⟨p, z, rfl, ?_, q z H G (.d e) (Grow.refl ex) hd (.inl ⟨_, rfl⟩) h⟩
    rw [key_rel ry hk, ← c]
    exact DGet.k h1
/-! ### slices -/
def EvO (K : Fg) (Γ : Ga) (δ : List Sl) (to : TO) (P : Option Int → Prop) : Prop := ∀ (σ : L2.St) (H G : Hp), RelS K Γ σ H G δ → ∀ Q : Option Int → Hp → Prop,
  (∀ o H' G', RelS K Γ σ H' G' δ → Fr δ H G H' G' → P o → Q o H') → to σ H Q
theorem eo_n {P : Option Int → Prop} (h : P none) : EvO K Γ δ tNoPart P := fun σ H G R Q q => q none H G R Fr.refl h
theorem eo_s {te : TE} {P : Option Int → Prop} (h : Ev K Γ δ te fun x => ∃ i, x = .d (.int i) ∧ P (some i)) : EvO K Γ δ (tPart te) P := fun σ H G R Q q =>
  h σ H G R _ fun v H1 G1 x R1 f1 r1 k1 ⟨i, hx, p⟩ => by
    subst hx
    exact ⟨i, int_of r1, q _ H1 G1 R1 f1 p⟩
def SlD (K : Fg) (r : V → Option Int → Option Int → Hp → VK → Prop) (x : Vl) (lo hi : Option Int) (P : Vl → Prop) : Prop := ∀ (H G : Hp) (v : V), Ex G H → RelVl K H G v x → ∀ Q : VK,
  (∀ z H' G' u, Grow H G H' G' → RelVl K H' G' z u → ((∃ d, u = .d d) ∨ ∃ p xs, u = .own p xs ∧ H p = none) → P u → Q z H') → r v lo hi H Q
theorem ev_sl {r : V → Option Int → Option Int → Hp → VK → Prop} {te : TE} {tl th : TO} (h : Ev K Γ δ te fun x => EvO K Γ δ tl fun lo => EvO K Γ δ th fun hi => SlD K r x lo hi P) : Ev K Γ δ (tSl r te tl th) P := fun σ H G R Q q =>
  h σ H G R _ fun v H1 G1 x R1 f1 r1 k1 h1 => h1 σ H1 G1 R1 _ fun lo H2 G2 R2 f2 h2 => h2 σ H2 G2 R2 _ fun hi H3 G3 R3 f3 h3 =>
    h3 H3 G3 v R3.sub (r1.stay k1 R1 R R3 (f2.trans f3)) _ fun z H4 G4 u g r4 hu p => q z H4 G4 u (R3.grow g) (((f1.trans f2).trans f3).trans g.fr) r4 ((vok_res g hu).mono ((f1.trans f2).trans f3)) p
def cutD (xs : List D) (lo hi : Option Int) : List D := (xs.drop (HT.sIx xs.length 0 lo)).take (HT.sIx xs.length xs.length hi - HT.sIx xs.length 0 lo)
theorem cut_rel {G : Hp} {vs : List V} {ds : List D} (h : DpAll K G vs ds) (lo hi : Option Int) : DpAll K G (cutV vs lo hi) (cutD ds lo hi) := by
  unfold cutV cutD
  rw [DpAll.len h]
  exact DpAll.take _ (DpAll.drop _ h)
theorem sd_sll {xs : List D} {lo hi : Option Int} (hx : x.lst = some xs) (h : ∀ p, P (.own p (cutD xs lo hi))) : SlD K (rSlU K) x lo hi P := fun H G v ex rx Q q => by
  obtain ⟨a, vs, rfl, h1, h2⟩ := rx.lst ex hx
  exact .inl ⟨a, vs, rfl, Evl.sq_of h1, fun p hp => q _ _ G (.own p _) (Grow.newH ex hp) ⟨rfl, ex_none ex hp, _, upd_same, cut_rel h2 lo hi⟩ (.inr ⟨p, _, rfl, hp⟩) (h p)⟩
theorem sd_slt {xs : List D} {lo hi : Option Int} (h : P (.d (.tuple (cutD xs lo hi)))) : SlD K (rSlU K) (.d (.tuple xs)) lo hi P := fun H G v ex rx Q q => by
  obtain ⟨a, vs, rfl, h1, h2⟩ := rx.tup ex
  refine .inr (.inl ⟨a, vs, rfl, h1, fun z => ?_, fun _ p hp => ?_⟩)
  · have e : cutD xs lo hi = xs := by
      unfold cutD
      rw [← DpAll.len h2, z.1, z.2, List.drop_zero, Nat.sub_zero, DpAll.len h2]
      exact List.take_length
    rw [e] at h
    exact q _ H G _ (Grow.refl ex) rx (.inl ⟨_, rfl⟩) h
  · have g : Grow H G (upd H p (.tup (cutV vs lo hi))) (upd G p (.tup (cutV vs lo hi))) := Grow.new ex hp
    exact q _ _ _ (.d (.tuple _)) g (Dp.tup (Evl.st_of upd_same) (DpAll.up (cut_rel h2 lo hi) g.g)) (.inl ⟨_, rfl⟩) h
theorem sd_sls {s : Str} {lo hi : Option Int} (hl : s.length ≤ sizeLine) (h : P (.d (.str (cutS s lo hi)))) : SlD K (rSlU K) (.d (.str s)) lo hi P := fun H G v ex rx Q q =>
  .inr (.inr ⟨s, str_of rx, hl, q _ H G (.d (.str _)) (Grow.refl ex) (.str _) (.inl ⟨_, rfl⟩) h⟩)
/-! ### builtins -/
theorem one_of {α β : Type} {F : α → β → Prop} {vs : List α} {y : β} (r : Paired F vs [y]) : ∃ v, vs = [v] ∧ F v y := by
  cases r with
  | cons r t => cases t; exact ⟨_, rfl, r⟩
theorem two_of {α β : Type} {F : α → β → Prop} {vs : List α} {y z : β} (r : Paired F vs [y, z]) : ∃ v w, vs = [v, w] ∧ F v y ∧ F w z := by
  cases r with
  | cons r t =>
    cases t with
    | cons r' t => cases t; exact ⟨_, _, rfl, r, r'⟩
theorem cd_lenl {xs : List D} (hx : x.lst = some xs) (h : P (.d (.int xs.length))) : CaD K (rLenU K) [x] P :=
  cd_val (fun H G vs ex r Q q => by
    obtain ⟨v, rfl, rx⟩ := one_of r
    obtain ⟨a, vs, rfl, h1, h2⟩ := rx.lst ex hx
    exact .inl ⟨_, vs.length, rfl, .inl ⟨vs, Evl.sq_of h1, rfl⟩, by rw [DpAll.len h2]; exact q _ (.int _)⟩) h
theorem cd_lent {xs : List D} (h : P (.d (.int xs.length))) : CaD K (rLenU K) [.d (.tuple xs)] P :=
  cd_val (fun H G vs ex r Q q => by
    obtain ⟨v, rfl, rx⟩ := one_of r
    obtain ⟨a, vs, rfl, h1, h2⟩ := rx.tup ex
    exact .inl ⟨_, vs.length, rfl, .inr ⟨vs, h1, rfl⟩, by rw [DpAll.len h2]; exact q _ (.int _)⟩) h
theorem cd_lens {s : Str} (hl : s.length ≤ sizeLine) (h : P (.d (.int s.length))) : CaD K (rLenU K) [.d (.str s)] P :=
  cd_val (fun H G vs ex r Q q => by
    obtain ⟨v, rfl, rx⟩ := one_of r
    obtain rfl := str_of rx
    exact .inl ⟨_, s.length, rfl, ⟨hl, rfl⟩, q _ (.int _)⟩) h
theorem kvd_len {G : Hp} {vs : List (Key × V)} {ds : List (Key × D)} (h : KvD K G vs ds) : vs.length = ds.length := Paired.length h
theorem cd_lend {p : Addr} {kvs : List (Key × D)} (h : P (.d (.int kvs.length))) : CaD K (rLenU K) [.vd p kvs] P :=
  cd_val (fun H G vs ex r Q q => by
    obtain ⟨v, rfl, rx⟩ := one_of r
    obtain ⟨rfl, vs, h1, h2⟩ := vd_of rx
    exact .inr ⟨_, vs, rfl, h1, by rw [kvd_len h2]; exact q _ (.int _)⟩) h
theorem cd_max2 {a b : Int} (h : P (.d (.int (max a b)))) : CaD K (rMaxU K) [.d (.int a), .d (.int b)] P :=
  cd_val (fun H G vs ex r Q q => by
    obtain ⟨v, w, rfl, rx, ry⟩ := two_of r
    obtain rfl := int_of rx
    obtain rfl := int_of ry
    refine .inl ⟨a, b, rfl, q _ ?_⟩
    have e : (if b > a then b else a) = max a b := by omega
    rw [e]
    exact .int _) h
theorem cd_min2 {a b : Int} (h : P (.d (.int (min a b)))) : CaD K (rMinU K) [.d (.int a), .d (.int b)] P :=
  cd_val (fun H G vs ex r Q q => by
    obtain ⟨v, w, rfl, rx, ry⟩ := two_of r
    obtain rfl := int_of rx
    obtain rfl := int_of ry
    refine .inl ⟨a, b, rfl, q _ ?_⟩
    have e : (if b < a then b else a) = min a b := by omega
    rw [e]
    exact .int _) h
/-- the ints of a list -/
theorem cd_maxl {ns : List Int} (hx : x.lst = some (ns.map PyData.int)) (hn : ns ≠ []) (h : ∀ m, m ∈ ns → (∀ y ∈ ns, y ≤ m) → P (.d (.int m))) : CaD K (rMaxU K) [x] P := fun H G vs ex r Q q => by
  obtain ⟨v, rfl, rx⟩ := one_of r
  obtain ⟨a, vs, rfl, h1, h2⟩ := rx.lst ex hx
  obtain rfl := DpAll.ints_inv h2
  refine .inr (.inl ⟨a, ns, rfl, Evl.sq_of h1, by cases ns with | nil => exact absurd rfl hn | cons a b => exact Nat.succ_pos _, fun m hm hmx => ?_⟩)
  exact q _ H G (.d (.int m)) (Grow.refl ex) (.int _) (.inl ⟨_, rfl⟩) (h m hm hmx)
theorem cd_minl {ns : List Int} (hx : x.lst = some (ns.map PyData.int)) (hn : ns ≠ []) (h : ∀ m, m ∈ ns → (∀ y ∈ ns, m ≤ y) → P (.d (.int m))) : CaD K (rMinU K) [x] P := fun H G vs ex r Q q => by
  obtain ⟨v, rfl, rx⟩ := one_of r
  obtain ⟨a, vs, rfl, h1, h2⟩ := rx.lst ex hx
  obtain rfl := DpAll.ints_inv h2
  refine .inr (.inl ⟨a, ns, rfl, Evl.sq_of h1, by cases ns with | nil => exact absurd rfl hn | cons a b => exact Nat.succ_pos _, fun m hm hmx => ?_⟩)
  exact q _ H G (.d (.int m)) (Grow.refl ex) (.int _) (.inl ⟨_, rfl⟩) (h m hm hmx)
theorem cd_maxt {ns : List Int} (hn : ns ≠ []) (h : ∀ m, m ∈ ns → (∀ y ∈ ns, y ≤ m) → P (.d (.int m))) : CaD K (rMaxU K) [.d (.tuple (ns.map PyData.int))] P := fun H G vs ex r Q q => by
  obtain ⟨v, rfl, rx⟩ := one_of r
  obtain ⟨a, vs, rfl, h1, h2⟩ := rx.tup ex
  obtain rfl := DpAll.ints_inv h2
  refine .inr (.inr ⟨a, ns, rfl, h1, by cases ns with | nil => exact absurd rfl hn | cons a b => exact Nat.succ_pos _, fun m hm hmx => ?_⟩)
  exact q _ H G (.d (.int m)) (Grow.refl ex) (.int _) (.inl ⟨_, rfl⟩) (h m hm hmx)
theorem cd_mint {ns : List Int} (hn : ns ≠ []) (h : ∀ m, m ∈ ns → (∀ y ∈ ns, m ≤ y) → P (.d (.int m))) : CaD K (rMinU K) [.d (.tuple (ns.map PyData.int))] P := fun H G vs ex r Q q => by
  obtain ⟨v, rfl, rx⟩ := one_of r
  obtain ⟨a, vs, rfl, h1, h2⟩ := rx.tup ex
  obtain rfl := DpAll.ints_inv h2
  refine .inr (.inr ⟨a, ns, rfl, h1, by cases ns with | nil => exact absurd rfl hn | cons a b => exact Nat.succ_pos _, fun m hm hmx => ?_⟩)
  exact q _ H G (.d (.int m)) (Grow.refl ex) (.int _) (.inl ⟨_, rfl⟩) (h m hm hmx)
theorem cd_sum {ns : List Int} (hx : x.lst = some (ns.map PyData.int)) (h : P (.d (.int ns.sum))) : CaD K (rSum K) [x] P :=
  cd_val (fun H G vs ex r Q q => by
    obtain ⟨v, rfl, rx⟩ := one_of r
    obtain ⟨a, vs, rfl, h1, h2⟩ := rx.lst ex hx
    obtain rfl := DpAll.ints_inv h2
    exact ⟨a, ns, rfl, Evl.sq_of h1, q _ (.int _)⟩) h
theorem cd_all {bs : List Bool} (hx : x.lst = some (bs.map PyData.bool)) (h : P (.d (.bool (bs.all id)))) : CaD K (rAll K) [x] P :=
  cd_val (fun H G vs ex r Q q => by
    obtain ⟨v, rfl, rx⟩ := one_of r
    obtain ⟨a, vs, rfl, h1, h2⟩ := rx.lst ex hx
    obtain rfl := DpAll.bls_inv h2
    exact ⟨a, bs, rfl, Evl.sq_of h1, q _ (.bl _)⟩) h
theorem cd_any {bs : List Bool} (hx : x.lst = some (bs.map PyData.bool)) (h : P (.d (.bool (bs.any id)))) : CaD K (rAny K) [x] P :=
  cd_val (fun H G vs ex r Q q => by
    obtain ⟨v, rfl, rx⟩ := one_of r
    obtain ⟨a, vs, rfl, h1, h2⟩ := rx.lst ex hx
    obtain rfl := DpAll.bls_inv h2
    exact ⟨a, bs, rfl, Evl.sq_of h1, q _ (.bl _)⟩) h
theorem cd_inti {i : Int} (h : P (.d (.int i))) : CaD K rInt1 [.d (.int i)] P :=
  cd_val (fun H G vs ex r Q q => by
    obtain ⟨v, rfl, rx⟩ := one_of r
    obtain rfl := int_of rx
    exact .inl ⟨i, rfl, q _ (.int _)⟩) h
theorem cd_intb {b : Bool} (h : P (.d (.int (if b then 1 else 0)))) : CaD K rInt1 [.d (.bool b)] P :=
  cd_val (fun H G vs ex r Q q => by
    obtain ⟨v, rfl, rx⟩ := one_of r
    obtain rfl := bl_of rx
    exact .inr ⟨b, rfl, q _ (.int _)⟩) h
theorem cd_abs {i : Int} (h : P (.d (.int (i.natAbs : Int)))) : CaD K rAbs1 [.d (.int i)] P :=
  cd_val (fun H G vs ex r Q q => by
    obtain ⟨v, rfl, rx⟩ := one_of r
    obtain rfl := int_of rx
    refine ⟨i, rfl, q _ ?_⟩
    have e : (if i < 0 then -i else i) = (i.natAbs : Int) := by omega
    rw [e]
    exact .int _) h
theorem cd_str {i : Int} (hi : i.natAbs.log2 < 1920) (h : P (.d (.str (toString i)))) : CaD K rStr1 [.d (.int i)] P :=
  cd_val (fun H G vs ex r Q q => by
    obtain ⟨v, rfl, rx⟩ := one_of r
    obtain rfl := int_of rx
    exact ⟨i, rfl, hi, q _ (.str _)⟩) h
theorem cd_tupl {xs : List D} (hx : x.lst = some xs) (h : P (.d (.tuple xs))) : CaD K (rTup1 K) [x] P := fun H G vs ex r Q q => by
  obtain ⟨v, rfl, rx⟩ := one_of r
  obtain ⟨a, vs, rfl, h1, h2⟩ := rx.lst ex hx
  refine ⟨a, vs, rfl, .inl ⟨Evl.sq_of h1, fun p hp => ?_⟩⟩
  have g : Grow H G (upd H p (.tup vs)) (upd G p (.tup vs)) := Grow.new ex hp
  exact q _ _ _ (.d (.tuple xs)) g (Dp.tup (Evl.st_of upd_same) (DpAll.up h2 g.g)) (.inl ⟨_, rfl⟩) h
theorem cd_tupt {xs : List D} (h : P (.d (.tuple xs))) : CaD K (rTup1 K) [.d (.tuple xs)] P := fun H G vs ex r Q q => by
  obtain ⟨v, rfl, rx⟩ := one_of r
  obtain ⟨a, vs, rfl, h1, h2⟩ := rx.tup ex
  exact ⟨a, vs, rfl, .inr ⟨h1, q _ H G _ (Grow.refl ex) rx (.inl ⟨_, rfl⟩) h⟩⟩
theorem cd_lstl {xs : List D} (hx : x.lst = some xs) (h : ∀ p, P (.own p xs)) : CaD K (rLst1 K) [x] P := fun H G vs ex r Q q => by
  obtain ⟨v, rfl, rx⟩ := one_of r
  obtain ⟨a, vs, rfl, h1, h2⟩ := rx.lst ex hx
  exact ⟨a, vs, rfl, .inl (Evl.sq_of h1), fun p hp => q _ _ G (.own p xs) (Grow.newH ex hp) ⟨rfl, ex_none ex hp, vs, upd_same, h2⟩ (.inr ⟨p, _, rfl, hp⟩) (h p)⟩
theorem cd_lstt {xs : List D} (h : ∀ p, P (.own p xs)) : CaD K (rLst1 K) [.d (.tuple xs)] P := fun H G vs ex r Q q => by
  obtain ⟨v, rfl, rx⟩ := one_of r
  obtain ⟨a, vs, rfl, h1, h2⟩ := rx.tup ex
  exact ⟨a, vs, rfl, .inr h1, fun p hp => q _ _ G (.own p xs) (Grow.newH ex hp) ⟨rfl, ex_none ex hp, vs, upd_same, h2⟩ (.inr ⟨p, _, rfl, hp⟩) (h p)⟩
theorem cd_sorti {ns : List Int} (hx : x.lst = some (ns.map PyData.int)) (h : ∀ p (ms : List Int), ms.Perm ns → ms.Pairwise (· ≤ ·) → P (.own p (ms.map PyData.int))) : CaD K (rSortedI K) [x] P := fun H G vs ex r Q q => by
  obtain ⟨v, rfl, rx⟩ := one_of r
  obtain ⟨a, vs, rfl, h1, h2⟩ := rx.lst ex hx
  obtain rfl := DpAll.ints_inv h2
  exact ⟨a, ns, rfl, Evl.sq_of h1, fun ms p h3 h4 hp => q _ _ G (.own p (ms.map PyData.int)) (Grow.newH ex hp) ⟨rfl, ex_none ex hp, _, upd_same, DpAll.ints ms⟩ (.inr ⟨p, _, rfl, hp⟩) (h p ms h3 h4)⟩
theorem cd_repr {d : D} (hx : x.dat = some d) (hr : (∃ ds, d = .list ds) ∨ ∃ ds, d = .tuple ds) (hs : d.showable = true) (hd : d.depth ≤ 50) (hz : d.shown.length ≤ sizeLine) (h : P (.d (.str d.shown))) : CaD K (rRepr K) [x] P :=
  cd_val (fun H G vs ex r Q q => by
    obtain ⟨v, rfl, rx⟩ := one_of r
    have hd' := rx.dat ex hx
    rcases hr with ⟨ds, rfl⟩ | ⟨ds, rfl⟩
    · obtain ⟨a, ws, rfl, _, _⟩ := Dp.lst_inv hd'
      exact .inl ⟨a, _, rfl, Dp.old _ _ hd', hs, hd, hz, q _ (.str _)⟩
    · obtain ⟨a, ws, rfl, _, _⟩ := Dp.tup_inv hd'
      exact .inl ⟨a, _, rfl, Dp.old _ _ hd', hs, hd, hz, q _ (.str _)⟩) h
theorem cd_reprN (h : P (.d (.str (PyData.none).shown))) : CaD K (rRepr K) [.d .none] P :=
  cd_val (fun H G vs ex r Q q => by
    obtain ⟨v, rfl, rx⟩ := one_of r
    obtain rfl := Dp.non_inv rx
    exact .inr (.inl ⟨rfl, q _ (.str _)⟩)) h
/-! ### isinstance -/
def tyN : Vl → Option String
  | .d .none => some "NoneType"
  | .d (.bool _) => some "bool"
  | .d (.int _) => some "int"
  | .d (.str _) => some "str"
  | .d (.list _) => some "list"
  | .d (.tuple _) => some "tuple"
  | .vw _ _ => some "list"
  | .own _ _ => some "list"
  | .vd _ _ => some "dict"
  | _ => none
theorem ty_rel {H G : Hp} {v : V} {n : String} (ex : Ex G H) (r : RelVl K H G v x) (h : tyN x = some n) : TyX K H v (.type n) := by
  cases x with
  | d d =>
    cases d with
    | none => cases h; have e := Dp.non_inv r; subst e; exact .base .non
    | bool b => cases h; have e := Dp.bl_inv r; subst e; exact .base (.bl _)
    | int b => cases h; have e := Dp.int_inv r; subst e; exact .base (.int _)
    | str b => cases h; have e := Dp.str_inv r; subst e; exact .base (.str _)
    | list b => cases h; obtain ⟨a, _, e, h1, _⟩ := Dp.lst_inv r; subst e; exact .base (.lst (ex _ _ h1))
    | tuple b =>
      cases h
      obtain ⟨a, _, rfl, h1, _⟩ := Dp.tup_inv r
      rcases Evl.ex_t ex h1 with (h1 | ⟨o, h1⟩) | ⟨o, its, n, h1, h2, _⟩
      · exact .base (.tup h1)
      · exact .fTuple h1
      · exact .kTuple h1 h2
    | dict b => cases r
  | vw p xs =>
    cases h
    obtain ⟨rfl, _, vs, h1, _⟩ := r
    exact .base (.lst h1)
  | own p xs =>
    cases h
    obtain ⟨rfl, _, vs, h1, _⟩ := r
    exact .base (.lst h1)
  | vd p xs =>
    cases h
    obtain ⟨rfl, _, vs, h1, _⟩ := r
    exact .base (.dK h1)
  | _ => cases h
theorem ev_isi {te : TE} {n : String} (h : Ev K Γ δ te fun x => ∃ m b, tyN x = some m ∧ kitB m n = some b ∧ P (.d (.bool b))) : Ev K Γ δ (tCB (rIsi K) (tCons te (tCons (tC (.ty n)) tNil))) P := fun σ H G R Q q =>
  h σ H G R _ fun v H1 G1 x R1 f1 r1 k1 ⟨m, b, h1, h2, p⟩ => ⟨v, .ty n, .type m, .type n, b, rfl, .ty n, ty_rel R1.sub r1 h1, kit_ty h2, q _ H1 G1 (.d (.bool b)) R1 f1 (.bl b) trivial p⟩
end
end Dl

/-! Dz1: zip of two sequences, each a list or a tuple, strict or not; enumerate over a tuple: at the library's level. -/
namespace Dz
open PySem
open PySem.Sem (wp)
inductive Ki where
  | l
  | t
def IsIt : Ki → Heap → Addr → Addr → Nat → Prop
  | .l, h, it, a, i => h.IsListIter it a i
  | .t, h, it, a, i => h.IsTupleIter it a i
def IsSq : Ki → Heap → Addr → Array Value → Prop
  | .l, h, a, xs => h.IsList a xs
  | .t, h, a, xs => h.IsTuple a xs
theorem IsIt.extBut {k : Ki} {h h' : Heap} {a b l : Addr} {i : Nat} (x : IsIt k h a l i) (hs : Heap.ExtBut b h h') (hab : a ≠ b) : IsIt k h' a l i := by
  cases k with
  | l => exact Heap.IsListIter.extBut x hs hab
  | t => exact Heap.IsTupleIter.extBut x hs hab
theorem IsIt.at {k : Ki} {h h' : Heap} {a l : Addr} {i : Nat} (x : IsIt k h a l i) (e : ∀ o, h.get? a = some o → h'.get? a = some o) : IsIt k h' a l i := by
  cases k with
  | l => exact Heap.IsListIter.at x e
  | t => exact Heap.IsTupleIter.at x e
theorem IsIt.lt {k : Ki} {h : Heap} {a l : Addr} {i : Nat} (x : IsIt k h a l i) : a < h.objs.size := by
  cases k with
  | l => obtain ⟨_, e, _⟩ := x; exact Heap.lt_size e
  | t => obtain ⟨_, e, _⟩ := x; exact Heap.lt_size e
theorem IsIt.obj {k : Ki} {h : Heap} {a l : Addr} {i : Nat} (x : IsIt k h a l i) : ∃ o, h.get? a = some o ∧ ∀ v : Array Value, ∀ n, o.data ≠ .seq v n := by
  cases k with
  | l => obtain ⟨o, e, _, d⟩ := x; exact ⟨o, e, fun v n q => by rw [d] at q; cases q⟩
  | t => obtain ⟨o, e, _, d⟩ := x; exact ⟨o, e, fun v n q => by rw [d] at q; cases q⟩
theorem IsSq.extBut {k : Ki} {h h' : Heap} {a b : Addr} {xs : Array Value} (x : IsSq k h a xs) (hs : Heap.ExtBut b h h') (hab : a ≠ b) : IsSq k h' a xs := by
  cases k with
  | l => exact Heap.IsList.extBut x hs hab
  | t => exact Heap.IsTuple.extBut x hs hab
section
variable {prog : Program} {w : World} {A : Around} {E : Value → Shared → Prop} {s : Shared}
theorem nextOf_item {k : Ki} {it l : Addr} {i : Nat} {items : Array Value} {x : Value} {Q : Value → Shared → Prop} (hit : IsIt k s.heap it l i) (hl : IsSq k s.heap l items) (hx : items[i]? = some x)
    (hQ : ∀ h', IsIt k h' it l (i + 1) → Heap.SameBut it s.heap h' → Q x { s with heap := h' }) : wpAny (model prog w) A (Builtin.SmallTypes.nextOf (.ref it)) Q E s := by
  cases k with
  | l => exact wpAny_nextOf_list_item hit hl hx hQ
  | t => exact RZ.nextOf_tuple_item hit hl hx hQ
theorem nextOf_end {k : Ki} {it l : Addr} {i : Nat} {items : Array Value} {Q : Value → Shared → Prop} (hh : A.handled = none) (hit : IsIt k s.heap it l i) (hl : IsSq k s.heap l items) (hx : items[i]? = none)
    (hE : ∀ h' e, Heap.ExtBut it s.heap h' → (∃ o, h'.get? e = some o ∧ o.cls = .type "StopIteration") → E (.ref e) { s with heap := h' }) : wpAny (model prog w) A (Builtin.SmallTypes.nextOf (.ref it)) Q E s := by
  cases k with
  | l => exact wpAny_nextOf_list_end hh hit hl hx hE
  | t => exact RZ.nextOf_tuple_end hh hit hl hx hE
def draw (st : Bool) (it : Value) : Sem (Option Value) := do if st then Builtin.SmallTypes.nextOrEnd it else return some (← Builtin.SmallTypes.nextOf it)
theorem draw_item {k : Ki} {st : Bool} {it l : Addr} {i : Nat} {items : Array Value} {x : Value} {Q : Option Value → Shared → Prop} (hit : IsIt k s.heap it l i) (hl : IsSq k s.heap l items) (hx : items[i]? = some x)
    (hQ : ∀ h', IsIt k h' it l (i + 1) → Heap.SameBut it s.heap h' → Q (some x) { s with heap := h' }) : wpAny (model prog w) A (draw st (.ref it)) Q E s := by
  unfold draw
  cases st with
  | true =>
    show wpAny _ _ (Builtin.SmallTypes.nextOrEnd (.ref it)) _ _ _
    unfold Builtin.SmallTypes.nextOrEnd
    exact wpAny_bind (wpAny_attempt (nextOf_item hit hl hx fun h' a b => wpAny_pure (hQ h' a b)))
  | false =>
    show wpAny _ _ (Builtin.SmallTypes.nextOf (.ref it) >>= _) _ _ _
    exact wpAny_bind (nextOf_item hit hl hx fun h' a b => wpAny_pure (hQ h' a b))
/-- the end: strictly none, else StopIteration -/
theorem draw_end {k : Ki} {st : Bool} {it l : Addr} {i : Nat} {items : Array Value} {Q : Option Value → Shared → Prop} (hh : A.handled = none) (hit : IsIt k s.heap it l i) (hl : IsSq k s.heap l items) (hx : items[i]? = none)
    (hQ : st = true → ∀ h', Heap.ExtBut it s.heap h' → Q none { s with heap := h' })
    (hE : st = false → ∀ h' e, Heap.ExtBut it s.heap h' → (∃ o, h'.get? e = some o ∧ o.cls = .type "StopIteration") → E (.ref e) { s with heap := h' }) : wpAny (model prog w) A (draw st (.ref it)) Q E s := by
  unfold draw
  cases st with
  | true =>
    show wpAny _ _ (Builtin.SmallTypes.nextOrEnd (.ref it)) _ _ _
    unfold Builtin.SmallTypes.nextOrEnd
    refine wpAny_bind (wpAny_attempt (nextOf_end hh hit hl hx fun h' e he hx' => ?_))
    obtain ⟨o, ho, hc⟩ := hx'
    refine wpAny_bind (wpAny_isInstance (T := "StopIteration") (b := true) ⟨o, ho, hc⟩ isSubtype_stop ?_)
    exact wpAny_pure (hQ rfl _ he)
  | false =>
    show wpAny _ _ (Builtin.SmallTypes.nextOf (.ref it) >>= _) _ _ _
    exact wpAny_bind (nextOf_end hh hit hl hx fun h' e a b => hE rfl h' e a b)
end
abbrev IsZ (h : Heap) (st : Bool) (z TI TO : Addr) (f0 : Value) : Prop :=
  h.get? z = some { cls := .type "zip", dict := none, data := .fields #[f0, .bool false, .bool st, .ref TI, .ref TO], slots := #[] }
theorem bool_st (st : Bool) : (Value.bool st == Value.bool true) = st := by cases st <;> rfl
section
variable {prog : Program} {w : World} {A : Around} {E : Value → Shared → Prop} {s : Shared}
theorem next_item {ka kb : Ki} {st : Bool} {z TI TO i1 i2 l1 l2 : Addr} {k1 k2 : Nat} {xs ys : Array Value} {x y a b : Value} {Q : Value → Shared → Prop} (D : ZipApart z TI TO i1 i2 l1 l2)
    (hz : IsZ s.heap st z TI TO .none) (hTI : IsPair s.heap TI (.ref i1) (.ref i2)) (hTO : IsPair s.heap TO a b)
    (h1 : IsIt ka s.heap i1 l1 k1) (h2 : IsIt kb s.heap i2 l2 k2) (hl1 : IsSq ka s.heap l1 xs) (hl2 : IsSq kb s.heap l2 ys) (hx : xs[k1]? = some x) (hy : ys[k2]? = some y)
    (hQ : ∀ h', IsZ h' st z TI TO (rawInt s.heap.objs.size) → IsPair h' TO x y → IsIt ka h' i1 l1 (k1 + 1) → IsIt kb h' i2 l2 (k2 + 1) → IsPair h' s.heap.objs.size x y → h'.objs.size = s.heap.objs.size + 1 →
      (∀ c o, c ≠ z → c ≠ TO → c ≠ i1 → c ≠ i2 → s.heap.get? c = some o → h'.get? c = some o) → Q (.ref s.heap.objs.size) { s with heap := h' }) :
    wpAny (model prog w) A (Builtin.«zip.__next__» ⟨[.ref z], []⟩) (fun fin s' => ∃ v, fin = .done (.ret v) ∧ Q v s') E s := by
  show wpAny _ _ (field (.ref z) 2 >>= _) _ _ _
  refine wpAny_bind (wpAny_field hz rfl (x := .bool st) rfl ?_)
  show wpAny _ _ (field (.ref z) 3 >>= _) _ _ _
  refine wpAny_bind (wpAny_field hz rfl (x := .ref TI) rfl ?_)
  refine wpAny_bind (wpAny_seqItems hTI rfl ?_)
  show wpAny _ _ (Builtin.SmallTypes.ownedTupleIsFree (.ref z) >>= _) _ _ _
  refine wpAny_bind ?_
  unfold Builtin.SmallTypes.ownedTupleIsFree
  refine wpAny_bind (wpAny_field hz rfl (x := .none) rfl (wpAny_pure ?_))
  simp only [if_true]
  refine wpAny_bind (wpAny_rule ?_)
  refine wpAny_bind (wpAny_field hz rfl (x := .ref TO) rfl ?_)
  refine wpAny_bind (wpAny_setField_rec hz (by simp) fun h₁ hz₁ hs₁ => ?_)
  replace hz₁ : IsZ h₁ st z TI TO .ellipsis := hz₁
  refine wpAny_bind ?_
  simp only [List.zipIdx_cons, List.zipIdx_nil, List.forIn_cons, List.forIn_nil]
  refine wpAny_bind (wpAny_bind (wpAny_onRaise ?_))
  show wpAny _ _ (draw (Value.bool st == Value.bool true) (.ref i1)) _ _ _
  refine draw_item (h1.extBut hs₁.extBut D.i1z) (hl1.extBut hs₁.extBut D.l1z) hx fun h₂ h1₂ hs₂ => ?_
  have hTO₂ : IsPair h₂ TO a b := hs₂.extBut _ _ D.TOi1 (hs₁.extBut _ _ D.TOz hTO)
  refine wpAny_bind (wpAny_seqItems hTO₂ rfl ?_)
  refine wpAny_bind (wpAny_updateSeq_pair hTO₂ fun h₃ hTO₃ hs₃ => ?_)
  replace hTO₃ : IsPair h₃ TO x b := hTO₃
  refine wpAny_bind (wpAny_letGo (wpAny_pure ?_))
  refine wpAny_bind (wpAny_bind (wpAny_onRaise ?_))
  show wpAny _ _ (draw (Value.bool st == Value.bool true) (.ref i2)) _ _ _
  refine draw_item (((h2.extBut hs₁.extBut D.i2z).extBut hs₂.extBut D.i12.symm).extBut hs₃.extBut D.TOi2.symm)
    (((hl2.extBut hs₁.extBut D.l2z).extBut hs₂.extBut D.l2i1).extBut hs₃.extBut D.l2TO) hy fun h₄ h2₄ hs₄ => ?_
  have hTO₄ : IsPair h₄ TO x b := hs₄.extBut _ _ D.TOi2 hTO₃
  refine wpAny_bind (wpAny_seqItems hTO₄ rfl ?_)
  refine wpAny_bind (wpAny_updateSeq_pair hTO₄ fun h₅ hTO₅ hs₅ => ?_)
  replace hTO₅ : IsPair h₅ TO x y := hTO₅
  refine wpAny_bind (wpAny_letGo (wpAny_pure (wpAny_pure ?_)))
  refine wpAny_bind (wpAny_seqItems hTO₅ rfl ?_)
  refine wpAny_bind (wpAny_newTuple ?_)
  have hsz : h₅.objs.size = s.heap.objs.size := by rw [hs₅.1, hs₄.1, hs₃.1, hs₂.1, hs₁.1]
  have hz₅ : IsZ h₅ st z TI TO .ellipsis := hs₅.extBut _ _ D.TOz.symm (hs₄.extBut _ _ D.i2z.symm (hs₃.extBut _ _ D.TOz.symm (hs₂.extBut _ _ D.i1z.symm hz₁)))
  have hk₅ : ∀ c o, c ≠ z → c ≠ TO → c ≠ i1 → c ≠ i2 → s.heap.get? c = some o → h₅.get? c = some o := fun c o c1 c2 c3 c4 e =>
    hs₅.extBut _ _ c2 (hs₄.extBut _ _ c4 (hs₃.extBut _ _ c2 (hs₂.extBut _ _ c3 (hs₁.extBut _ _ c1 e))))
  have h1₅ : IsIt ka h₅ i1 l1 (k1 + 1) := ((h1₂.extBut hs₃.extBut D.TOi1.symm).extBut hs₄.extBut D.i12).extBut hs₅.extBut D.TOi1.symm
  have h2₅ : IsIt kb h₅ i2 l2 (k2 + 1) := h2₄.extBut hs₅.extBut D.TOi2.symm
  have hzlt : z < h₅.objs.size := Heap.lt_size hz₅
  show wpAny _ _ (Builtin.SmallTypes.ownedTupleHandOut (.ref z) (.ref h₅.objs.size) >>= _) _ _ _
  refine wpAny_bind ?_
  unfold Builtin.SmallTypes.ownedTupleHandOut
  have hz₆ : IsZ (h₅.push { cls := .type "tuple", data := .seq #[x, y] }) st z TI TO .ellipsis := Heap.get?_push_of_some _ hz₅
  refine wpAny_bind (wpAny_setField_rec hz₆ (by simp) fun h₇ hz₇ hs₇ => ?_)
  replace hz₇ : IsZ h₇ st z TI TO (rawInt h₅.objs.size) := hz₇
  refine wpAny_setField_rec hz₇ (by simp) fun h₈ hz₈ hs₈ => ?_
  replace hz₈ : IsZ h₈ st z TI TO (rawInt h₅.objs.size) := hz₈
  have up : ∀ c o, c ≠ z → h₅.get? c = some o → h₈.get? c = some o := fun c o c1 e => hs₈.extBut _ _ c1 (hs₇.extBut _ _ c1 (Heap.get?_push_of_some _ e))
  have hT₈ : IsPair h₈ h₅.objs.size x y := hs₈.extBut _ _ (Nat.ne_of_gt hzlt) (hs₇.extBut _ _ (Nat.ne_of_gt hzlt) (Heap.get?_push_size _ rfl))
  have hz8 : h₈.objs.size = h₅.objs.size + 1 := by rw [hs₈.1, hs₇.1, Heap.size_push]
  rw [hsz] at hz₈ hT₈ hz8
  refine wpAny_pure ⟨_, rfl, ?_⟩
  show Q (.ref h₅.objs.size) _
  rw [hsz]
  exact hQ h₈ hz₈ (up _ _ D.TOz hTO₅) (h1₅.at fun o e => up _ o D.i1z e) (h2₅.at fun o e => up _ o D.i2z e) hT₈ hz8 fun c o c1 c2 c3 c4 e => up c o c1 (hk₅ c o c1 c2 c3 c4 e)
/-- what StopIteration asks -/
theorem stop_ {Q : Fin → Shared → Prop} (hh : A.handled = none) (hE : ∀ h' e, (∀ c o, s.heap.get? c = some o → h'.get? c = some o) → (∃ o, h'.get? e = some o ∧ o.cls = .type "StopIteration") → E (.ref e) { s with heap := h' }) :
    wpAny (model prog w) A (Builtin.SmallTypes.stopIteration) Q E s := by
  unfold Builtin.SmallTypes.stopIteration
  show wpAny _ _ (newExc (.type "StopIteration") [] >>= _) _ _ _
  refine wpAny_bind ?_
  simp only [newExc, newTuple]
  refine wpAny_bind (wpAny_newObj_type ?_ (by size_fits))
  refine wpAny_bind (m := firstArgMember _ _) (wpAny_of_eq (a := Value.none) (by first | rfl | (simp only [firstArgMember]; rfl)) ?_)
  refine wpAny_newObj_type ?_ (by size_fits)
  simp only [raiseNew]
  refine wpAny_bind (wpAny_handled ?_)
  first | rw [show A.in1.handled = none from hh] | rw [hh]
  refine wpAny_bind (wpAny_pure (wpAny_throw ?_))
  exact hE _ _ (fun c o e => Heap.get?_push_of_some _ (Heap.get?_push_of_some _ e)) ⟨_, Heap.get?_push_size _ rfl, rfl⟩
theorem next_end {ka kb : Ki} {st : Bool} {z TI TO i1 i2 l1 l2 : Addr} {k1 k2 : Nat} {xs ys : Array Value} {a b : Value} {Q : Fin → Shared → Prop} (hh : A.handled = none) (D : ZipApart z TI TO i1 i2 l1 l2)
    (hz : IsZ s.heap st z TI TO .none) (hTI : IsPair s.heap TI (.ref i1) (.ref i2)) (hTO : IsPair s.heap TO a b)
    (h1 : IsIt ka s.heap i1 l1 k1) (h2 : IsIt kb s.heap i2 l2 k2) (hl1 : IsSq ka s.heap l1 xs) (hl2 : IsSq kb s.heap l2 ys) (hend : xs[k1]? = none ∨ ys[k2]? = none) (hst : st = true → xs[k1]? = none ∧ ys[k2]? = none)
    (hE : ∀ h' e, (∀ c o, c ≠ z → c ≠ TO → c ≠ i1 → c ≠ i2 → s.heap.get? c = some o → h'.get? c = some o) → (∃ o, h'.get? e = some o ∧ o.cls = .type "StopIteration") → E (.ref e) { s with heap := h' }) :
    wpAny (model prog w) A (Builtin.«zip.__next__» ⟨[.ref z], []⟩) Q E s := by
  show wpAny _ _ (field (.ref z) 2 >>= _) _ _ _
  refine wpAny_bind (wpAny_field hz rfl (x := .bool st) rfl ?_)
  show wpAny _ _ (field (.ref z) 3 >>= _) _ _ _
  refine wpAny_bind (wpAny_field hz rfl (x := .ref TI) rfl ?_)
  refine wpAny_bind (wpAny_seqItems hTI rfl ?_)
  show wpAny _ _ (Builtin.SmallTypes.ownedTupleIsFree (.ref z) >>= _) _ _ _
  refine wpAny_bind ?_
  unfold Builtin.SmallTypes.ownedTupleIsFree
  refine wpAny_bind (wpAny_field hz rfl (x := .none) rfl (wpAny_pure ?_))
  simp only [if_true]
  refine wpAny_bind (wpAny_rule ?_)
  refine wpAny_bind (wpAny_field hz rfl (x := .ref TO) rfl ?_)
  refine wpAny_bind (wpAny_setField_rec hz (by simp) fun h₁ hz₁ hs₁ => ?_)
  replace hz₁ : IsZ h₁ st z TI TO .ellipsis := hz₁
  refine wpAny_bind ?_
  simp only [List.zipIdx_cons, List.zipIdx_nil, List.forIn_cons, List.forIn_nil]
  refine wpAny_bind (wpAny_bind (wpAny_onRaise ?_))
  show wpAny _ _ (draw (Value.bool st == Value.bool true) (.ref i1)) _ _ _
  rw [bool_st]
  cases hx : xs[k1]? with
  | none =>
    refine draw_end hh (h1.extBut hs₁.extBut D.i1z) (hl1.extBut hs₁.extBut D.l1z) hx (fun hs h₂ hs₂ => ?_) fun hs h₂ e hs₂ he => ?_
    · have hz₂ : IsZ h₂ st z TI TO .ellipsis := hs₂ _ _ D.i1z.symm hz₁
      refine wpAny_bind (wpAny_setField_rec hz₂ (by simp) fun h₃ hz₃ hs₃ => ?_)
      have h2₃ : IsIt kb h₃ i2 l2 k2 := ((h2.extBut hs₁.extBut D.i2z).extBut hs₂ D.i12.symm).extBut hs₃.extBut D.i2z
      have hl2₃ : IsSq kb h₃ l2 ys := ((hl2.extBut hs₁.extBut D.l2z).extBut hs₂ D.l2i1).extBut hs₃.extBut D.l2z
      refine wpAny_bind ?_
      show wpAny _ _ (forIn (List.zipIdx (List.drop 1 [Value.ref i1, Value.ref i2]) 1) _ _ >>= _) _ _ _
      refine wpAny_bind ?_
      simp only [List.drop_succ_cons, List.drop_zero, List.zipIdx_cons, List.zipIdx_nil, List.forIn_cons, List.forIn_nil]
      refine wpAny_bind ?_
      show wpAny _ _ (draw true (.ref i2) >>= _) _ _ _
      refine wpAny_bind (draw_end hh h2₃ hl2₃ (hst hs).2 (fun _ h₄ hs₄ => ?_) fun z => nomatch z)
      refine wpAny_pure (wpAny_pure (wpAny_bind (wpAny_rule (stop_ hh fun h₅ e hs₅ he => ?_))))
      exact hE h₅ e (fun c o c1 c2 c3 c4 x => hs₅ c o (hs₄ _ _ c4 (hs₃.extBut _ _ c1 (hs₂ _ _ c3 (hs₁.extBut _ _ c1 x))))) he
    · obtain ⟨oe, hoe, hce⟩ := he
      have hz₂ : IsZ h₂ st z TI TO .ellipsis := hs₂ _ _ D.i1z.symm hz₁
      have hez : e ≠ z := fun x => by subst x; rw [hz₂] at hoe; cases hoe; simp at hce
      refine wpAny_setField_rec hz₂ (by simp) fun h₃ _ hs₃ => hE h₃ e (fun c o c1 _ c3 _ x => hs₃.extBut _ _ c1 (hs₂ _ _ c3 (hs₁.extBut _ _ c1 x))) ⟨oe, hs₃.extBut _ _ hez hoe, hce⟩
  | some x =>
    have hy : ys[k2]? = none := by rcases hend with h | h; rw [hx] at h; cases h; exact h
    have hsf : st = false := by
      cases st with
      | false => rfl
      | true => have := (hst rfl).1; rw [hx] at this; cases this
    subst hsf
    refine draw_item (h1.extBut hs₁.extBut D.i1z) (hl1.extBut hs₁.extBut D.l1z) hx fun h₂ h1₂ hs₂ => ?_
    have hTO₂ : IsPair h₂ TO a b := hs₂.extBut _ _ D.TOi1 (hs₁.extBut _ _ D.TOz hTO)
    refine wpAny_bind (wpAny_seqItems hTO₂ rfl ?_)
    refine wpAny_bind (wpAny_updateSeq_pair hTO₂ fun h₃ hTO₃ hs₃ => ?_)
    refine wpAny_bind (wpAny_letGo (wpAny_pure ?_))
    refine wpAny_bind (wpAny_bind (wpAny_onRaise ?_))
    show wpAny _ _ (draw false (.ref i2)) _ _ _
    refine draw_end hh (((h2.extBut hs₁.extBut D.i2z).extBut hs₂.extBut D.i12.symm).extBut hs₃.extBut D.TOi2.symm)
      (((hl2.extBut hs₁.extBut D.l2z).extBut hs₂.extBut D.l2i1).extBut hs₃.extBut D.l2TO) hy (fun z => nomatch z) fun _ h₄ e hs₄ he => ?_
    obtain ⟨oe, hoe, hce⟩ := he
    have hz₄ : IsZ h₄ false z TI TO .ellipsis := hs₄ _ _ D.i2z.symm (hs₃.extBut _ _ D.TOz.symm (hs₂.extBut _ _ D.i1z.symm hz₁))
    have hez : e ≠ z := fun x => by subst x; rw [hz₄] at hoe; cases hoe; simp at hce
    refine wpAny_setField_rec hz₄ (by simp) fun h₅ _ hs₅ => hE h₅ e (fun c o c1 c2 c3 c4 x => hs₅.extBut _ _ c1 (hs₄ _ _ c4 (hs₃.extBut _ _ c2 (hs₂.extBut _ _ c3 (hs₁.extBut _ _ c1 x))))) ⟨oe, hs₅.extBut _ _ hez hoe, hce⟩
end
end Dz

/-! Dz2: zip's making, its turns, its rule. -/
namespace Dz
open PySem
open PySem.Sem (wp)
section
variable {prog : Program} {w : World} {A : Around} {E : Value → Shared → Prop} {s : Shared}
theorem pyNext_item {ka kb : Ki} {st : Bool} {z TI TO i1 i2 l1 l2 : Addr} {k1 k2 : Nat} {xs ys : Array Value} {x y a b : Value} {Q : Option Value → Shared → Prop} (D : ZipApart z TI TO i1 i2 l1 l2)
    (hz : IsZ s.heap st z TI TO .none) (hTI : IsPair s.heap TI (.ref i1) (.ref i2)) (hTO : IsPair s.heap TO a b)
    (h1 : IsIt ka s.heap i1 l1 k1) (h2 : IsIt kb s.heap i2 l2 k2) (hl1 : IsSq ka s.heap l1 xs) (hl2 : IsSq kb s.heap l2 ys) (hx : xs[k1]? = some x) (hy : ys[k2]? = some y)
    (hQ : ∀ h', IsZ h' st z TI TO (rawInt s.heap.objs.size) → IsPair h' TO x y → IsIt ka h' i1 l1 (k1 + 1) → IsIt kb h' i2 l2 (k2 + 1) → IsPair h' s.heap.objs.size x y → h'.objs.size = s.heap.objs.size + 1 →
      (∀ c o, c ≠ z → c ≠ TO → c ≠ i1 → c ≠ i2 → s.heap.get? c = some o → h'.get? c = some o) → Q (some (.ref s.heap.objs.size)) { s with heap := h' }) :
    wpAny (model prog w) A (pyNext (.ref z)) Q E s := by
  have hT : s.TypeIs (.ref z) "zip" := ⟨_, hz, rfl⟩
  unfold pyNext
  exact wpAny_bind (wpAny_attempt (wpAny_callSpecial?_slot (name := Str.ofString "__next__") hT F.slot_zip_next
    (wpAny_call_entry F.slot_zip_next hT F.entry_zip_next
      (next_item D hz hTI hTO h1 h2 hl1 hl2 hx hy fun h' a1 a2 a3 a4 a5 a6 a7 => wpAny_pure (hQ h' a1 a2 a3 a4 a5 a6 a7)) (F.args_zip_next_1 _))))
theorem pyNext_end {ka kb : Ki} {st : Bool} {z TI TO i1 i2 l1 l2 : Addr} {k1 k2 : Nat} {xs ys : Array Value} {a b : Value} {Q : Option Value → Shared → Prop} (hh : A.handled = none) (D : ZipApart z TI TO i1 i2 l1 l2)
    (hz : IsZ s.heap st z TI TO .none) (hTI : IsPair s.heap TI (.ref i1) (.ref i2)) (hTO : IsPair s.heap TO a b)
    (h1 : IsIt ka s.heap i1 l1 k1) (h2 : IsIt kb s.heap i2 l2 k2) (hl1 : IsSq ka s.heap l1 xs) (hl2 : IsSq kb s.heap l2 ys) (hend : xs[k1]? = none ∨ ys[k2]? = none) (hst : st = true → xs[k1]? = none ∧ ys[k2]? = none)
    (hQ : ∀ h', (∀ c o, c ≠ z → c ≠ TO → c ≠ i1 → c ≠ i2 → s.heap.get? c = some o → h'.get? c = some o) → Q none { s with heap := h' }) : wpAny (model prog w) A (pyNext (.ref z)) Q E s := by
  have hT : s.TypeIs (.ref z) "zip" := ⟨_, hz, rfl⟩
  unfold pyNext
  refine wpAny_bind (wpAny_attempt (wpAny_callSpecial?_slot (name := Str.ofString "__next__") hT F.slot_zip_next
    (wpAny_call_entry F.slot_zip_next hT F.entry_zip_next (next_end hh D hz hTI hTO h1 h2 hl1 hl2 hend hst fun h' e hk he => ?_) (F.args_zip_next_1 _))))
  obtain ⟨o, ho, hc⟩ := he
  refine wpAny_bind (wpAny_isInstance (T := "StopIteration") (b := true) ⟨o, ho, hc⟩ isSubtype_stop ?_)
  exact wpAny_pure (hQ _ hk)
theorem letGo_z {elts : List Expr} {x1 : Nat} {pos : Pos} {st : Bool} {z TI TO T : Addr} {Q : Unit → Shared → Prop} (hz : IsZ s.heap st z TI TO (rawInt T))
    (hQ : ∀ h', IsZ h' st z TI TO .none → Heap.SameBut z s.heap h' → Q () { s with heap := h' }) :
    wpAny (model prog w) A (letOwnedTupleGo (.Tuple elts x1 pos) (.ref z) (.ref T)) Q E s := by
  unfold letOwnedTupleGo
  refine wpAny_bind (wpAny_load hz ?_)
  show wpAny _ _ (if (["enumerate", "zip", "dict_itemiterator", "dict_reverseitemiterator", "odict_iterator", "itertools.zip_longest", "itertools.pairwise"].contains "zip" &&
      (#[rawInt T, .bool false, .bool st, .ref TI, .ref TO] : Array Value)[0]? == some (rawInt T)) = true then _ else _) Q E s
  rw [if_pos (by simp)]
  refine wpAny_bind (wpAny_rule ?_)
  show wpAny _ _ (setField (.ref z) 0 .none) Q E s
  exact wpAny_setField_rec hz (by simp) fun h' hz' hs' => hQ h' hz' hs'
theorem pyIter_z {st : Bool} {z TI TO : Addr} {f0 : Value} {Q : Value → Shared → Prop} (hz : IsZ s.heap st z TI TO f0) (h : Q (.ref z) s) : wpAny (model prog w) A (pyIter (.ref z)) Q E s := by
  have hT : s.TypeIs (.ref z) "zip" := ⟨_, hz, rfl⟩
  refine wpAny_pyIter_slot hT F.slot_zip_iter (wpAny_call_entry F.slot_zip_iter hT F.entry_zip_iter ?_ (F.args_zip_iter_1 _))
  show wpAny _ _ (ret (.ref z)) _ _ s
  exact wpAny_pure ⟨_, rfl, "zip", _, hT, F.slot_zip_next.lookup, h⟩
end
def itn : Ki → String
  | .l => "list_iterator"
  | .t => "tuple_iterator"
def kwS : Bool → List (Str × Value)
  | true => [("strict", .bool true)]
  | false => []
abbrev zH1 (ka : Ki) (h : Heap) (l1 : Addr) : Heap := h.push { cls := .type (itn ka), data := .fields #[.ref l1, .int 0 0] }
abbrev zH2 (ka kb : Ki) (h : Heap) (l1 l2 : Addr) : Heap := (zH1 ka h l1).push { cls := .type (itn kb), data := .fields #[.ref l2, .int 0 0] }
abbrev zH3 (ka kb : Ki) (h : Heap) (l1 l2 : Addr) : Heap := (zH2 ka kb h l1 l2).push { cls := .type "tuple", data := .seq #[.ref h.objs.size, .ref (zH1 ka h l1).objs.size] }
abbrev zH4 (ka kb : Ki) (h : Heap) (l1 l2 : Addr) : Heap := (zH3 ka kb h l1 l2).push { cls := .type "tuple", data := .seq #[.none, .none] }
abbrev zH5 (ka kb : Ki) (st : Bool) (h : Heap) (l1 l2 : Addr) : Heap := (zH4 ka kb h l1 l2).push { cls := .type "zip", data := .fields #[.none, .bool false, .bool st, .ref (zH2 ka kb h l1 l2).objs.size, .ref (zH3 ka kb h l1 l2).objs.size] }
theorem meets_z_new (ka kb : Ki) (st : Bool) (l1 l2 : Addr) (xs ys : Array Value) :
    Meets (Builtin.«zip.__new__» ⟨[.type "zip", .ref l1, .ref l2], kwS st⟩) (fun _ R s => IsSq ka s.heap l1 xs ∧ IsSq kb s.heap l2 ys ∧
      R (.ok (.ret (.ref (zH4 ka kb s.heap l1 l2).objs.size))) { s with heap := zH5 ka kb st s.heap l1 l2 }) :=
  .of_wp fun prog w A R s h => by
    obtain ⟨hp, g, d, tk, os⟩ := s; obtain ⟨hl1, hl2, h⟩ := h
    have hsub := sub_zip
    cases ka <;> cases kb
    · have hL1 : Heap.IsList (Shared.heap ⟨hp, g, d, tk, os⟩) l1 xs := hl1
      have hL2 : Heap.IsList (Shared.heap ⟨hp.push { cls := .type "list_iterator", data := .fields #[.ref l1, .int 0 0] }, g, d, tk, os⟩) l2 ys := Heap.IsList.push hl2 _
      cases st
      · wp_walk using wpAny_pyIter_list hL1, wpAny_pyIter_list hL2
        exact ⟨_, rfl, h⟩
      · wp_walk using wpAny_pyIter_list hL1, wpAny_pyIter_list hL2
        exact ⟨_, rfl, h⟩
    · have hL1 : Heap.IsList (Shared.heap ⟨hp, g, d, tk, os⟩) l1 xs := hl1
      have hL2 : Heap.IsTuple (Shared.heap ⟨hp.push { cls := .type "list_iterator", data := .fields #[.ref l1, .int 0 0] }, g, d, tk, os⟩) l2 ys := Heap.IsTuple.push hl2 _
      cases st
      · wp_walk using wpAny_pyIter_list hL1, wpAny_pyIter_tuple hL2
        exact ⟨_, rfl, h⟩
      · wp_walk using wpAny_pyIter_list hL1, wpAny_pyIter_tuple hL2
        exact ⟨_, rfl, h⟩
    · have hL1 : Heap.IsTuple (Shared.heap ⟨hp, g, d, tk, os⟩) l1 xs := hl1
      have hL2 : Heap.IsList (Shared.heap ⟨hp.push { cls := .type "tuple_iterator", data := .fields #[.ref l1, .int 0 0] }, g, d, tk, os⟩) l2 ys := Heap.IsList.push hl2 _
      cases st
      · wp_walk using wpAny_pyIter_tuple hL1, wpAny_pyIter_list hL2
        exact ⟨_, rfl, h⟩
      · wp_walk using wpAny_pyIter_tuple hL1, wpAny_pyIter_list hL2
        exact ⟨_, rfl, h⟩
    · have hL1 : Heap.IsTuple (Shared.heap ⟨hp, g, d, tk, os⟩) l1 xs := hl1
      have hL2 : Heap.IsTuple (Shared.heap ⟨hp.push { cls := .type "tuple_iterator", data := .fields #[.ref l1, .int 0 0] }, g, d, tk, os⟩) l2 ys := Heap.IsTuple.push hl2 _
      cases st
      · wp_walk using wpAny_pyIter_tuple hL1, wpAny_pyIter_tuple hL2
        exact ⟨_, rfl, h⟩
      · wp_walk using wpAny_pyIter_tuple hL1, wpAny_pyIter_tuple hL2
        exact ⟨_, rfl, h⟩
theorem typeCall_zS (st : Bool) (a b : Value) : checkTypeCall "zip" ⟨[a, b], kwS st⟩ = pure () := by cases st <;> kernel_rfl
theorem newCall_zS (st : Bool) (a b : Value) : checkBuiltinCall "zip.__new__" ⟨[.type "zip", a, b], kwS st⟩ = pure () := by cases st <;> kernel_rfl
end Dz

/-! Dz3: zip(a, b), zip(a, b, strict=True): the call, the turns, the rule. -/
namespace Dz
open PySem
open PySem.Sem (wp)
theorem args_initS (st : Bool) (obj a b : Value) : argsOk "object.__init__" ⟨[obj, a, b], kwS st⟩ := by
  cases st with
  | false => exact F.args_object_init_3 obj a b
  | true => unfold argsOk; kernel_rfl
section
variable {prog : Program} {w : World} {A : Around} {E : Value → Shared → Prop} {s : Shared}
theorem call_z (ka kb : Ki) (st : Bool) {l1 l2 : Addr} {xs ys : Array Value} {Q : Value → Shared → Prop} (hl1 : IsSq ka s.heap l1 xs) (hl2 : IsSq kb s.heap l2 ys)
    (h : ∀ h', IsZ h' st (s.heap.objs.size + 4) (s.heap.objs.size + 2) (s.heap.objs.size + 3) .none → IsPair h' (s.heap.objs.size + 2) (.ref s.heap.objs.size) (.ref (s.heap.objs.size + 1)) →
      IsPair h' (s.heap.objs.size + 3) .none .none → IsIt ka h' s.heap.objs.size l1 0 → IsIt kb h' (s.heap.objs.size + 1) l2 0 → h'.objs.size = s.heap.objs.size + 5 →
      (∀ c o, s.heap.get? c = some o → h'.get? c = some o) → Q (.ref (s.heap.objs.size + 4)) { s with heap := h' }) :
    wpAny (model prog w) A (call (.type "zip") [.ref l1, .ref l2] (kwS st)) Q E s := by
  refine callType_newKw F.called_zip (by decide) (typeCall_zS st _ _) (newCall_zS st _ _) (fun obj => args_initS st obj _ _) F.entry_zip_new
    (meets_z_new ka kb st l1 l2 xs ys) ⟨hl1, hl2, ?_⟩
  have z1 : (zH1 ka s.heap l1).objs.size = s.heap.objs.size + 1 := Heap.size_push ..
  have z2 : (zH2 ka kb s.heap l1 l2).objs.size = s.heap.objs.size + 2 := by rw [Heap.size_push, z1]
  have z3 : (zH3 ka kb s.heap l1 l2).objs.size = s.heap.objs.size + 3 := by rw [Heap.size_push, z2]
  have z4 : (zH4 ka kb s.heap l1 l2).objs.size = s.heap.objs.size + 4 := by rw [Heap.size_push, z3]
  have z5 : (zH5 ka kb st s.heap l1 l2).objs.size = s.heap.objs.size + 5 := by rw [Heap.size_push, z4]
  have g5 : (zH5 ka kb st s.heap l1 l2).get? (zH4 ka kb s.heap l1 l2).objs.size = some _ := Heap.get?_push_size _ rfl
  have g4 : (zH5 ka kb st s.heap l1 l2).get? (zH3 ka kb s.heap l1 l2).objs.size = some _ := Heap.get?_push_of_some _ (Heap.get?_push_size _ rfl)
  have g3 : (zH5 ka kb st s.heap l1 l2).get? (zH2 ka kb s.heap l1 l2).objs.size = some _ := Heap.get?_push_of_some _ (Heap.get?_push_of_some _ (Heap.get?_push_size _ rfl))
  have g2 : (zH5 ka kb st s.heap l1 l2).get? (zH1 ka s.heap l1).objs.size = some _ := Heap.get?_push_of_some _ (Heap.get?_push_of_some _ (Heap.get?_push_of_some _ (Heap.get?_push_size _ rfl)))
  have g1 : (zH5 ka kb st s.heap l1 l2).get? s.heap.objs.size = some _ := Heap.get?_push_of_some _ (Heap.get?_push_of_some _ (Heap.get?_push_of_some _ (Heap.get?_push_of_some _ (Heap.get?_push_size _ rfl))))
  show _ ∧ _
  rw [z2, z3, z4] at g5
  rw [z1, z2] at g3
  rw [z3] at g4
  rw [z1] at g2
  rw [z4]
  have it1 : IsIt ka (zH5 ka kb st s.heap l1 l2) s.heap.objs.size l1 0 := by
    cases ka with
    | l => exact ⟨_, g1, rfl, rfl⟩
    | t => exact ⟨_, g1, rfl, rfl⟩
  have it2 : IsIt kb (zH5 ka kb st s.heap l1 l2) (s.heap.objs.size + 1) l2 0 := by
    cases kb with
    | l => exact ⟨_, g2, rfl, rfl⟩
    | t => exact ⟨_, g2, rfl, rfl⟩
  exact ⟨⟨_, g5, rfl⟩, h _ g5 g3 g4 it1 it2 z5 fun c o x =>
    Heap.get?_push_of_some _ (Heap.get?_push_of_some _ (Heap.get?_push_of_some _ (Heap.get?_push_of_some _ (Heap.get?_push_of_some _ x))))⟩
end
end Dz
namespace L2
open PySem PySem.Spec PyProof.Rows Dz
/-- a sequence of the kind k -/
def SqK (K : PySem.W.Frag) (H : Hp) : Ki → Addr → List V → Prop
  | .l, a, xs => SqL K H a xs
  | .t, a, xs => SqT K H a xs
theorem Inv.sqK {X : Cx} {pins : List (Addr × Obj)} {σ : L2.St} {H : Hp} {s : Shared} {k : Ki} {a : Addr} {xs : List V} (I : Inv X pins σ H s) (h : SqK X.K H k a xs) : ∃ its : List Value, Vals xs its ∧ IsSq k s.heap a its.toArray ∧ a < s.heap.objs.size := by
  cases k with
  | l =>
    obtain ⟨its, rv, p, _⟩ := I.list h
    exact ⟨its, rv, p.isList, p.lt⟩
  | t =>
    obtain ⟨its, rv, p, _⟩ := I.tuple h
    obtain ⟨o, ho, _⟩ := id p
    exact ⟨its, rv, p, Heap.lt_size ho⟩
theorem Inv.sqK_inj {X : Cx} {pins : List (Addr × Obj)} {σ : L2.St} {H : Hp} {s : Shared} {k : Ki} {a : Addr} {xs ys : List V} (I : Inv X pins σ H s) (h : SqK X.K H k a xs) (h' : SqK X.K H k a ys) : xs = ys := by
  cases k with
  | l => exact I.list_inj h h'
  | t => exact I.tuple_inj h h'
/-- the sequences at a and b as they stand at each turn, the items in new pairs -/
def ItzK (K : PySem.W.Frag) (ka kb : Ki) (st : Bool) (a b : Addr) : It :=
  ⟨fun i H => ∃ (xs ys : List V) (x y : V), SqK K H ka a xs ∧ SqK K H kb b ys ∧ xs[i]? = some x ∧ ys[i]? = some y,
    fun i H v H' => ∃ T x y, v = .ref T ∧ H T = none ∧ H' = upd H T (.tup [x, y]) ∧ (∀ xs, SqK K H ka a xs → xs[i]? = some x) ∧ ∀ ys, SqK K H kb b ys → ys[i]? = some y,
    fun i H => ∃ xs ys : List V, SqK K H ka a xs ∧ SqK K H kb b ys ∧ (xs.length ≤ i ∨ ys.length ≤ i) ∧ (st = true → xs.length ≤ i ∧ ys.length ≤ i)⟩
theorem turn_zK {P : Program} {w : World} {K : PySem.W.Frag} {elts : List Expr} {kk : Nat} {tpos : Pos} {ka kb : Ki} {stt : Bool} {a b z TI TO i1 i2 : Addr} (D : ZipApart z TI TO i1 i2 a b) :
    Turn P w K (.Tuple elts kk tpos) (ItzK K ka kb stt a b) [z, TI, TO, i1, i2] z (fun i h => IsZ h stt z TI TO .none ∧ IsPair h TI (.ref i1) (.ref i2) ∧ (∃ x y, IsPair h TO x y) ∧ IsIt ka h i1 a i ∧ IsIt kb h i2 b i) where
  mem := by simp
  obj := fun i h st c hc => by
    obtain ⟨hz, hTI, ⟨x, y, hTO⟩, h1, h2⟩ := st
    have e' : c = z ∨ c = TI ∨ c = TO ∨ c = i1 ∨ c = i2 := by simpa using hc
    rcases e' with q | q | q | q | q
    · rw [q]; exact ⟨_, hz, fun v q => nomatch q⟩
    · rw [q]; exact ⟨_, hTI, fun v q => nomatch q⟩
    · rw [q]; exact ⟨_, hTO, fun v q => nomatch q⟩
    · rw [q]
      cases ka with
      | l => obtain ⟨o1, e1, _, d1⟩ := h1; exact ⟨o1, e1, fun v q => by rw [d1] at q; cases q⟩
      | t => obtain ⟨o1, e1, _, d1⟩ := h1; exact ⟨o1, e1, fun v q => by rw [d1] at q; cases q⟩
    · rw [q]
      cases kb with
      | l => obtain ⟨o1, e1, _, d1⟩ := h2; exact ⟨o1, e1, fun v q => by rw [d1] at q; cases q⟩
      | t => obtain ⟨o1, e1, _, d1⟩ := h2; exact ⟨o1, e1, fun v q => by rw [d1] at q; cases q⟩
  keep := fun i h h' st k => by
    obtain ⟨hz, hTI, ⟨x, y, hTO⟩, h1, h2⟩ := st
    exact ⟨k z (by simp) _ hz, k TI (by simp) _ hTI, ⟨x, y, k TO (by simp) _ hTO⟩, h1.at fun o q => k i1 (by simp) o q, h2.at fun o q => k i2 (by simp) o q⟩
  item := by
    intro X hP hw hK hc i pins s σ H E I hf st hg
    subst hP hw hK
    obtain ⟨hz, hTI, ⟨x0, y0, hTO⟩, h1, h2⟩ := st
    obtain ⟨xs, ys, x, y, hqx, hqy, hx, hy⟩ := hg
    obtain ⟨its, rv, p, _⟩ := I.sqK hqx
    obtain ⟨its2, rv2, p2, _⟩ := I.sqK hqy
    obtain ⟨u, hu, ru⟩ := rv.get hx
    obtain ⟨u2, hu2, ru2⟩ := rv2.get hy
    have hzl : z < s.heap.objs.size := Heap.lt_size hz
    refine pyNext_item D hz hTI hTO h1 h2 p p2 (x := u) (y := u2) (by simpa using hu) (by simpa using hu2) fun h' z' TO' h1' h2' hT hsz hk => ?_
    refine ⟨_, rfl, letGo_z (s := { s with heap := h' }) z' fun h'' z'' sb => ?_⟩
    have hT2 : h''.get? s.heap.objs.size = some { cls := .type "tuple", data := .seq #[u, u2] } := (sb.2 _ (Nat.ne_of_gt hzl)).trans hT
    have new : ObjOk X.prog X.w (upd H s.heap.objs.size (.tup [x, y])) h'' s.heap.objs.size (.tup [x, y]) :=
      ⟨by show 2 ≤ sizeLine; decide, [u, u2], .cons ru (.cons ru2 .nil), ⟨_, hT2, rfl, _, rfl⟩⟩
    have I1 : Inv X pins σ (upd H s.heap.objs.size (.tup [x, y])) { s with heap := h'' } :=
      I.turnedNew (t' := s.toks) (ch := [z, TI, TO, i1, i2]) (fun c o hb q => (sb.2 c (fun q' => hb (by simp [q']))).trans (hk c o (fun q' => hb (by simp [q'])) (fun q' => hb (by simp [q'])) (fun q' => hb (by simp [q'])) (fun q' => hb (by simp [q'])) q)) hf (Nat.le_refl _) new
    refine ⟨.ref s.heap.objs.size, _, I1, rfl, ⟨_, x, y, rfl, I.hok.fresh (Nat.le_refl _), rfl, fun l hl => by rw [I.sqK_inj hl hqx]; exact hx, fun l hl => by rw [I.sqK_inj hl hqy]; exact hy⟩, ⟨z'', ?_, ⟨u, u2, ?_⟩, ?_, ?_⟩, fun c hcm => ?_⟩
    · exact (sb.2 _ D.TIz).trans (hk _ _ D.TIz D.TITO D.TIi1 D.TIi2 hTI)
    · exact (sb.2 _ D.TOz).trans TO'
    · exact h1'.at fun o q => (sb.2 _ D.i1z).trans q
    · exact h2'.at fun o q => (sb.2 _ D.i2z).trans q
    · have hlt : c < s.heap.objs.size := by
        have e' : c = z ∨ c = TI ∨ c = TO ∨ c = i1 ∨ c = i2 := by simpa using hcm
        rcases e' with q | q | q | q | q
        · rw [q]; exact hzl
        · rw [q]; exact Heap.lt_size hTI
        · rw [q]; exact Heap.lt_size hTO
        · rw [q]; exact h1.lt
        · rw [q]; exact h2.lt
      rw [upd_ne (Nat.ne_of_lt hlt)]
      exact (hf c hcm).1
  done := by
    intro X hP hw hK hc i pins s σ H E I hf st hg
    subst hP hw hK
    obtain ⟨hz, hTI, ⟨x0, y0, hTO⟩, h1, h2⟩ := st
    obtain ⟨xs, ys, hqx, hqy, hend, hst⟩ := hg
    obtain ⟨its, rv, p, _⟩ := I.sqK hqx
    obtain ⟨its2, rv2, p2, _⟩ := I.sqK hqy
    have l1 := rv.length
    have l2 := rv2.length
    have he : its.toArray[i]? = none ∨ its2.toArray[i]? = none := by
      rcases hend with q | q
      · exact .inl (by simp; omega)
      · exact .inr (by simp; omega)
    have he2 : stt = true → its.toArray[i]? = none ∧ its2.toArray[i]? = none := fun z => by
      obtain ⟨q1, q2⟩ := hst z
      exact ⟨by simp; omega, by simp; omega⟩
    exact pyNext_end (I.ok.hd hc) D hz hTI hTO h1 h2 p p2 he he2 fun h' hk => ⟨rfl, I.turnedL (t' := s.toks) (ch := [z, TI, TO, i1, i2]) (fun c o hb q =>
      hk c o (fun q' => hb (by simp [q'])) (fun q' => hb (by simp [q'])) (fun q' => hb (by simp [q'])) (fun q' => hb (by simp [q'])) q) hf⟩
  self := fun A i s Q E st h => pyIter_z st.1 h
def iZipK (K : PySem.W.Frag) (st : Bool) (ta : TA) : TI := fun σ H R => ta σ H fun vs H1 => ∃ ka kb a b xs ys, vs = [.ref a, .ref b] ∧ SqK K H1 ka a xs ∧ SqK K H1 kb b ys ∧ R (ItzK K ka kb st a b) H1
theorem zip_made {X : Cx} {pins : List (Addr × Obj)} {σ : L2.St} {H1 : Hp} {s1 : Shared} {tg : Expr} {elts : List Expr} {kk : Nat} {tpos : Pos} {st : Bool} {ka kb : Ki} {a b : Addr} {xs ys : List V} {R : It → Hp → Prop} (I1 : Inv X pins σ H1 s1) (hqx : SqK X.K H1 ka a xs) (hqy : SqK X.K H1 kb b ys) (q : R (ItzK X.K ka kb st a b) H1) :
    wpAny (model X.prog X.w) X.A (call (.type "zip") [.ref a, .ref b] (kwS st)) (fun v s => wpAny (model X.prog X.w) X.A (pyIter v) (PIE X pins σ (.Tuple elts kk tpos) R) X.xe s) X.xe s1 := by
  have fresh5 : ∀ c, c ∈ [s1.heap.objs.size + 4, s1.heap.objs.size + 2, s1.heap.objs.size + 3, s1.heap.objs.size, s1.heap.objs.size + 1] → FpOk X pins H1 c := fun c hcm => by
    have e' : c = s1.heap.objs.size + 4 ∨ c = s1.heap.objs.size + 2 ∨ c = s1.heap.objs.size + 3 ∨ c = s1.heap.objs.size ∨ c = s1.heap.objs.size + 1 := by simpa using hcm
    have hle : s1.heap.objs.size ≤ c := by
      rcases e' with z | z | z | z | z
      · rw [z]; exact Nat.le_add_right _ _
      · rw [z]; exact Nat.le_add_right _ _
      · rw [z]; exact Nat.le_add_right _ _
      · rw [z]; exact Nat.le_refl _
      · rw [z]; exact Nat.le_add_right _ _
    exact I1.fpOk hle (I1.hok.fresh hle)
  obtain ⟨its, rv, p1, lt1⟩ := I1.sqK hqx
  obtain ⟨its2, rv2, p2, lt2⟩ := I1.sqK hqy
  refine call_z ka kb st p1 p2 fun h' hz hTI hTO h1 h2 hsz hk => pyIter_z hz ?_
  have I2 : Inv X pins σ H1 { s1 with heap := h' } := I1.kept (t' := s1.toks) hk
  exact ⟨s1.heap.objs.size + 4, [s1.heap.objs.size + 4, s1.heap.objs.size + 2, s1.heap.objs.size + 3, s1.heap.objs.size, s1.heap.objs.size + 1], _, _, H1, rfl, I2, turn_zK (PySem.W.ktu_apart s1.heap.objs.size a b lt1 lt2), ⟨hz, hTI, ⟨_, _, hTO⟩, h1, h2⟩, fresh5, q⟩
theorem pi_zK {X : Cx} {e e2 : Expr} {ta : TA} {p pos tpos : Pos} {elts : List Expr} {kk : Nat} (hg : Gl X "zip") (hm : X.mg "zip" = none) (ha : PA X [e, e2] ta)
    (hs : starEach [e, e2] X.env = (false, eval e X.env) :: starEach [e2] X.env := by rfl) (hpl : (backTo pos (starEach [e2] X.env)).any (·.1) = false := by rfl) :
    PI X (.Tuple elts kk tpos) (.Call (.Name "zip" p) [e, e2] [] pos) (iZipK X.K false ta) := by
  refine ⟨fun pins s σ H R I h => ?_⟩
  refine Call_ (ld_blt I hg hm PyProof.Rows.boot_zip (PyProof.Rows.callWith_type1 (thn (ha.run pos pins s σ H _ I h) fun us s1 ⟨vs, H1, I1, r1, q1⟩ => ?_) hs hpl))
  obtain ⟨ka, kb, a, b, xs, ys, ex, hqx, hqy, q⟩ := q1
  subst ex
  cases r1 with
  | cons r rr =>
    cases rr with
    | cons r' rr =>
      cases rr
      cases r
      cases r'
      exact zip_made (tg := e) I1 hqx hqy q
theorem callWith_typeKw {M : Model} {A : Around} {E : Value → Shared → Prop} {s : Shared} {env : Env} {pos : Pos} {T : String} {e : Expr} {rest : List Expr} {kws : List Keyword} {Q : Value → Shared → Prop}
    (h : wpAny M A (spliced (backTo pos (starEach (e :: rest) env))) (fun vs s₁ => wpAny M A (evalAll ((backToKw pos (keywordEach kws env)).map (·.2)))
      (fun kvs s₂ => wpAny M A (call (.type T) vs (((backToKw pos (keywordEach kws env)).filterMap (·.1)).zip kvs)) Q E s₂) E s₁) E s)
    (he : backTo pos (starEach (e :: rest) env) = (false, eval e env) :: backTo pos (starEach rest env) := by rfl)
    (hplain : (backTo pos (starEach (e :: rest) env)).any (·.1) = false := by rfl)
    (hall : (backToKw pos (keywordEach kws env)).all (·.1.isSome) = true := by rfl)
    (hkw : (backToKw pos (keywordEach kws env)).any (·.1.isNone) = false := by rfl) :
    wpAny M A (callWith pos (.type T) [] (backTo pos (starEach (e :: rest) env)) (backToKw pos (keywordEach kws env))) Q E s := by
  unfold callWith
  refine wpAny_bind (wpAny_holding (wpAny_mono (?_ : wpAny M A (evalArgs (.type T) true (backTo pos (starEach (e :: rest) env)) (backToKw pos (keywordEach kws env))) (fun a s₁ => wpAny M A (call (.type T) ([] ++ a.pos) a.kw) Q E s₁) E s) (fun a s₁ h₁ => wpAny_bind (wpAny_standAt ?_)) fun _ _ x => x))
  · rw [he] at h ⊢
    exact PyProof.Rows.evalArgs_kwB hall h
  · simp only [hplain, hkw, Bool.or_false]
    refine wpAny_bind (wpAny_pure ?_)
    exact wpAny_bind (wpAny_mono h₁ (fun r s₂ hr => wpAny_bind (wpAny_holding (wpAny_point (wpAny_pure hr)))) fun _ _ x => x)
theorem pi_zS {X : Cx} {e e2 : Expr} {ta : TA} {p pos kp cp tpos : Pos} {elts : List Expr} {kk j : Nat} (hg : Gl X "zip") (hm : X.mg "zip" = none) (ha : PA X [e, e2] ta)
    (hs : backTo pos (starEach [e, e2] X.env) = (false, eval e X.env) :: backTo pos (starEach [e2] X.env) := by rfl) (hpl : (backTo pos (starEach [e, e2] X.env)).any (·.1) = false := by rfl) :
    PI X (.Tuple elts kk tpos) (.Call (.Name "zip" p) [e, e2] [⟨some "strict", .Constant (.bool true) j cp, kp⟩] pos) (iZipK X.K true ta) := by
  refine ⟨fun pins s σ H R I h => ?_⟩
  have hk : PK X [⟨some "strict", .Constant (.bool true) j cp, kp⟩] (tCons (tC (.bl true)) tNil) := pk_cons pe_bl pk_nil
  refine PySem.wpAny_Call_Name_kw (ld_blt I hg hm PyProof.Rows.boot_zip ?_)
  refine callWith_typeKw (thn (ha.run pos pins s σ H _ I h) fun us s1 ⟨vs, H1, I1, r1, q1⟩ => ?_) hs hpl rfl rfl
  refine thn (hk.run pos pins s1 σ H1 (fun zs H2 => zs = [.bl true] ∧ H2 = H1) I1 ⟨rfl, rfl⟩) fun ws s2 ⟨zs, H2, I2, r2, ez, eH⟩ => ?_
  subst ez eH
  obtain ⟨ka, kb, a, b, xs, ys, ex, hqx, hqy, q⟩ := q1
  subst ex
  cases r1 with
  | cons r rr =>
    cases rr with
    | cons r' rr =>
      cases rr
      cases r
      cases r'
      cases r2 with
      | cons r3 r4 =>
        cases r4
        cases r3
        exact zip_made (tg := e) I2 hqx hqy q
end L2

/-! Dz4: enumerate of a list or a tuple. -/
namespace Dz
open PySem
open PySem.Sem (wp)
theorem meets_enumT (l : Addr) (items : Array Value) :
    Meets (Builtin.«enumerate.__new__» ⟨[.type "enumerate", .ref l], []⟩) (fun _ R s => s.heap.IsTuple l items ∧
      R (.ok (.ret (.ref (s.heap.push { cls := .type "tuple_iterator", data := .fields #[.ref l, .int 0 0] }).objs.size)))
        { s with heap := (s.heap.push { cls := .type "tuple_iterator", data := .fields #[.ref l, .int 0 0] }).push { cls := .type "enumerate", data := .fields #[.none, .bool false, .ref s.heap.objs.size, rawInt 0, .none, .none] } }) :=
  .of_wp fun prog w A R s h => by
    obtain ⟨hp, g, d, tk, os⟩ := s; obtain ⟨hl, h⟩ := h
    have hsub := sub_enumerate
    have hL : Heap.IsTuple (Shared.heap ⟨hp, g, d, tk, os⟩) l items := hl
    wp_walk
    refine wpAny_stack_any fun st => wpAny_pure ?_
    split
    · rename_i c _ _ _ _ _
      cases (c == Value.type "enumerate")
      · wp_walk using wpAny_pyIter_tuple hL
        exact ⟨_, rfl, h⟩
      · wp_walk using wpAny_pyIter_tuple hL
        exact ⟨_, rfl, h⟩
    · wp_walk using wpAny_pyIter_tuple hL
      exact ⟨_, rfl, h⟩
section
variable {prog : Program} {w : World} {A : Around} {E : Value → Shared → Prop} {s : Shared}
theorem call_enum (k : Ki) {l : Addr} {items : Array Value} {Q : Value → Shared → Prop} (hL : IsSq k s.heap l items)
    (h : ∀ h', IsEnum h' (s.heap.objs.size + 1) s.heap.objs.size 0 .none → IsIt k h' s.heap.objs.size l 0 → h'.objs.size = s.heap.objs.size + 2 →
      (∀ b o, s.heap.get? b = some o → h'.get? b = some o) → Q (.ref (s.heap.objs.size + 1)) { s with heap := h' }) :
    wpAny (model prog w) A (call (.type "enumerate") [.ref l]) Q E s := by
  cases k with
  | l => exact call_enumerate_list hL h
  | t =>
    refine callType_new F.called_enumerate (by decide) (F.typeCall_enumerate_1 _) (F.newCall_enumerate_1 _) (fun obj => F.args_object_init_2 obj _) F.entry_enumerate_new
      (meets_enumT l items) ⟨hL, ?_⟩
    have hz : (s.heap.push { cls := .type "tuple_iterator", data := .fields #[.ref l, .int 0 0] }).objs.size = s.heap.objs.size + 1 := Heap.size_push ..
    show _ ∧ _
    rw [hz]
    have he : IsEnum ((s.heap.push { cls := .type "tuple_iterator", data := .fields #[.ref l, .int 0 0] }).push
        { cls := .type "enumerate", data := .fields #[.none, .bool false, .ref s.heap.objs.size, rawInt 0, .none, .none] }) (s.heap.objs.size + 1) s.heap.objs.size 0 .none := by
      have := Heap.get?_push_size (s.heap.push { cls := .type "tuple_iterator", data := .fields #[.ref l, .int 0 0] }) (o := { cls := .type "enumerate", data := .fields #[.none, .bool false, .ref s.heap.objs.size, rawInt 0, .none, .none] }) rfl
      rw [hz] at this; exact this
    exact ⟨⟨_, he, rfl⟩, h _ he ⟨_, Heap.get?_push_of_some _ (Heap.get?_push_size _ rfl), rfl, rfl⟩ (by rw [Heap.size_push, hz]) fun b o x => Heap.get?_push_of_some _ (Heap.get?_push_of_some _ x)⟩
theorem enum_next_item {k : Ki} {e it l : Addr} {i : Nat} {items : Array Value} {x old : Value} {Q : Value → Shared → Prop}
    (he : IsEnum s.heap e it i old) (hit : IsIt k s.heap it l i) (hl : IsSq k s.heap l items) (hx : items[i]? = some x) (hne : e ≠ it)
    (hQ : ∀ h', IsEnumOut h' e it ((i : Int) + 1) x s.heap.objs.size → IsIt k h' it l (i + 1) →
      h'.get? s.heap.objs.size = some { cls := .type "tuple", data := .seq #[.int i s.toks, x] } → h'.objs.size = s.heap.objs.size + 1 →
      (∀ b o, b ≠ e → b ≠ it → s.heap.get? b = some o → h'.get? b = some o) → Q (.ref s.heap.objs.size) { s with heap := h', toks := s.toks + 1 }) :
    wpAny (model prog w) A (Builtin.«enumerate.__next__» ⟨[.ref e], []⟩) (fun fin s' => ∃ v, fin = .done (.ret v) ∧ Q v s') E s := by
  obtain ⟨hp, g, d, tk, os⟩ := s
  show wpAny _ _ (field (.ref e) 2 >>= _) _ _ _
  refine wpAny_bind (wpAny_field he rfl (x := .ref it) rfl ?_)
  refine wpAny_bind (nextOf_item hit hl hx fun h₁ hit₁ hs₁ => ?_)
  replace hs₁ : Heap.SameBut it hp h₁ := hs₁
  have he₁ : IsEnum h₁ e it i old := (hs₁.2 e hne).trans he
  show wpAny _ _ (field (.ref e) 3 >>= _) _ _ ⟨h₁, g, d, tk, os⟩
  refine wpAny_bind (wpAny_field he₁ rfl (x := rawInt i) rfl ?_)
  show wpAny _ _ (field (.ref e) 4 >>= _) _ _ ⟨h₁, g, d, tk, os⟩
  refine wpAny_bind (wpAny_field he₁ rfl (x := .none) rfl ?_)
  show wpAny _ _ (mkInt i >>= _) _ _ ⟨h₁, g, d, tk, os⟩
  refine wpAny_bind (wpAny_mkInt ?_)
  show wpAny _ _ (setField (.ref e) 3 (rawInt ((i : Int) + 1)) >>= _) _ _ ⟨h₁, g, d, tk + 1, os⟩
  refine wpAny_bind (wpAny_setField_rec he₁ (by simp) fun h₂ he₂ hs₂ => ?_)
  replace hs₂ : Heap.SameBut e h₁ h₂ := hs₂
  replace he₂ : IsEnum h₂ e it ((i : Int) + 1) old := he₂
  show wpAny _ _ (setField (.ref e) 4 .none >>= _) _ _ ⟨h₂, g, d, tk + 1, os⟩
  refine wpAny_bind (wpAny_setField_rec he₂ (by simp) fun h₃ he₃ hs₃ => ?_)
  replace hs₃ : Heap.SameBut e h₂ h₃ := hs₃
  replace he₃ : IsEnum h₃ e it ((i : Int) + 1) old := he₃
  show wpAny _ _ (newTuple [.int i tk, x] >>= _) _ _ ⟨h₃, g, d, tk + 1, os⟩
  refine wpAny_bind (wpAny_newTuple ?_)
  have he₄ : IsEnum (h₃.push { cls := .type "tuple", data := .seq #[.int i tk, x] }) e it ((i : Int) + 1) old := Heap.get?_push_of_some _ he₃
  generalize hh₄ : h₃.push { cls := .type "tuple", data := .seq #[.int i tk, x] } = h₄ at he₄
  have hsz : h₃.objs.size = hp.objs.size := by rw [hs₃.1, hs₂.1, hs₁.1]
  have hel : e < hp.objs.size := Heap.lt_size he
  have ht₄ : h₄.get? hp.objs.size = some { cls := .type "tuple", data := .seq #[.int i tk, x] } := by rw [← hh₄, ← hsz]; exact Heap.get?_push_size _ rfl
  have hz₄ : h₄.objs.size = hp.objs.size + 1 := by rw [← hh₄, Heap.size_push, hsz]
  have hk₄ : ∀ b o, b ≠ e → b ≠ it → hp.get? b = some o → h₄.get? b = some o := fun b o hbe hbi hb => by
    rw [← hh₄]; exact Heap.get?_push_of_some _ (hs₃.extBut b o hbe (hs₂.extBut b o hbe (hs₁.extBut b o hbi hb)))
  have hit₄ : IsIt k h₄ it l (i + 1) := by
    rw [← hh₄]
    exact ((hit₁.extBut hs₂.extBut (Ne.symm hne)).extBut hs₃.extBut (Ne.symm hne)).at fun o q => Heap.get?_push_of_some _ q
  show wpAny _ _ (Builtin.SmallTypes.ownedTupleIsFree (.ref e) >>= _) _ _ ⟨h₄, g, d, tk + 1, os⟩
  rw [hsz]
  clear hh₄ he₃ hs₃ he₂ hs₂ he₁ hs₁ hit₁ hsz h₃ h₂ h₁
  refine wpAny_bind ?_
  · unfold Builtin.SmallTypes.ownedTupleIsFree
    refine wpAny_bind (wpAny_field he₄ rfl (x := .none) rfl (wpAny_pure ?_))
    simp only [if_true]
    refine wpAny_bind (wpAny_rule ?_)
    refine wpAny_bind (wpAny_field he₄ rfl (x := old) rfl ?_)
    refine wpAny_bind (wpAny_setField_rec he₄ (by simp) fun h₅ he₅ hs₅ => ?_)
    replace hs₅ : Heap.SameBut e h₄ h₅ := hs₅
    replace he₅ : IsEnum h₅ e it ((i : Int) + 1) x := he₅
    show wpAny _ _ (Builtin.SmallTypes.ownedTupleHandOut (.ref e) (.ref hp.objs.size) >>= _) _ _ ⟨h₅, g, d, tk + 1, os⟩
    refine wpAny_bind ?_
    · unfold Builtin.SmallTypes.ownedTupleHandOut
      refine wpAny_bind (wpAny_setField_rec he₅ (by simp) fun h₆ he₆ hs₆ => ?_)
      replace hs₆ : Heap.SameBut e h₅ h₆ := hs₆
      replace he₆ : IsEnumOut h₆ e it ((i : Int) + 1) x hp.objs.size := he₆
      refine wpAny_setField_rec he₆ (by simp) fun h₇ he₇ hs₇ => ?_
      replace hs₇ : Heap.SameBut e h₆ h₇ := hs₇
      replace he₇ : IsEnumOut h₇ e it ((i : Int) + 1) x hp.objs.size := he₇
      refine wpAny_bind (wpAny_letGo (wpAny_pure ⟨_, rfl, hQ h₇ he₇ ?_ ?_ ?_ ?_⟩))
      · exact ((hit₄.extBut hs₅.extBut (Ne.symm hne)).extBut hs₆.extBut (Ne.symm hne)).extBut hs₇.extBut (Ne.symm hne)
      · exact hs₇.extBut _ _ (Nat.ne_of_gt hel) (hs₆.extBut _ _ (Nat.ne_of_gt hel) (hs₅.extBut _ _ (Nat.ne_of_gt hel) ht₄))
      · rw [hs₇.1, hs₆.1, hs₅.1, hz₄]
      · exact fun b o hbe hbi hb => hs₇.extBut b o hbe (hs₆.extBut b o hbe (hs₅.extBut b o hbe (hk₄ b o hbe hbi hb)))
theorem pyNext_enum_item {k : Ki} {e it l : Addr} {i : Nat} {items : Array Value} {x old : Value} {Q : Option Value → Shared → Prop}
    (he : IsEnum s.heap e it i old) (hit : IsIt k s.heap it l i) (hl : IsSq k s.heap l items) (hx : items[i]? = some x) (hne : e ≠ it)
    (hQ : ∀ h', IsEnumOut h' e it ((i : Int) + 1) x s.heap.objs.size → IsIt k h' it l (i + 1) →
      h'.get? s.heap.objs.size = some { cls := .type "tuple", data := .seq #[.int i s.toks, x] } → h'.objs.size = s.heap.objs.size + 1 →
      (∀ b o, b ≠ e → b ≠ it → s.heap.get? b = some o → h'.get? b = some o) → Q (some (.ref s.heap.objs.size)) { s with heap := h', toks := s.toks + 1 }) :
    wpAny (model prog w) A (pyNext (.ref e)) Q E s := by
  have hT : s.TypeIs (.ref e) "enumerate" := ⟨_, he, rfl⟩
  unfold pyNext
  exact wpAny_bind (wpAny_attempt (wpAny_callSpecial?_slot (name := Str.ofString "__next__") hT F.slot_enumerate_next
    (wpAny_call_entry F.slot_enumerate_next hT F.entry_enumerate_next
      (enum_next_item he hit hl hx hne fun h' a b c d k => wpAny_pure (hQ h' a b c d k)) (F.args_enumerate_next_1 _))))
theorem pyNext_enum_end {k : Ki} {e it l : Addr} {i : Nat} {items : Array Value} {old : Value} {Q : Option Value → Shared → Prop} (hh : A.handled = none)
    (he : IsEnum s.heap e it i old) (hit : IsIt k s.heap it l i) (hl : IsSq k s.heap l items) (hx : items[i]? = none)
    (hQ : ∀ h', Heap.ExtBut it s.heap h' → Q none { s with heap := h' }) : wpAny (model prog w) A (pyNext (.ref e)) Q E s := by
  have hT : s.TypeIs (.ref e) "enumerate" := ⟨_, he, rfl⟩
  unfold pyNext
  refine wpAny_bind (wpAny_attempt (wpAny_callSpecial?_slot (name := Str.ofString "__next__") hT F.slot_enumerate_next
    (wpAny_call_entry F.slot_enumerate_next hT F.entry_enumerate_next ?_ (F.args_enumerate_next_1 _))))
  show wpAny _ _ (field (.ref e) 2 >>= _) _ _ _
  refine wpAny_bind (wpAny_field he rfl (x := .ref it) rfl ?_)
  refine wpAny_bind (nextOf_end hh hit hl hx fun h' x he' hx' => ?_)
  obtain ⟨o, ho, hc⟩ := hx'
  refine wpAny_bind (wpAny_isInstance (T := "StopIteration") (b := true) ⟨o, ho, hc⟩ isSubtype_stop ?_)
  exact wpAny_pure (hQ _ he')
end
end Dz
namespace L2
open PySem PySem.Spec PyProof.Rows Dz
def IteK (K : PySem.W.Frag) (k : Ki) (a : Addr) : It :=
  ⟨fun i H => ∃ (xs : List V) (x : V), SqK K H k a xs ∧ xs[i]? = some x, fun i H v H' => ∃ T x, v = .ref T ∧ H T = none ∧ H' = upd H T (.tup [.int (i : Nat), x]) ∧ ∀ xs, SqK K H k a xs → xs[i]? = some x, fun i H => ∃ xs : List V, SqK K H k a xs ∧ xs.length ≤ i⟩
theorem turn_enumK {P : Program} {w : World} {K : PySem.W.Frag} {elts : List Expr} {kk : Nat} {tpos : Pos} (k : Ki) (a e it : Addr) :
    Turn P w K (.Tuple elts kk tpos) (IteK K k a) [e, it] e (fun i h => (∃ old, IsEnum h e it ((i : Nat) : Int) old) ∧ IsIt k h it a i ∧ e ≠ it) where
  mem := by simp
  obj := fun i h st b hb => by
    obtain ⟨⟨old, he⟩, hi, _⟩ := st
    have e' : b = e ∨ b = it := by simpa using hb
    rcases e' with z | z
    · rw [z]; exact ⟨_, he, fun v q => nomatch q⟩
    · rw [z]
      cases k with
      | l => obtain ⟨o, ho, hc, hd⟩ := hi; exact ⟨o, ho, fun v q => by rw [hd] at q; cases q⟩
      | t => obtain ⟨o, ho, hc, hd⟩ := hi; exact ⟨o, ho, fun v q => by rw [hd] at q; cases q⟩
  keep := fun i h h' st k => let ⟨⟨old, he⟩, hi, hne⟩ := st; ⟨⟨old, k e (by simp) _ he⟩, hi.at fun o q => k it (by simp) o q, hne⟩
  item := by
    intro X hP hw hK hc i pins s σ H E I hf st hg
    subst hP hw hK
    obtain ⟨⟨old, he⟩, hit, hne⟩ := st
    obtain ⟨xs, x, hq, hx⟩ := hg
    obtain ⟨its, rv, p, hz⟩ := I.sqK hq
    obtain ⟨u, hu, ru⟩ := rv.get hx
    have hel : e < s.heap.objs.size := Heap.lt_size he
    have hil : it < s.heap.objs.size := hit.lt
    refine pyNext_enum_item he hit p (x := u) (by simpa using hu) hne fun h' ho hit' hT hsz hk => ?_
    refine ⟨_, rfl, wpAny_letOwnedTupleGo_enum (s := { s with heap := h', toks := s.toks + 1 }) ho fun h'' he' sb => ?_⟩
    have hT2 : h''.get? s.heap.objs.size = some { cls := .type "tuple", data := .seq #[.int i s.toks, u] } := (sb.2 _ (Nat.ne_of_gt hel)).trans hT
    have new : ObjOk X.prog X.w (upd H s.heap.objs.size (.tup [.int (i : Nat), x])) h'' s.heap.objs.size (.tup [.int (i : Nat), x]) :=
      ⟨by show 2 ≤ sizeLine; decide, [.int i s.toks, u], .cons ⟨_, rfl⟩ (.cons ru .nil), ⟨_, hT2, rfl, _, rfl⟩⟩
    have I1 : Inv X pins σ (upd H s.heap.objs.size (.tup [.int (i : Nat), x])) { s with heap := h'', toks := s.toks + 1 } :=
      I.turnedNew (ch := [e, it]) (fun b ob hb q => (sb.2 b (fun z => hb (by simp [z]))).trans (hk b ob (fun z => hb (by simp [z])) (fun z => hb (by simp [z])) q)) hf (Nat.le_refl _) new
    refine ⟨.ref s.heap.objs.size, _, I1, rfl, ⟨_, x, rfl, I.hok.fresh (Nat.le_refl _), rfl, fun ys hy => by rw [I.sqK_inj hy hq]; exact hx⟩, ⟨⟨u, ?_⟩, hit'.at fun o q => (sb.2 it (Ne.symm hne)).trans q, hne⟩, fun b hb => ?_⟩
    · have e1 : ((i + 1 : Nat) : Int) = (i : Int) + 1 := by omega
      rw [e1]; exact he'
    · have hb' : b < s.heap.objs.size := by
        have e' : b = e ∨ b = it := by simpa using hb
        rcases e' with z | z
        · rw [z]; exact hel
        · rw [z]; exact hil
      rw [upd_ne (Nat.ne_of_lt hb')]
      exact (hf b hb).1
  done := by
    intro X hP hw hK hc i pins s σ H E I hf st hg
    subst hP hw hK
    obtain ⟨⟨old, he⟩, hit, hne⟩ := st
    obtain ⟨xs, hq, hx⟩ := hg
    obtain ⟨its, rv, p, hz⟩ := I.sqK hq
    obtain ⟨f0, f1, f2, f3, f4, f5⟩ := hf it (by simp)
    have hl := rv.length
    exact pyNext_enum_end (I.ok.hd hc) he hit p (by simp; omega) fun h' eb => ⟨rfl, I.turned (t' := s.toks) (fun b o hb q => eb b o hb q) f0 f1 f3 f4 f5⟩
  self := fun A i s Q E st h => let ⟨⟨_, he⟩, _⟩ := st; wpAny_pyIter_enum he h
def iEnumK (K : PySem.W.Frag) (ta : TA) : TI := fun σ H R => ta σ H fun vs H1 => ∃ k a xs, vs = [.ref a] ∧ SqK K H1 k a xs ∧ R (IteK K k a) H1
theorem pi_enumK {X : Cx} {e : Expr} {ta : TA} {p pos tpos : Pos} {elts : List Expr} {kk : Nat} (hg : Gl X "enumerate") (hm : X.mg "enumerate" = none) (ha : PA X [e] ta) (hs : starEach [e] X.env = [(false, eval e X.env)] := by rfl) :
    PI X (.Tuple elts kk tpos) (.Call (.Name "enumerate" p) [e] [] pos) (iEnumK X.K ta) := by
  refine ⟨fun pins s σ H R I h => ?_⟩
  refine Call_ (ld_blt I hg hm boot_enumerate (PyProof.Rows.callWith_type1 (thn (ha.run pos pins s σ H _ I h) fun us s1 ⟨vs, H1, I1, r1, q1⟩ => ?_) hs rfl))
  obtain ⟨k, a, xs, ex, hq, q⟩ := q1
  subst ex
  cases r1 with
  | cons r rr =>
    cases rr
    cases r
    obtain ⟨its, rv, p', hz⟩ := I1.sqK hq
    refine call_enum k p' fun h' he hit hsz hk => wpAny_pyIter_enum he ?_
    have I2 : Inv X pins σ H1 { s1 with heap := h' } := I1.kept (t' := s1.toks) hk
    refine ⟨s1.heap.objs.size + 1, [s1.heap.objs.size + 1, s1.heap.objs.size], _, _, H1, rfl, I2, turn_enumK k a (s1.heap.objs.size + 1) s1.heap.objs.size, ⟨⟨.none, he⟩, hit, Nat.succ_ne_self _⟩, fun b hb => ?_, q⟩
    have e' : b = s1.heap.objs.size + 1 ∨ b = s1.heap.objs.size := by simpa using hb
    have hle : s1.heap.objs.size ≤ b := by
      rcases e' with z | z
      · rw [z]; exact Nat.le_add_right _ _
      · rw [z]; exact Nat.le_refl _
    exact I1.fpOk hle (I1.hok.fresh hle)
end L2

/-! Dl7: walks over any sequence, methods of lists, dicts, more operators. -/
namespace Dl
open PySem L2
section
variable {K : Fg} {Γ : Ga} {δ : List Sl} {te ta tb tc : TE} {E : DE} {P : Vl → Prop} {x y : Vl}
/-! ### zip, enumerate -/
/-- a datum that is a sequence -/
def seqD : D → Option (Dz.Ki × List D)
  | .list xs => some (.l, xs)
  | .tuple xs => some (.t, xs)
  | _ => none
theorem seqD_rel {H G : Hp} {v : V} {d : D} {k : Dz.Ki} {xs : List D} (r : Dp K G v d) (e : Ex G H) (h : seqD d = some (k, xs)) : ∃ a vs, v = .ref a ∧ SqK K G k a vs ∧ DpAll K G vs xs := by
  cases d with
  | list ys =>
    cases h
    obtain ⟨a, vs, h1, h2, h3⟩ := Dp.lst_inv r
    exact ⟨a, vs, h1, Evl.sq_of h2, h3⟩
  | tuple ys =>
    cases h
    obtain ⟨a, vs, h1, h2, h3⟩ := Dp.tup_inv r
    exact ⟨a, vs, h1, h2, h3⟩
  | _ => cases h
theorem ex_k {H H' : Hp} {k : Dz.Ki} {a : Addr} {vs : List V} (e : Ex H H') (h : SqK K H k a vs) : SqK K H' k a vs := by
  cases k with
  | l => exact Evl.ex_l e h
  | t => exact Evl.ex_t e h
theorem walk_enumK {k : Dz.Ki} {a : Addr} {vs : List V} {xs : List D} {G0 : Hp} (hq : SqK K G0 k a vs) (hd : DpAll K G0 vs xs) : WalkD K (IteK K k a) G0 (enumD 0 xs) where
  go := fun H G i e e' hi => by
    rw [enumD_len] at hi
    obtain ⟨v, hv, _⟩ := DpAll.get hd (List.getElem?_eq_getElem hi)
    exact ⟨vs, v, ex_k (e.trans e') hq, hv⟩
  stop := fun H G e e' => ⟨vs, ex_k (e.trans e') hq, by rw [DpAll.len hd, enumD_len]; exact Nat.le_refl _⟩
  yld := fun H G i x H' e e' hi hy => by
    rw [enumD_len] at hi
    obtain ⟨T, y, rfl, hT, rfl, hx⟩ := hy
    obtain ⟨d, h1, h2⟩ := DpAll.getV hd (hx vs (ex_k (e.trans e') hq))
    have g : Grow H G (upd H T (.tup [.int (i : Nat), y])) (upd G T (.tup [.int (i : Nat), y])) := Grow.new e' hT
    refine ⟨_, _, g, enumD_get h1, Dp.tup (Evl.st_of upd_same) (.cons ?_ (.cons (Dp.up h2 (e.trans g.g)) .nil))⟩
    rw [Nat.zero_add]
    exact .int _
theorem walk_zipK {ka kb : Dz.Ki} {st : Bool} {a b : Addr} {vs ws : List V} {xs ys : List D} {G0 : Hp} (hq : SqK K G0 ka a vs) (hd : DpAll K G0 vs xs) (hq' : SqK K G0 kb b ws) (hd' : DpAll K G0 ws ys) (hs : st = true → xs.length = ys.length) : WalkD K (ItzK K ka kb st a b) G0 (zipD xs ys) where
  go := fun H G i e e' hi => by
    rw [zipD_len] at hi
    obtain ⟨v, hv, _⟩ := DpAll.get hd (List.getElem?_eq_getElem (show i < xs.length by omega))
    obtain ⟨w, hw, _⟩ := DpAll.get hd' (List.getElem?_eq_getElem (show i < ys.length by omega))
    exact ⟨vs, ws, v, w, ex_k (e.trans e') hq, ex_k (e.trans e') hq', hv, hw⟩
  stop := fun H G e e' => ⟨vs, ws, ex_k (e.trans e') hq, ex_k (e.trans e') hq', by
    rw [DpAll.len hd, DpAll.len hd', zipD_len]
    omega, fun z => by
    have := hs z
    rw [DpAll.len hd, DpAll.len hd', zipD_len]
    omega⟩
  yld := fun H G i x H' e e' hi hy => by
    obtain ⟨T, y, z, rfl, hT, rfl, hx, hz⟩ := hy
    obtain ⟨d, h1, h2⟩ := DpAll.getV hd (hx vs (ex_k (e.trans e') hq))
    obtain ⟨d', h1', h2'⟩ := DpAll.getV hd' (hz ws (ex_k (e.trans e') hq'))
    have g : Grow H G (upd H T (.tup [y, z])) (upd G T (.tup [y, z])) := Grow.new e' hT
    exact ⟨_, _, g, zipD_get h1 h1', Dp.tup (Evl.st_of upd_same) (.cons (Dp.up h2 (e.trans g.g)) (.cons (Dp.up h2' (e.trans g.g)) .nil))⟩
theorem ei_enumK {tr : TA} {P : List D → Prop} (h : EvA K Γ δ tr fun xs => ∃ d k ds, xs = [.d d] ∧ seqD d = some (k, ds) ∧ P (enumD 0 ds)) : EvI K Γ δ (iEnumK K tr) P := fun σ H G R Q q =>
  h σ H G R _ fun vs H1 G1 x R1 f1 r1 k1 a1 ⟨d, k, ds, hx, hd, p⟩ => by
    subst hx
    cases r1 with
    | cons r1 r2 =>
      cases r2
      obtain ⟨a, vs, rfl, h1, h2⟩ := seqD_rel r1 R1.sub hd
      exact ⟨k, a, vs, rfl, ex_k R1.sub h1, q _ H1 G1 _ R1 f1 (walk_enumK h1 h2) p⟩
theorem ei_zipK {st : Bool} {tr : TA} {P : List D → Prop} (h : EvA K Γ δ tr fun xs => ∃ d e ka kb ds es, xs = [.d d, .d e] ∧ seqD d = some (ka, ds) ∧ seqD e = some (kb, es) ∧ (st = true → ds.length = es.length) ∧ P (zipD ds es)) : EvI K Γ δ (iZipK K st tr) P := fun σ H G R Q q =>
  h σ H G R _ fun vs H1 G1 x R1 f1 r1 k1 a1 ⟨d, e, ka, kb, ds, es, hx, hd, he, hs, p⟩ => by
    subst hx
    cases r1 with
    | cons r1 r2 =>
      cases r2 with
      | cons r2 r3 =>
        cases r3
        obtain ⟨a, vs, rfl, h1, h2⟩ := seqD_rel r1 R1.sub hd
        obtain ⟨b, ws, rfl, h3, h4⟩ := seqD_rel r2 R1.sub he
        exact ⟨ka, kb, a, b, vs, ws, rfl, ex_k R1.sub h1, ex_k R1.sub h3, q _ H1 G1 _ R1 f1 (walk_zipK h1 h2 h3 h4 hs) p⟩
/-! ### an own list, an own dict is changed -/
theorem tyV_l {H : Hp} {p : Addr} {vs : List V} (h : H p = some (.lst vs)) : tyV K "list" (.ref p) H := .inl ⟨rfl, vs, Evl.sq_of h⟩
/-- the slot's list is another -/
theorem own_write {σ : L2.St} {H G : Hp} {i : Nat} {p : Addr} {xs ys : List D} {us : List V} (R : RelS K Γ σ H G δ) (e : δ[i]? = some (.own p xs)) (hd : DpAll K G us ys) :
    RelS K Γ σ (upd H p (.lst us)) G (δ.set i (.own p ys)) ∧ Fr δ H G (upd H p (.lst us)) G := by
  obtain ⟨v, h1, rfl, gp, vs, h2, h3⟩ := R.rd e rfl
  have k : ∀ a, a ∉ (Sl.own p xs).ads → (upd H p (.lst us)) a = H a := fun a ha => upd_ne fun z => ha (by simp [Sl.ads, z])
  have t : ∀ a ∈ (Sl.own p xs).ads, (upd H p (.lst us)) a ≠ none := fun a ha => by
    obtain rfl : a = p := by simpa [Sl.ads] using ha
    rw [upd_same]; simp
  refine ⟨R.write e k t rfl (id (α := SlOw Γ (.own p xs)) (R.ow (.own p xs) (List.mem_of_getElem? e))) fun o ho y hy => ?_, fr_write (List.mem_of_getElem? e) k t⟩
  cases hy
  obtain ⟨w, h4, h5⟩ := ho _ rfl
  exact ⟨w, h4, h5.1, gp, us, upd_same, hd⟩
/-- xs.append(d) -/
theorem sd_app {i : Nat} {p : Addr} {xs : List D} (e : δ[i]? = some (.own p xs)) (hl : xs.length ≤ 100000) (h : Ev K Γ δ te fun x => ∃ d, x = .d d ∧ E.nx (δ.set i (.own p (xs ++ [d])))) : SD K Γ δ (tDrop (tBM K "list" rAppend (tVar i) (tCons te tNil))) E := fun σ H G R D L => by
  obtain ⟨v, h1, rfl, gp, vs, h2, h3⟩ := R.rd e rfl
  refine ⟨_, h1, tyV_l h2, h σ H G R _ fun w H1 G1 x R1 f1 r1 k1 ⟨d, hx, hp⟩ => ?_⟩
  subst hx
  obtain ⟨v', h1', hv', gp', vs', h2', h3'⟩ := R1.rd e rfl
  rw [h1] at h1'
  cases h1'
  cases hv'
  obtain ⟨R2, f2⟩ := own_write R1 e (DpAll.app h3' (.cons r1 .nil))
  refine ⟨p, vs', w, rfl, rfl, h2', by rw [DpAll.len h3']; exact Nat.lt_of_le_of_lt hl (by decide), ?_⟩
  exact L.nx _ _ _ _ R2 (f1.g.trans f2.g) hp
/-- xs.extend(ys) -/
theorem sd_ext {i : Nat} {p : Addr} {xs : List D} (e : δ[i]? = some (.own p xs)) (h : Ev K Γ δ te fun x => ∃ ys, x.lst = some ys ∧ xs.length + ys.length ≤ 100000 ∧ E.nx (δ.set i (.own p (xs ++ ys)))) : SD K Γ δ (tDrop (tBM K "list" rExtend (tVar i) (tCons te tNil))) E := fun σ H G R D L => by
  obtain ⟨v, h1, rfl, gp, vs, h2, h3⟩ := R.rd e rfl
  refine ⟨_, h1, tyV_l h2, h σ H G R _ fun w H1 G1 x R1 f1 r1 k1 ⟨ys, hx, hl, hp⟩ => ?_⟩
  obtain ⟨b, zs, rfl, h4, h5⟩ := r1.lst R1.sub hx
  obtain ⟨v', h1', hv', gp', vs', h2', h3'⟩ := R1.rd e rfl
  rw [h1] at h1'
  cases h1'
  cases hv'
  obtain ⟨R2, f2⟩ := own_write R1 e (DpAll.app h3' h5)
  refine ⟨p, b, vs', zs, rfl, rfl, h2', h4, by rw [DpAll.len h3', DpAll.len h5]; exact Nat.le_trans hl (by decide), ?_⟩
  exact L.nx _ _ _ _ R2 (f1.g.trans f2.g) hp
/-- xs[i] = d -/
theorem sd_lset {i : Nat} {p : Addr} {xs : List D} (e : δ[i]? = some (.own p xs)) (h : Ev K Γ δ te fun x => ∃ d, x = .d d ∧ Ev K Γ δ ta fun y => ∃ k j, y = .d (.int k) ∧ ixN xs.length k = some j ∧ E.nx (δ.set i (.own p (xs.set j d)))) : SD K Γ δ (tAsg te (gSub (tVar i) ta rSetL)) E := fun σ H G R D L =>
  h σ H G R _ fun w H1 G1 x R1 f1 r1 k1 ⟨d, hx, h'⟩ => by
    subst hx
    obtain ⟨v, h1, hv, gp, vs, h2, h3⟩ := R1.rd e rfl
    refine ⟨v, h1, h' σ H1 G1 R1 _ fun u H2 G2 y R2 f2 r2 k2 ⟨k, j, hy, hj, hp⟩ => ?_⟩
    subst hv
    subst hy
    obtain rfl := Dp.int_inv r2
    obtain ⟨v', h1', hv', gp', vs', h2', h3'⟩ := R2.rd e rfl
    rw [h1] at h1'
    cases h1'
    cases hv'
    obtain ⟨R3, f3⟩ := own_write R2 e (DpAll.set (Dp.up r1 f2.g) j h3')
    exact ⟨p, vs', k, j, rfl, rfl, h2', by rw [DpAll.len h3']; exact hj, L.nx _ _ _ _ R3 ((f1.g.trans f2.g).trans f3.g) hp⟩
theorem dic_write {σ : L2.St} {H G : Hp} {i : Nat} {p : Addr} {xs ys : List (Key × D)} {us : List (Key × V)} (R : RelS K Γ σ H G δ) (e : δ[i]? = some (.dic p xs)) (hd : KvD K G us ys) :
    RelS K Γ σ (upd H p (.dK us)) G (δ.set i (.dic p ys)) ∧ Fr δ H G (upd H p (.dK us)) G := by
  obtain ⟨v, h1, rfl, gp, vs, h2, h3⟩ := R.rd e rfl
  have k : ∀ a, a ∉ (Sl.dic p xs).ads → (upd H p (.dK us)) a = H a := fun a ha => upd_ne fun z => ha (by simp [Sl.ads, z])
  have t : ∀ a ∈ (Sl.dic p xs).ads, (upd H p (.dK us)) a ≠ none := fun a ha => by
    obtain rfl : a = p := by simpa [Sl.ads] using ha
    rw [upd_same]; simp
  refine ⟨R.write e k t rfl (id (α := SlOw Γ (.dic p xs)) (R.ow (.dic p xs) (List.mem_of_getElem? e))) fun o ho y hy => ?_, fr_write (List.mem_of_getElem? e) k t⟩
  cases hy
  obtain ⟨w, h4, h5⟩ := ho _ rfl
  exact ⟨w, h4, h5.1, gp, us, upd_same, hd⟩
def putD (kvs : List (Key × D)) (k : Key) (v : D) : List (Key × D) :=
  if (kvs.any fun kv => decide (kv.1 = k)) = true then kvs.map (fun kv => if kv.1 = k then (kv.1, v) else kv) else kvs ++ [(k, v)]
theorem kvd_any {G : Hp} (k : Key) : ∀ {vs : List (Key × V)} {ds : List (Key × D)}, KvD K G vs ds → (vs.any fun kv => decide (kv.1 = k)) = (ds.any fun kv => decide (kv.1 = k))
  | _, _, .nil => rfl
  | _, _, .cons h t => by
    rw [List.any_cons, List.any_cons, h.1, kvd_any k t]
theorem kvd_map {G : Hp} {k : Key} {v : V} {d : D} (hv : Dp K G v d) : ∀ {vs : List (Key × V)} {ds : List (Key × D)}, KvD K G vs ds → KvD K G (vs.map (fun kv => if kv.1 = k then (kv.1, v) else kv)) (ds.map (fun kv => if kv.1 = k then (kv.1, d) else kv))
  | _, _, .nil => .nil
  | _, _, .cons (a := p) (b := q) h t => by
    refine .cons ?_ (kvd_map hv t)
    show (if p.1 = k then (p.1, v) else p).1 = (if q.1 = k then (q.1, d) else q).1 ∧ Dp K G (if p.1 = k then (p.1, v) else p).2 (if q.1 = k then (q.1, d) else q).2
    rw [h.1]
    by_cases e : q.1 = k
    · rw [if_pos e, if_pos e]
      exact ⟨rfl, hv⟩
    · rw [if_neg e, if_neg e]
      exact h
theorem kvd_app {G : Hp} {k : Key} {v : V} {d : D} (hv : Dp K G v d) : ∀ {vs : List (Key × V)} {ds : List (Key × D)}, KvD K G vs ds → KvD K G (vs ++ [(k, v)]) (ds ++ [(k, d)])
  | _, _, .nil => .cons ⟨rfl, hv⟩ .nil
  | _, _, .cons h t => .cons h (kvd_app hv t)
theorem kvd_put {G : Hp} {k : Key} {v : V} {d : D} (hv : Dp K G v d) {vs : List (Key × V)} {ds : List (Key × D)} (h : KvD K G vs ds) : KvD K G (putK vs k v) (putD ds k d) := by
  unfold putK putD
  rw [kvd_any k h]
  by_cases e : (ds.any fun kv => decide (kv.1 = k)) = true
  · rw [if_pos e, if_pos e]
    exact kvd_map hv h
  · rw [if_neg e, if_neg e]
    exact kvd_app hv h
/-- d[k] = v -/
theorem sd_dput {i : Nat} {p : Addr} {kvs : List (Key × D)} (e : δ[i]? = some (.dic p kvs)) (hl : kvs.length ≤ 100000)
    (h : Ev K Γ δ te fun x => ∃ d, x = .d d ∧ Ev K Γ δ ta fun y => ∃ c k, y = .d c ∧ keyD c = some k ∧ E.nx (δ.set i (.dic p (putD kvs k d)))) : SD K Γ δ (sDPut (tVar i) ta te) E := fun σ H G R D L =>
  h σ H G R _ fun w H1 G1 x R1 f1 r1 k1 ⟨d, hx, h'⟩ => by
    subst hx
    obtain ⟨v, h1, hv, gp, vs, h2, h3⟩ := R1.rd e rfl
    refine ⟨v, h1, h' σ H1 G1 R1 _ fun u H2 G2 y R2 f2 r2 k2 ⟨c, k, hy, hk, hp⟩ => ?_⟩
    subst hv
    subst hy
    obtain rfl := key_rel r2 hk
    obtain ⟨v', h1', hv', gp', vs', h2', h3'⟩ := R2.rd e rfl
    rw [h1] at h1'
    cases h1'
    cases hv'
    obtain ⟨R3, f3⟩ := dic_write R2 e (kvd_put (k := k) (Dp.up r1 f2.g) h3')
    exact ⟨p, _, rfl, DPut.k h2' (by rw [kvd_len h3']; exact Nat.lt_of_le_of_lt hl (by decide)), L.nx _ _ _ _ R3 ((f1.g.trans f2.g).trans f3.g) hp⟩
/-- {} -/
theorem ev_dnew (h : ∀ p, P (.dic p [])) : Ev K Γ δ tDNewK P := fun σ H G R Q q p hp => by
  have g : Grow H G (upd H p (.dK [])) G := Grow.newH R.sub hp
  exact q _ _ _ (.dic p []) (R.grow g) g.fr ⟨rfl, ex_none R.sub hp, [], upd_same, .nil⟩ hp (h p)
/-- {k: v} -/
theorem ev_disp1 (h : Ev K Γ δ ta fun x => ∃ c k, x = .d c ∧ keyD c = some k ∧ Ev K Γ δ tb fun y => ∃ d, y = .d d ∧ ∀ p, P (.dic p [(k, d)])) : Ev K Γ δ (tDisp [(ta, tb)]) P := fun σ H G R Q q p hp => by
  have g : Grow H G (upd H p (.dK [])) G := Grow.newH R.sub hp
  have R0 := R.grow g
  have hs : ∀ s ∈ δ, p ∉ s.ads := R.nin hp
  refine h σ _ _ R0 _ fun v H1 G1 x R1 f1 r1 k1 ⟨c, k, hx, hk, h'⟩ => ?_
  subst hx
  refine h' σ H1 G1 R1 _ fun w H2 G2 y R2 f2 r2 k2 ⟨d, hy, hp2⟩ => ?_
  subst hy
  obtain rfl := key_rel r1 hk
  have f12 := f1.trans f2
  have hp3 : H2 p = some (.dK []) := f12.h p _ upd_same hs
  have gp : G2 p = none := none_of fun u z => by
    have := f12.n p u z (by rw [upd_same]; simp)
    rw [ex_none R.sub hp] at this
    cases this
  refine ⟨hp3, [(k, w)], rfl, by show 1 ≤ 15; decide, ?_⟩
  have em : mergeK [] [(k, w)] = [(k, w)] := rfl
  rw [em]
  have eD : ∀ a, a ≠ p → (upd H2 p (.dK [(k, w)])) a = H2 a := fun a h => upd_ne h
  refine q (.ref p) _ G2 (.dic p [(k, d)]) ⟨R2.len, fun i s e => ?_, R2.ap, R2.ow, fun a o h => ?_, fun a o h hS => ?_, fun a h => ?_, R2.g0, R2.gn⟩ ⟨(g.g.trans f12.g), fun a o h hsa => ?_, fun a h => ?_, fun a o h hn => ?_⟩ ⟨rfl, gp, _, upd_same, .cons ⟨rfl, r2⟩ .nil⟩ hp (hp2 p)
  · obtain ⟨o, h1, h2⟩ := R2.sl i s e
    refine ⟨o, h1, fun y hy => ?_⟩
    obtain ⟨w', h3, h4⟩ := h2 y hy
    exact ⟨w', h3, h4.keep (Evl.Ex.refl G2) (fun a ha => eD a fun z => hs s (List.mem_of_getElem? e) (by rw [← z, ← Sl.rd_ads hy]; exact ha)) fun a ha => (h4.at a ha).1⟩
  · rw [eD a fun z => by rw [z, gp] at h; cases h]
    exact R2.sub a o h
  · rw [eD a fun z => by rw [z, R.new hp] at h; cases h]
    exact R2.fr a o h hS
  · by_cases z : a = p
    · rw [z, upd_same]; simp
    · rw [eD a z]
      exact R2.h0 a h
  · have z : a ≠ p := fun z => by rw [z, hp] at h; cases h
    rw [eD a z]
    exact f12.h a o (by rw [upd_ne z]; exact h) hsa
  · by_cases z : a = p
    · rw [z, upd_same]; simp
    · rw [eD a z]
      exact f12.t a (by rw [upd_ne z]; exact h)
  · by_cases z : a = p
    · rw [z, hp] at hn
      exact absurd rfl hn
    · have := f12.n a o h (by rw [upd_ne z]; exact hn)
      exact this
/-! ### methods that read -/
theorem ev_index {ds : List D} {d : D} (h : Ev K Γ δ te fun x => x.lst = some ds ∧ Ev K Γ δ ta fun y => y = .d d ∧ SeqAt.shaped d = true ∧ SeqAt.shaped (.list ds) = true ∧
      ∃ (j : Nat) (z : D), ds[j]? = some z ∧ PyData.eqv z d = true ∧ (∀ (m : Nat) (z' : D), m < j → ds[m]? = some z' → PyData.eqv z' d = false) ∧ P (.d (.int (j : Int)))) : Ev K Γ δ (tBM K "list" (rIndexD K) te (tCons ta tNil)) P := fun σ H G R Q q =>
  h σ H G R _ fun v H1 G1 x R1 f1 r1 k1 ⟨hx, h'⟩ => by
    obtain ⟨a, vs, rfl, h1, h2⟩ := r1.lst R1.sub hx
    refine ⟨tyV_l h1, h' σ H1 G1 R1 _ fun w H2 G2 y R2 f2 r2 k2 ⟨hy, s1, s2, j, z, g1, g2, g3, p⟩ => ?_⟩
    subst hy
    have r1' := r1.stay k1 R1 R R2 f2
    obtain ⟨a', vs', ea, h1', h2'⟩ := r1'.lst R2.sub hx
    cases ea
    exact ⟨a, w, d, ds, j, z, rfl, rfl, Dp.old _ _ (.lst h1' (DpAll.up h2' R2.sub)), Dp.old _ _ (Dp.up r2 R2.sub), s2, s1, g1, g2, g3, q _ H2 G2 (.d (.int j)) R2 (f1.trans f2) (.int _) trivial p⟩
/-! ### more operators -/
theorem od_isb {a b : Bool} (h : P (.d (.bool (decide (a = b))))) : OpD K rIsB (.d (.bool a)) (.d (.bool b)) P :=
  od_val (fun H G v w ex rx ry Q q => ⟨a, b, bl_of rx, bl_of ry, q _ (.bl _)⟩) h
theorem od_nob {a b : Bool} (h : P (.d (.bool (!decide (a = b))))) : OpD K rNotB (.d (.bool a)) (.d (.bool b)) P :=
  od_val (fun H G v w ex rx ry Q q => ⟨a, b, bl_of rx, bl_of ry, q _ (.bl _)⟩) h
end
end Dl

/-! Ds: sorted of a tuple of ints. -/
namespace SrtO
open PySem PyProof.Rows Srt
section
variable {prog : Program} {w : World} {A : Around} {E : Value → Shared → Prop} {s : Shared}
theorem collect_tup {l : Addr} {vs : List Value} {Q : List Value → Shared → Prop} (hl : s.heap.IsTuple l vs.toArray)
    (h : Q vs { s with heap := (s.heap.push (seqObj "list" #[] 0)).update s.heap.objs.size (Obj.mapSeq (· ++ vs.toArray)) }) (hsz : vs.length ≤ sizeLine) :
    wpAny (model prog w) A (collect (.ref l)) Q E s := by
  obtain ⟨o, ho, hc, n, hd⟩ := id hl
  unfold collect
  refine wpAny_bind (wpAny_runValue (codeAny_builtin entry_proto_collect' ?_))
  show wpAny _ _ (do again (.builtin "list.__iadd__" ⟨[← newList [], .ref l], []⟩)) _ _ s
  refine wpAny_bind (wpAny_newList (wpAny_pure ⟨Code.quiet_builtin _ (by decide +kernel), codeAny_builtin entry_list_iadd' ?_⟩))
  show wpAny _ _ (Builtin.List.listExtendWith (.ref s.heap.objs.size) (.ref l) (.ref s.heap.objs.size)) _ _ { s with heap := s.heap.push (seqObj "list" #[] 0) }
  unfold Builtin.List.listExtendWith
  have ho' : (s.heap.push (seqObj "list" #[] 0)).get? l = some o := Heap.get?_push_of_some _ ho
  refine wpAny_bind (wpAny_typeOf (T := "tuple") ⟨o, ho', hc⟩ ?_)
  have ht : (Value.type "tuple" == Value.type "tuple") = true := by rfl
  rw [if_pos (by rw [ht]; simp)]
  refine wpAny_bind (listItems_at ho' hd ?_)
  refine wpAny_bind (listItems_at (xs := #[]) (n := 0) (Heap.get?_push_size _ rfl) rfl ?_)
  rw [if_neg (by simp)]
  refine wpAny_bind (listUpdate_at (xs := #[]) (n := 0) (Heap.get?_push_size _ rfl) rfl ?_ (Nat.zero_le _) (by show (#[] ++ vs.toArray).size ≤ sizeLine + 1; simp only [Array.size_append, List.size_toArray, List.length_nil]; omega))
  refine wpAny_pure ?_
  show wpAny (model prog w) A (do
      let o ← load s.heap.objs.size
      match o.data with
      | .seq xs _ => pure xs.toList
      | _ => unsupported "internal:collect") Q E { s with heap := (s.heap.push (seqObj "list" #[] 0)).update s.heap.objs.size (Obj.mapSeq (· ++ vs.toArray)) }
  refine wpAny_bind (wpAny_load (get?_update_seq (Heap.get?_push_size _ rfl) _) ?_)
  show wpAny _ _ (pure ((#[] : Array Value) ++ vs.toArray).toList) Q E _
  rw [show ((#[] : Array Value) ++ vs.toArray).toList = vs by simp]
  exact wpAny_pure h
theorem sorted_ordT {l : Addr} {vs : List Value} {ltv : Value → Value → Bool} {Q : Value → Shared → Prop} (O : Swo ltv) (hl : s.heap.IsTuple l vs.toArray) (hz : vs.length ≤ sizeLine)
    (hS : 2 ≤ vs.length → ∀ (h₁ : Heap) (a : Addr), h₁.get? a = some (seqObj "list" vs.toArray 0) → (∀ b o, s.heap.get? b = some o → b ≠ a ∧ h₁.get? b = some o) → SortableO prog w A.in1.in1 { s with heap := h₁ } a vs ltv)
    (h : ∀ out : List Value, Srtd ltv out → Stb ltv out vs → Q (.ref (s.heap.objs.size + 1)) { s with heap := sortedAll s.heap vs out.toArray }) :
    wpAny (model prog w) A (call (.builtin "sorted") [.ref l]) Q E s := by
  refine Calls.call_function_entry kind_sorted plain_sorted entry_sorted (args_sorted1 _) ?_
  unfold Builtin.«sorted»
  refine wpAny_bind (m := checkCount "sorted" 1 1 _) (wpAny_pure ?_)
  refine wpAny_bind (collect_tup hl ?_ hz)
  refine wpAny_bind (wpAny_newList ?_ hz)
  have hsz : ((s.heap.push (seqObj "list" #[] 0)).update s.heap.objs.size (Obj.mapSeq (· ++ vs.toArray))).objs.size = s.heap.objs.size + 1 := by
    rw [Heap.size_update, size_push']
  have hoL : (((s.heap.push (seqObj "list" #[] 0)).update s.heap.objs.size (Obj.mapSeq (· ++ vs.toArray))).push (seqObj "list" vs.toArray 0)).get? (s.heap.objs.size + 1) = some (seqObj "list" vs.toArray 0) := by
    rw [← hsz]; exact Heap.get?_push_size _ rfl
  have keep : ∀ b o, s.heap.get? b = some o → b ≠ s.heap.objs.size + 1 ∧ (((s.heap.push (seqObj "list" #[] 0)).update s.heap.objs.size (Obj.mapSeq (· ++ vs.toArray))).push (seqObj "list" vs.toArray 0)).get? b = some o := fun b o q => by
    have hlt : b < s.heap.objs.size := Heap.lt_size q
    refine ⟨Nat.ne_of_lt (Nat.lt_succ_of_lt hlt), Heap.get?_push_of_some _ ?_⟩
    rw [Heap.get?_update_ne _ _ _ _ (Nat.ne_of_lt hlt)]
    exact Heap.get?_push_of_some _ q
  show wpAny _ _ _ _ _ { s with heap := ((s.heap.push (seqObj "list" #[] 0)).update s.heap.objs.size (Obj.mapSeq (· ++ vs.toArray))).push (seqObj "list" vs.toArray 0) }
  rw [hsz]
  refine wpAny_bind (wpAny_holding (wpAny_call_entry slot_list_sort ⟨_, hoL, rfl⟩ entry_list_sort (list_sort_ord O hoL hz (fun h2 => hS h2 _ _ hoL keep) fun out hs hb => ⟨_, rfl, ?_⟩) (args_list_sort _)))
  exact wpAny_pure ⟨_, rfl, h out hs hb⟩
end
end SrtO
namespace L2
open PySem PySem.Spec PyProof.Rows
def rSortedIT (K : PySem.W.Frag) : List V → Hp → VK → Prop := fun vs H Q => ∃ (a : Addr) (ns : List Int), vs = [V.ref a] ∧ SqT K H a (ns.map V.int) ∧
  ∀ (ns' : List Int) (p : Addr), ns'.Perm ns → ns'.Pairwise (· ≤ ·) → H p = none → Q (.ref p) (upd H p (.lst (ns'.map V.int)))
def rSortedU (K : PySem.W.Frag) : List V → Hp → VK → Prop := fun vs H Q => rSortedI K vs H Q ∨ rSortedIT K vs H Q
section
variable {X : Cx}
theorem cr_sortedIT : CallR X (.builtin "sorted") (rSortedIT X.K) := by
  intro pins s σ H vs us Q I r h
  obtain ⟨a, ns, rfl, hs, q⟩ := h
  obtain ⟨its, rv, hl, hz⟩ := I.tuple hs
  rw [Vals.ref1 r]
  have hi := rv.ints
  refine SrtO.sorted_ordT SrtO.swo_int hl (by rw [← rv.length]; exact hz) (fun h2 h₁ a' _ _ => SrtO.ints_sortable hi h2) fun out h1 h2 => ?_
  obtain ⟨k1, k2, k3⟩ := SrtO.ints_out hi h1 h2
  obtain ⟨ep, he'⟩ := PyProof.Rows.sortedAll_at s.heap its out.toArray
  have hlen : ((out.map SrtO.iv).map V.int).length ≤ sizeLine := by
    rw [List.length_map, k2.length_eq]
    rw [List.length_map] at hz
    exact hz
  exact ⟨.ref _, upd H (s.heap.objs.size + 1) (.lst ((out.map SrtO.iv).map V.int)), I.laid (t' := s.toks) (fun _ _ => PyProof.Rows.sortedAll_old) (Nat.le_succ _) ⟨hlen, out, ep, vals_of_ints k1, he'⟩, rfl, q _ _ k2 k3 (I.hok.fresh (Nat.le_succ _))⟩
theorem cr_sortedU : CallR X (.builtin "sorted") (rSortedU X.K) := cr_sortedI.or cr_sortedIT
end
end L2
namespace Dl
open PySem L2
section
variable {K : Fg} {x : Vl} {P : Vl → Prop}
theorem cd_sortl {ns : List Int} (hx : x.lst = some (ns.map PyData.int)) (h : ∀ p (ms : List Int), ms.Perm ns → ms.Pairwise (· ≤ ·) → P (.own p (ms.map PyData.int))) : CaD K (rSortedU K) [x] P := fun H G vs ex r Q q => by
  obtain ⟨v, rfl, rx⟩ := one_of r
  obtain ⟨a, vs, rfl, h1, h2⟩ := rx.lst ex hx
  obtain rfl := DpAll.ints_inv h2
  exact .inl ⟨a, ns, rfl, Evl.sq_of h1, fun ms p h3 h4 hp => q _ _ G (.own p (ms.map PyData.int)) (Grow.newH ex hp) ⟨rfl, ex_none ex hp, _, upd_same, DpAll.ints ms⟩ (.inr ⟨p, _, rfl, hp⟩) (h p ms h3 h4)⟩
theorem cd_sortt {ns : List Int} (h : ∀ p (ms : List Int), ms.Perm ns → ms.Pairwise (· ≤ ·) → P (.own p (ms.map PyData.int))) : CaD K (rSortedU K) [.d (.tuple (ns.map PyData.int))] P := fun H G vs ex r Q q => by
  obtain ⟨v, rfl, rx⟩ := one_of r
  obtain ⟨a, vs, rfl, h1, h2⟩ := rx.tup ex
  obtain rfl := DpAll.ints_inv h2
  exact .inr ⟨a, ns, rfl, h1, fun ms p h3 h4 hp => q _ _ G (.own p (ms.map PyData.int)) (Grow.newH ex hp) ⟨rfl, ex_none ex hp, _, upd_same, DpAll.ints ms⟩ (.inr ⟨p, _, rfl, hp⟩) (h p ms h3 h4)⟩
end
end Dl

/-! Dg: a def's promise where no repr is under way (guards empty): repr of data may be asked. -/
namespace L2
open PySem PySem.Spec PyProof.Rows
/-- the promise where no repr is under way -/
structure FnG (P : Program) (w : World) (K : PySem.W.Frag) (mg : Str → Option Value) (base : Heap) (CX : CXT) (k : Nat) (f : Addr) (fd : FuncData) (ps : List Str) (sp : Sp) : Prop where
  len : ∀ vs H Q E, sp vs H Q E → vs.length = ps.length
  run : ∀ (A : Around) (outer : List Env) (s : Shared) (H : Hp) (args : Args) (us : List Value) (vs : List V) (Q : VK) (E : XK), A.guards = some [] → Room k A → Env0 P w K mg base A outer s H → BindsTo s fd args (ps.zip us) → Vals vs us → sp vs H Q E →
    codeAny (model P w) A (.call (.ref f) args) (CR CX outer P w H s Q E) s
section
variable {P : Program} {w : World} {K : PySem.W.Frag} {mg : Str → Option Value} {base : Heap} {CX : CXT} {k : Nat} {f : Addr} {fd : FuncData} {ps : List Str} {sp : Sp}
theorem FnOk.g (F : FnOk P w K mg base CX k f fd ps sp) : FnG P w K mg base CX k f fd ps sp := ⟨F.len, fun A outer s H args us vs Q E _ => F.run A outer s H args us vs Q E⟩
theorem FnG.imp {sp' : Sp} (F : FnG P w K mg base CX k f fd ps sp) (h : ∀ vs H Q E, sp' vs H Q E → sp vs H Q E) : FnG P w K mg base CX k f fd ps sp' :=
  ⟨fun vs H Q E q => F.len vs H Q E (h _ _ _ _ q), fun A outer s H args us vs Q E hgd hr he hb hv hs => F.run A outer s H args us vs Q E hgd hr he hb hv (h _ _ _ _ hs)⟩
theorem FnG.mono {j : Nat} (F : FnG P w K mg base CX j f fd ps sp) (h : j ≤ k) : FnG P w K mg base CX k f fd ps sp :=
  ⟨F.len, fun A outer s H args us vs Q E hgd hr => F.run A outer s H args us vs Q E hgd (hr.mono h)⟩
theorem fn_ofG {name qual : Str} {params : Arguments} {body : List Stmt} {scope : Scope} {dV kV doc pm cdv ct oc : Value} {an od : Option Addr}
    {osl : Array (Option Value)} {N : List Str} (lk : K.lookup f = some ⟨oc, od, .func (PySem.W.fnOf name qual params body scope dV kV doc pm an cdv ct), osl⟩) (hcd : PySem.W.codeIn K cdv qual = true) (S : FnScope N ps scope)
    (len : ∀ vs H Q E, sp vs H Q E → vs.length = ps.length)
    (hbody : ∀ (A : Around) (outer : List Env) (s : Shared) (H : Hp) (vs : List V) (Q : VK) (E : XK), A.guards = some [] → Room k (A.deeper (envOfC qual scope s.heap.objs.size f cdv)) → sp vs H Q E →
      ∃ t, PSs (cxOf CX P w K mg base N qual scope f cdv A outer s H E) body t ∧ t { nx := fun _ H' => Q .non H', rt := Q } (start N vs) H) :
    FnG P w K mg base CX (k + 1) f (PySem.W.fnOf name qual params body scope dV kV doc pm an cdv ct) ps sp := by
  refine ⟨len, fun A outer s H args us vs Q E hgd hr e0 hb r hsp => ?_⟩
  -- the promise at this one call, as the layer's own theorem asks it: of no other state
  have hl := len _ _ _ _ hsp
  have KX : K.In s.heap := e0.mod.kin.keeps fun b o e => (e0.bs b o e).1
  have lim : s.heap.NoLimit := e0.mod.nolimit.keeps fun b o e => (e0.bs b o e).1
  have hkind : ∀ y ∈ ps.zip us, scope.names.lookup y.1 = some .local ∨ (scope.names.lookup y.1 = some .cell ∧ ((cellsFrom (s.heap.objs.size + 1) scope.names []).lookup y.1).isSome = true) := fun ⟨n, v⟩ hy => by
    rcases S.par n (List.of_mem_zip hy).1 with q | q
    · exact .inl q
    · exact .inr ⟨q, PySem.W.cellsFrom_some _ _ _ (.inl q)⟩
  refine codeAny_call_function hr.depth (KX _ _ lk) rfl S.co S.gen rfl (PySem.W.codeRec_of KX hcd) (hb _ _ _ _ ?_)
  refine wpAny_newFunctionEnv_cells S.kind hkind fun env he s1 x => ?_
  subst he
  refine ⟨lim.keeps x.toInCall.keep, codeAny_func ?_⟩
  obtain ⟨t, ht, hq⟩ := hbody A outer s H vs Q E hgd (hr.deeper _) hsp
  have I : Inv (cxOf CX P w K mg base N qual scope f cdv A outer s H E) [] (start N vs) H s1 := inv_start S hr.hd e0 hl r x
  refine wpAny_mono (ht.run [] s1 (start N vs) H _ I hq) (fun fl s' hs => ?_) fun e s' hs => hs
  have fin : ∀ {σ' : St} {H' : Hp} {v : V} {u : Value}, Inv (cxOf CX P w K mg base N qual scope f cdv A outer s H E) [] σ' H' s' → RelV v u → Q v H' → CE outer P w H s Q u s' :=
    fun {σ' H' v u} J rv q => ⟨v, H', J.os, J.bare, J.base, J.hok, rv, q⟩
  cases fl with
  | ret u =>
    obtain ⟨v, σ', H', J, rv, q⟩ := hs
    exact fin J rv q
  | next =>
    obtain ⟨σ', H', J, q⟩ := hs
    exact fin (v := V.non) (u := Value.none) J rfl q
  | brk =>
    obtain ⟨_, _, _, q⟩ := hs
    exact False.elim q
  | cont =>
    obtain ⟨_, _, _, q⟩ := hs
    exact False.elim q
theorem FunD.okG {x qual : Str} {params : Arguments} {body : List Stmt} {scope : Scope} {dvs : List V} {kws : List (Str × V)} {N : List Str} (F : FunD K x qual params body scope dvs kws f fd) (S : FnScope N ps scope) (len : ∀ vs H Q E, sp vs H Q E → vs.length = ps.length)
    (hbody : ∀ (cdv : Value) (A : Around) (outer : List Env) (s : Shared) (H : Hp) (vs : List V) (Q : VK) (E : XK), A.guards = some [] → Room k (A.deeper (envOfC qual scope s.heap.objs.size f cdv)) → sp vs H Q E →
      ∃ t, PSs (cxOf CX P w K mg base N qual scope f cdv A outer s H E) body t ∧ t { nx := fun _ H' => Q .non H', rt := Q } (start N vs) H) : FnG P w K mg base CX (k + 1) f fd ps sp := by
  obtain ⟨oc, od, dV, kV, doc, pm, an, cdv, ct, osl, rfl, lk, hcd, _, _⟩ := F.ex
  exact fn_ofG lk hcd S len fun A outer s H vs Q E hg hr hsp => hbody cdv A outer s H vs Q E hg hr hsp
end
section
variable {X : Cx} {CX : CXT} {k : Nat} {f : Addr} {fd : FuncData} {ps : List Str} {sp : Sp} {dvs : List V} {ds : List Value} {E : XK} {x : Str} {p pos : Pos} {e : Expr} {es : List Expr} {t : TA}
theorem run_fnG {pins : List (Addr × Obj)} {σ : St} {H : Hp} {s : Shared} {Q : VK} {us : List Value} {vs : List V} (F : FnG X.prog X.w X.K X.mg X.base CX k f fd ps sp) (hgd : X.A.guards = some []) (hr : Room k X.A) (hb : Binds X.K fd ps ds) (hd : Vals dvs ds) (hx : Passes CX X E)
    (I : Inv X pins σ H s) (r : Vals vs us) (h : sp (vs ++ dvs) H Q E) : wpAny (model X.prog X.w) X.A (call (.ref f) us) (EP X pins σ Q) X.xe s := by
  have r2 : Vals (vs ++ dvs) (us ++ ds) := r.append hd
  have hl : (us ++ ds).length = ps.length := by rw [← r2.length]; exact F.len _ _ _ _ h
  refine wpAny_call (codeAny_mono (F.run X.A X.stack s H ⟨us, []⟩ (us ++ ds) (vs ++ dvs) Q E hgd hr I.env0 (hb s us I.kIn hl) r2 h) fun r s' hq => ?_)
  cases r with
  | error e => exact hx pins σ H s e s' I hq
  | ok fl =>
    cases fl with
    | ret u => exact I.after hq
    | next => exact False.elim hq
    | brk => exact False.elim hq
    | cont => exact False.elim hq
/-- f(e, ..) -/
theorem pe_callG (F : FnG X.prog X.w X.K X.mg X.base CX k f fd ps sp) (hgd : X.A.guards = some []) (hr : Room k X.A) (hg : Gl X x) (hm : X.mg x = some (.ref f)) (hk : PySem.W.keepIn X.K (.ref f) = true) (hb : Binds X.K fd ps ds) (hd : Vals dvs ds) (hx : Passes CX X E)
    (ha : PA X (e :: es) t) (hdb : (x == ("__debug__" : Str)) = false := by decide) (he : starEach (e :: es) X.env = (false, eval e X.env) :: starEach es X.env := by rfl) (hpl : (backTo pos (starEach es X.env)).any (·.1) = false := by rfl) :
    PE X (.Call (.Name x p) (e :: es) [] pos) (tCall sp dvs E t) := by
  refine ⟨fun pins s σ H Q I h => ?_⟩
  refine wpAny_Call_Name_kw (ld_glob I hg hm ?_ hdb)
  refine PySem.W.callWith_K (h₀ := X.base) I.ok.mod.kin hk (thn (ha.run pos pins s σ H _ I h) fun us s1 ⟨vs, H1, I1, r, q⟩ => ⟨I1.kIn, ?_⟩) he hpl
  exact run_fnG F hgd hr hb hd hx I1 r q
theorem pe_callG0 (F : FnG X.prog X.w X.K X.mg X.base CX k f fd ps sp) (hgd : X.A.guards = some []) (hr : Room k X.A) (hg : Gl X x) (hm : X.mg x = some (.ref f)) (hk : PySem.W.keepIn X.K (.ref f) = true) (hb : Binds X.K fd ps ds) (hd : Vals dvs ds) (hx : Passes CX X E)
    (hdb : (x == ("__debug__" : Str)) = false := by decide) : PE X (.Call (.Name x p) [] [] pos) (tCall sp dvs E tNil) := by
  refine ⟨fun pins s σ H Q I h => ?_⟩
  refine wpAny_Call_Name_kw (ld_glob I hg hm ?_ hdb)
  exact PySem.W.callWith_K0 I.kIn hk (run_fnG (us := []) F hgd hr hb hd hx I .nil h)
end
/-- the law's call, from the promise where no repr is under way -/
theorem law_callG {P : Program} {w : World} {K : PySem.W.Frag} {mg mb : Str → Option Value} {CX : CXT} {k : Nat} {fa a : Addr} {fd : FuncData} {x : Str} {sp : Sp} {s₁ : Shared} {vs : List Value} {ns : List Int}
    (KX : K.In s₁.heap) (hns : s₁.heap.Ns mainGlobals mg) (hb : s₁.heap.Ns builtinsNs mb) (hbb : ∀ x : Str, x ≠ "__name__" → mb x = bootBuiltins x) (hlim : s₁.heap.NoLimit) (hg : s₁.gens = #[])
    (ha : s₁.heap.get? a = some { cls := .type "list", data := .seq vs.toArray }) (hi : IntsAre vs ns) (hl : ns.length ≤ sizeLine) (hr : Room k callerA)
    (F : ∀ base : Heap, K.In base → base.Ns mainGlobals mg → FnG P w K mg base CX k fa fd [x] sp) (hbind : ∀ (s : Shared) (u : Value), BindsTo s fd ⟨[u], []⟩ [(x, u)])
    (hsp : ∀ H : Hp, Only H → SqL K H a (ns.map V.int) → sp [.ref a] H (fun v _ => v = .bl true) fun _ _ _ => False)
    (hCX : ∀ H e s', CX [] H s₁ (fun _ _ _ => False) e s' → False) :
    codeAny (model P w) callerA (.call (.ref fa) ⟨[.ref a], []⟩) (fun r s' => r = .ok (.ret (.bool true)) ∧ OldK s₁.heap s'.heap ∧ s'.os = s₁.os ∧ AllBare s'.gens) s₁ := by
  have rv := vals_ints hi
  have lenV := hi.length
  have core : ∀ H : Hp, Only H → SqL K H a (ns.map V.int) → HOk P w H s₁.heap → (∀ b, H b ≠ none → b = a) → (H a ≠ none → K.lookup a = none) →
      codeAny (model P w) callerA (.call (.ref fa) ⟨[.ref a], []⟩) (fun r s' => r = .ok (.ret (.bool true)) ∧ OldK s₁.heap s'.heap ∧ s'.os = s₁.os ∧ AllBare s'.gens) s₁ := by
    intro H hO hS hok hA hK
    have noD : ∀ {b : Addr} {o : Obj} {es : Array DictEntry} {ep : Nat}, s₁.heap.get? b = some o → o.data = .dict es ep → H b = none := fun {b o es ep} e d => by
      cases q : H b with
      | none => rfl
      | some u =>
        obtain rfl : b = a := hA b (by rw [q]; simp)
        rw [ha] at e; cases e
        have d' : Data.seq vs.toArray _ = Data.dict es ep := d
        cases d'
    have nsK : ∀ {b : Addr} {m : Str → Option Value}, s₁.heap.Ns b m → (hidT s₁.heap H).Ns b m := fun {b m} ⟨o, es, ep, e, d, r⟩ => ⟨o, es, ep, hidT_get e (noD e d), d, r⟩
    have hKb : K.In (hidT s₁.heap H) := fun b o e => hidT_get (KX b o e) (by
      cases q : H b with
      | none => rfl
      | some u =>
        obtain rfl : b = a := hA b (by rw [q]; simp)
        rw [hK (by rw [q]; simp)] at e; cases e)
    have hM : Mod K mg (hidT s₁.heap H) := ⟨hKb, nsK hns, ⟨mb, nsK hb, hbb⟩, let ⟨mc, h1, h2⟩ := hlim; ⟨mc, nsK h1, h2⟩⟩
    have e0 : Env0 P w K mg (hidT s₁.heap H) callerA [] s₁ H := ⟨rfl, hM, fun b o e => of_hidT e, Nat.le_of_eq (hidT_size _ _), trivial, fun b hb => absurd (show b ∈ ([] : List Addr) from hb) (by simp), hok, .of_eq hg⟩
    refine codeAny_mono ((F _ hKb (nsK hns)).run callerA [] s₁ H ⟨[.ref a], []⟩ [.ref a] [.ref a] _ _ rfl hr e0 (hbind s₁ (.ref a)) (.cons rfl .nil) (hsp H hO hS)) fun r s' h => ?_
    cases r with
    | error e => exact (hCX H e s' h).elim
    | ok fl =>
      cases fl with
      | next => exact False.elim h
      | brk => exact False.elim h
      | cont => exact False.elim h
      | ret u =>
        obtain ⟨v, H', os, bare, un, hok', r', q⟩ := h
        have q' : v = .bl true := q
        subst q'
        obtain rfl : u = Value.bool true := r'
        refine ⟨rfl, OldK.of_keep fun b o e => ?_, os, bare⟩
        cases q : H b with
        | none => exact un.keep b o e q (by intro z; exact absurd (show b ∈ ([] : List Addr) from z) (by simp)) (by simp)
        | some u =>
          rcases hO b with z | ⟨ob, xs, z⟩
          · rw [q] at z; cases z
          · obtain ⟨e1, _⟩ := hok b _ z
            obtain ⟨e2, _⟩ := hok' b _ (un.frzs b ob _ z)
            rw [e] at e1; cases e1
            exact e2
  cases hk : K.lookup a with
  | some o =>
    have e := KX a o hk
    rw [ha] at e
    cases e
    exact core (fun _ => none) (fun _ => .inl rfl) (.inr ⟨_, vs.toArray, _, hk, rfl, rfl, rfl, by rw [List.size_toArray, lenV]; exact hl, by simpa using rv⟩) (fun b u z => by have z' : (none : Option HO) = some u := z; cases z') (fun b z => absurd rfl z) fun z => absurd rfl z
  | none =>
    refine core (fun b => if b = a then some (.frz { cls := .type "list", data := .seq vs.toArray } (.lst (ns.map V.int))) else none) (fun b => ?_) (.inl (.inr ⟨{ cls := .type "list", data := .seq vs.toArray }, if_pos rfl⟩)) (fun b u z => ?_) (fun b z => ?_) fun _ => hk
    · by_cases hb : b = a
      · exact .inr ⟨_, _, if_pos hb⟩
      · exact .inl (if_neg hb)
    · by_cases hb : b = a
      · have z' := (if_pos hb).symm.trans z
        cases z'
        subst hb
        exact ⟨ha, by rw [List.length_map]; exact hl, vs, _, rv, ha⟩
      · have z' := (if_neg hb).symm.trans z
        cases z'
    · by_cases hb : b = a
      · exact hb
      · exact absurd (if_neg hb) z
theorem walk_ofG {l : PySem.W.OpenLaw} {n k : Nat} {q : Program} {loose : List Str} {XP : (Str → Option Value) → Heap → Prop} {YP : World → Heap → Prop} {d : DefRec} {CX : CXT} {x : Str}
    (hn : l.most = some n) (hn2 : n ≤ sizeLine) (hdf : d.params.defaults = []) (hr : Room k callerA)
    (F : ∀ (w : World) (mg : Str → Option Value) (fa : Addr) (h : Heap), YP w h → h.Ns mainGlobals mg → mg d.name = some (.ref fa) →
      ∃ (K : PySem.W.Frag) (fd : FuncData) (sp : Sp), K.In h ∧ (∀ (s : Shared) (u : Value), BindsTo s fd ⟨[u], []⟩ [(x, u)]) ∧
        (∀ (H : Hp) (a : Addr) (ns : List Int), ns.length ≤ n → Only H → SqL K H a (ns.map V.int) → sp [.ref a] H (fun v _ => v = .bl true) fun _ _ _ => False) ∧
        ∀ base : Heap, K.In base → base.Ns mainGlobals mg → FnG l.prog w K mg base CX k fa fd [x] sp)
    (hCX : ∀ (H : Hp) (s : Shared) (e : Value) (s' : Shared), CX [] H s (fun _ _ _ => False) e s' → False) :
    PySem.W.WalkO q loose XP YP l.row.toRowW d [] (fun f vs => PySem.call f vs) := by
  refine Att.attach_call hn hdf fun w s₀ s₁ mg mb fa o pm cd doc a vs ns G Y ho hd hcd hmg hobj hints hlen hg => ?_
  obtain ⟨K, fd, sp, KX, hb, hsp, hF⟩ := F w mg fa _ Y G.T.g hmg
  exact law_callG KX G.T.g G.T.b G.T.builtins G.T.nolimit hg hobj hints (Nat.le_trans hlen hn2) hr hF hb (fun H hO hS => hsp H a ns hlen hO hS) fun H e s' => hCX H s₁ e s'
end L2

/-! Dh: any sequence walked; a def's promise told by its name, its call. -/
namespace L2
open PySem PySem.Spec PyProof.Rows Dz
section
variable {X : Cx} {tg : Expr}
def ItsK (K : PySem.W.Frag) : Ki → Addr → It
  | .l, a => Itl K a
  | .t, a => Itt K a
def iSeqU (K : PySem.W.Frag) (tl : TE) : TI := fun σ H R => tl σ H fun x H1 => ∃ k a, x = .ref a ∧ (∃ xs, SqK K H1 k a xs) ∧ R (ItsK K k a) H1
theorem pi_U {l : Expr} {tl : TE} (hl : PE X l tl) : PI X tg l (iSeqU X.K tl) := by
  refine ⟨fun pins s σ H R I h => ?_⟩
  refine thn (hl.run pins s σ H _ I h) fun v s1 ⟨x, H1, I1, r1, q1⟩ => ?_
  obtain ⟨k, a, e, ⟨xs, hq⟩, q⟩ := q1
  subst e
  cases r1
  cases k with
  | l =>
    obtain ⟨its, rv, p, hz⟩ := I1.list hq
    refine wpAny_pyIter_list p.isList ?_
    refine ⟨s1.heap.objs.size, [s1.heap.objs.size], _, _, H1, rfl, I1.kept (t' := s1.toks) fun b o e => Heap.get?_push_of_some _ e, turn_list a _, ⟨_, Heap.get?_push_size _ rfl, rfl, rfl⟩, fun b hb => ?_, q⟩
    obtain rfl : b = s1.heap.objs.size := by simpa using hb
    exact I1.fpOk (Nat.le_refl _) (I1.hok.fresh (Nat.le_refl _))
  | t =>
    obtain ⟨its, rv, p, hz⟩ := I1.tuple hq
    refine wpAny_pyIter_tuple (show s1.heap.IsTuple a its.toArray from p) ?_
    refine ⟨s1.heap.objs.size, [s1.heap.objs.size], _, _, H1, rfl, I1.kept (t' := s1.toks) fun b o e => Heap.get?_push_of_some _ e, turn_tuple a _, ⟨_, Heap.get?_push_size _ rfl, rfl, rfl⟩, fun b hb => ?_, q⟩
    obtain rfl : b = s1.heap.objs.size := by simpa using hb
    exact I1.fpOk (Nat.le_refl _) (I1.hok.fresh (Nat.le_refl _))
end
/-- the def x (parameters ps) keeps the promise sp -/
def Keeps (P : Program) (w : World) (K : PySem.W.Frag) (mg : Str → Option Value) (base : Heap) (x : Str) (ps : List Str) (k : Nat) (sp : Sp) : Prop :=
  ∃ f fd, FnG P w K mg base CX0 k f fd ps sp ∧ mg x = some (.ref f) ∧ PySem.W.keepIn K (.ref f) = true ∧ Binds K fd ps []
/-- the def x stands in the module -/
def Stands (K : PySem.W.Frag) (mg : Str → Option Value) (x : Str) (st : Stmt) (ps : List Str) : Prop :=
  ∃ f fd, FunD K x x (defArgs st) (defBody st) (defScope st) [] [] f fd ∧ mg x = some (.ref f) ∧ Binds K fd ps []
section
variable {X : Cx} {k j : Nat} {ps : List Str} {sp : Sp} {x : Str} {p pos : Pos} {e : Expr} {es : List Expr} {t : TA}
/-- f(e, ..) -/
theorem pe_callD (F : Keeps X.prog X.w X.K X.mg X.base x ps k sp) (hgd : X.A.guards = some []) (hr : Room j X.A) (hjk : k ≤ j) (hg : Gl X x)
    (ha : PA X (e :: es) t) (hx : Passes CX0 X E0 := by exact pass0) (hdb : (x == ("__debug__" : Str)) = false := by decide) (he : starEach (e :: es) X.env = (false, eval e X.env) :: starEach es X.env := by rfl) (hpl : (backTo pos (starEach es X.env)).any (·.1) = false := by rfl) :
    PE X (.Call (.Name x p) (e :: es) [] pos) (tCall sp [] E0 t) := by
  obtain ⟨f, fd, G, hm, hk, hb⟩ := F
  exact pe_callG G hgd (hr.mono hjk) hg hm hk hb .nil hx ha hdb he hpl
theorem pe_callD0 (F : Keeps X.prog X.w X.K X.mg X.base x ps k sp) (hgd : X.A.guards = some []) (hr : Room j X.A) (hjk : k ≤ j) (hg : Gl X x) (hx : Passes CX0 X E0 := by exact pass0) (hdb : (x == ("__debug__" : Str)) = false := by decide) :
    PE X (.Call (.Name x p) [] [] pos) (tCall sp [] E0 tNil) := by
  obtain ⟨f, fd, G, hm, hk, hb⟩ := F
  exact pe_callG0 G hgd (hr.mono hjk) hg hm hk hb .nil hx hdb
end
/-- THE RULE of a def: its text, its names, its body read -/
theorem Stands.keeps {P : Program} {w : World} {K : PySem.W.Frag} {mg : Str → Option Value} {base : Heap} {x : Str} {st : Stmt} {N ps : List Str} {k : Nat} {F : Dl.FS} {t : TS} (D : Stands K mg x st ps) (S : FnScope N ps (defScope st)) (len : ∀ xs P, F xs P → xs.length = ps.length)
    (hw : ∀ (f : Addr) (cdv : Value) (A : Around) (outer : List Env) (s : Shared) (H : Hp) (E : XK), A.guards = some [] → Room k (A.deeper (envOfC x (defScope st) s.heap.objs.size f cdv)) →
      PSs (cxOf CX0 P w K mg base N x (defScope st) f cdv A outer s H E) (defBody st) t)
    (hb : ∀ (Γ : Dl.Ga) (xs : List Dl.Vl) (P : Dl.D → Prop), Dl.argOk xs = true → F xs P → Dl.SD K Γ (Dl.slots N xs) t { nx := fun δ' => P .none ∧ Dl.Kept xs δ', rt := fun d δ' => P d ∧ Dl.Kept xs δ' }) :
    Keeps P w K mg base x ps (k + 1) (Dl.liftSp K F) := by
  obtain ⟨f, fd, Fd, hm, hbn⟩ := D
  refine ⟨f, fd, Fd.okG S (Dl.lift_len len) (fun cdv A outer s H vs Q E hgd hr h => ⟨t, hw f cdv A outer s H E hgd hr, Dl.fn_go h hb⟩), hm, Fd.kp, hbn⟩
end L2
namespace Dl
open PySem L2
section
variable {K : Fg} {Γ : Ga} {δ : List Sl} {te : TE}
theorem walk_K {k : Dz.Ki} {a : Addr} {vs : List V} {xs : List D} {G0 : Hp} (hq : SqK K G0 k a vs) (hd : DpAll K G0 vs xs) : WalkD K (ItsK K k a) G0 xs := by
  cases k with
  | l => exact walk_list hq hd
  | t => exact walk_tup hq hd
theorem ei_U {P : List D → Prop} (h : Ev K Γ δ te fun x => ∃ d k xs, x = .d d ∧ seqD d = some (k, xs) ∧ P xs) : EvI K Γ δ (iSeqU K te) P := fun σ H G R Q q =>
  h σ H G R _ fun v H1 G1 x R1 f1 r1 k1 ⟨d, k, xs, hx, hd, p⟩ => by
    subst hx
    obtain ⟨a, vs, rfl, h1, h2⟩ := seqD_rel r1 R1.sub hd
    exact ⟨k, a, rfl, ⟨vs, ex_k R1.sub h1⟩, q _ H1 G1 xs R1 f1 (walk_K h1 h2) p⟩
theorem ei_Ut {P : List D → Prop} (h : Ev K Γ δ te fun x => ∃ xs, x = .d (.tuple xs) ∧ P xs) : EvI K Γ δ (iSeqU K te) P := ei_U (h.imp fun x ⟨xs, e, p⟩ => ⟨_, _, xs, e, rfl, p⟩)
theorem ei_Ul {P : List D → Prop} (h : Ev K Γ δ te fun x => ∃ xs, x = .d (.list xs) ∧ P xs) : EvI K Γ δ (iSeqU K te) P := ei_U (h.imp fun x ⟨xs, e, p⟩ => ⟨_, _, xs, e, rfl, p⟩)
theorem ei_Uo {P : List D → Prop} (h : Ev K Γ δ te fun x => ∃ p xs, x = .own p xs ∧ P xs) : EvI K Γ δ (iSeqU K te) P :=
  ei_Ul (ev_frz (h.imp fun x ⟨p, xs, e, q⟩ => ⟨p, xs, e, xs, rfl, q⟩))
end
end Dl

/-! Di: small words for the steps. -/
namespace Dl
open PySem L2
theorem ifT {A B : Prop} (h : A) : if true = true then A else B := by rw [if_pos rfl]; exact h
theorem ifF {A B : Prop} (h : B) : if false = true then A else B := by rw [if_neg Bool.false_ne_true]; exact h
theorem ifTT {A B : Prop} (h : A) : if True then A else B := by rw [if_pos trivial]; exact h
theorem ifFF {A B : Prop} (h : B) : if False then A else B := by rw [if_neg fun z => z]; exact h
theorem ifB {b : Bool} {A B : Prop} (h : b = true → A) (h' : b = false → B) : if b = true then A else B := by
  cases b with
  | true => exact ifT (h rfl)
  | false => exact ifF (h' rfl)
theorem kept0 {xs : List Vl} {δ : List Sl} (h : srcs xs = []) : Kept xs δ := fun a c m => by
  have := (srcs_mem m).1
  rw [h] at this
  cases this
theorem ret_of {P : D → Prop} {xs : List Vl} {δ' : List Sl} {d : D} (h : P d) (k : Kept xs δ') : P d ∧ Kept xs δ' := ⟨h, k⟩
theorem ret_ok {P : D → Prop} {xs : List Vl} {δ' : List Sl} {d : D} (h : srcs xs = []) (hp : P d) : P d ∧ Kept xs δ' := ⟨hp, kept0 h⟩
/-- a tuple, a list of ints -/
abbrev tI (a : List Int) : D := .tuple (a.map .int)
abbrev lI (a : List Int) : D := .list (a.map .int)
theorem ev_isi2 {K : Fg} {Γ : Ga} {δ : List Sl} {P : Vl → Prop} {te : TE} {n : String} (m : Vl → Option Bool) (hm : ∀ x b, m x = some b → ∃ t, tyN x = some t ∧ kitB t n = some b) (h : Ev K Γ δ te fun x => ∃ b, m x = some b ∧ P (.d (.bool b))) :
    Ev K Γ δ (tCB (rIsi K) (tCons te (tCons (tC (.ty n)) tNil))) P :=
  ev_isi (h.imp fun x ⟨b, e, p⟩ => let ⟨t, e1, e2⟩ := hm x b e; ⟨t, b, e1, e2, p⟩)
def isIntV : Vl → Option Bool
  | .d .none => some false
  | .d (.bool _) => some true
  | .d (.int _) => some true
  | .d (.str _) => some false
  | .d (.list _) => some false
  | .d (.tuple _) => some false
  | _ => none
def isBoolV : Vl → Option Bool
  | .d .none => some false
  | .d (.bool _) => some true
  | .d (.int _) => some false
  | .d (.str _) => some false
  | .d (.list _) => some false
  | .d (.tuple _) => some false
  | _ => none
def isTupV : Vl → Option Bool
  | .d .none => some false
  | .d (.bool _) => some false
  | .d (.int _) => some false
  | .d (.str _) => some false
  | .d (.list _) => some false
  | .d (.tuple _) => some true
  | _ => none
def isStrV : Vl → Option Bool
  | .d .none => some false
  | .d (.bool _) => some false
  | .d (.int _) => some false
  | .d (.str _) => some true
  | .d (.list _) => some false
  | .d (.tuple _) => some false
  | _ => none
theorem isIntV_ok : ∀ x b, isIntV x = some b → ∃ t, tyN x = some t ∧ kitB t "int" = some b := by
  intro x b h
  cases x with
  | d d => cases d <;> cases h <;> exact ⟨_, rfl, by decide +kernel⟩
  | _ => cases h
theorem isBoolV_ok : ∀ x b, isBoolV x = some b → ∃ t, tyN x = some t ∧ kitB t "bool" = some b := by
  intro x b h
  cases x with
  | d d => cases d <;> cases h <;> exact ⟨_, rfl, by decide +kernel⟩
  | _ => cases h
theorem isTupV_ok : ∀ x b, isTupV x = some b → ∃ t, tyN x = some t ∧ kitB t "tuple" = some b := by
  intro x b h
  cases x with
  | d d => cases d <;> cases h <;> exact ⟨_, rfl, by decide +kernel⟩
  | _ => cases h
theorem isStrV_ok : ∀ x b, isStrV x = some b → ∃ t, tyN x = some t ∧ kitB t "str" = some b := by
  intro x b h
  cases x with
  | d d => cases d <;> cases h <;> exact ⟨_, rfl, by decide +kernel⟩
  | _ => cases h
section
variable {K : Fg} {Γ : Ga} {δ : List Sl} {P : Vl → Prop} {te : TE}
theorem ev_isInt (h : Ev K Γ δ te fun x => ∃ b, isIntV x = some b ∧ P (.d (.bool b))) : Ev K Γ δ (tCB (rIsi K) (tCons te (tCons (tC (.ty "int")) tNil))) P := ev_isi2 _ isIntV_ok h
theorem ev_isBool (h : Ev K Γ δ te fun x => ∃ b, isBoolV x = some b ∧ P (.d (.bool b))) : Ev K Γ δ (tCB (rIsi K) (tCons te (tCons (tC (.ty "bool")) tNil))) P := ev_isi2 _ isBoolV_ok h
theorem ev_isTup (h : Ev K Γ δ te fun x => ∃ b, isTupV x = some b ∧ P (.d (.bool b))) : Ev K Γ δ (tCB (rIsi K) (tCons te (tCons (tC (.ty "tuple")) tNil))) P := ev_isi2 _ isTupV_ok h
theorem ev_isStr (h : Ev K Γ δ te fun x => ∃ b, isStrV x = some b ∧ P (.d (.bool b))) : Ev K Γ δ (tCB (rIsi K) (tCons te (tCons (tC (.ty "str")) tNil))) P := ev_isi2 _ isStrV_ok h
/-- a, b, c = x, y, z -/
theorem sd_par3 {E : DE} {i j l : Nat} {tr : TA} (hij : i ≠ j) (hil : i ≠ l) (hjl : j ≠ l) (h : EvA K Γ δ tr fun xs => ∃ x y z s t u, xs = [x, y, z] ∧ x.sl = some s ∧ y.sl = some t ∧ z.sl = some u ∧ E.nx (((δ.set i s).set j t).set l u)) : SD K Γ δ (tPar3 i j l tr) E := fun σ H G R D L =>
  h σ H G R _ fun vs H' G' xs R' f r k ap ⟨x, y, z, s, t, u, hx, hs, ht, hu, q⟩ => by
    subst hx
    have sl_ads : ∀ {x : Vl} {s : Sl}, x.sl = some s → ∀ a, a ∈ s.ads → (∃ ys, x = .own a ys) ∨ (∃ ys, x = .dic a ys) := fun {x s} h a ha => by
      cases x with
      | d y => cases h; cases ha
      | own p ys => cases h; obtain rfl : a = p := by simpa [Sl.ads] using ha
                    exact .inl ⟨ys, rfl⟩
      | dic p ys => cases h; obtain rfl : a = p := by simpa [Sl.ads] using ha
                    exact .inr ⟨ys, rfl⟩
      | _ => cases h
    have nw : ∀ {x : Vl} {s : Sl}, x.sl = some s → Vok δ H x → ∀ a ∈ s.ads, H a = none := fun {x s} h ok a ha => by
      rcases sl_ads h a ha with ⟨ys, rfl⟩ | ⟨ys, rfl⟩
      · exact ok
      · exact ok
    have put : ∀ {σ1 : L2.St} {δ1 : List Sl} {x : Vl} {s : Sl} {v : V} (i : Nat), RelS K Γ σ1 H' G' δ1 → x.sl = some s → Vok δ H x → RelVl K H' G' v x → (∀ a ∈ s.ads, ∀ t ∈ δ1, a ∉ t.ads) → RelS K Γ (σ1.set i (some v)) H' G' (δ1.set i s) := fun {σ1 δ1 x s v} i R1 h ok rv ha => by
      cases x with
      | d y => cases h; exact R1.setD i rv
      | own p ys => cases h; exact R1.set i (fun y hy => by cases hy; exact rv) (R.new ok) ha
      | dic p ys => cases h; exact R1.set i (fun y hy => by cases hy; exact rv) (R.new ok) ha
      | _ => cases h
    cases r with
    | @cons v1 _ _ _ r1 r =>
      cases r with
      | @cons v2 _ _ _ r2 r =>
        cases r with
        | @cons v3 _ _ _ r3 r =>
          cases r
          have k1 := k x (by simp)
          have k2 := k y (by simp)
          have k3 := k z (by simp)
          have apart2 : ∀ a, ((∃ ys, x = .own a ys) ∨ (∃ ys, x = .dic a ys)) → ((∃ ys, y = .own a ys) ∨ (∃ ys, y = .dic a ys)) → False := fun a h1 h2 => by
            rcases h1 with ⟨ys, rfl⟩ | ⟨ys, rfl⟩
            · exact ap.1 y (by simp) a h2 rfl
            · exact ap.1 y (by simp) a h2 rfl
          have apart3 : ∀ a, ((∃ ys, x = .own a ys) ∨ (∃ ys, x = .dic a ys)) → ((∃ ys, z = .own a ys) ∨ (∃ ys, z = .dic a ys)) → False := fun a h1 h2 => by
            rcases h1 with ⟨ys, rfl⟩ | ⟨ys, rfl⟩
            · exact ap.1 z (by simp) a h2 rfl
            · exact ap.1 z (by simp) a h2 rfl
          have ap' : Apart [y, z] := by
            cases x with
            | own p ys => exact ap.2
            | dic p ys => exact ap.2
            | _ => exact ap
          have apart4 : ∀ a, ((∃ ys, y = .own a ys) ∨ (∃ ys, y = .dic a ys)) → ((∃ ys, z = .own a ys) ∨ (∃ ys, z = .dic a ys)) → False := fun a h1 h2 => by
            rcases h1 with ⟨ys, rfl⟩ | ⟨ys, rfl⟩
            · exact ap'.1 z (by simp) a h2 rfl
            · exact ap'.1 z (by simp) a h2 rfl
          have R1 := put i R' hs k1 r1 fun a ha t ht => R.nin (nw hs k1 a ha) t ht
          have R2 := put j R1 ht k2 r2 fun a ha t ht' => by
            rcases List.mem_or_eq_of_mem_set ht' with h | h
            · exact R.nin (nw ht k2 a ha) t h
            · subst h
              exact fun z => apart2 a (sl_ads hs a z) (sl_ads ht a ha)
          have R3 := put l R2 hu k3 r3 fun a ha t ht' => by
            rcases List.mem_or_eq_of_mem_set ht' with h | h
            · rcases List.mem_or_eq_of_mem_set h with h | h
              · exact R.nin (nw hu k3 a ha) t h
              · subst h
                exact fun z => apart3 a (sl_ads hs a z) (sl_ads hu a ha)
            · subst h
              exact fun z => apart4 a (sl_ads ht a z) (sl_ads hu a ha)
          exact ⟨v1, v2, v3, rfl, L.nx _ H' G' _ R3 f.g q⟩
end
/-! ### ends of steps -/
section
variable {a b c d : Vl} {s t u : Sl}
theorem post_d {x : D} {Q : D → Prop} (h : Q x) : ∃ y, Vl.d x = Vl.d y ∧ Q y := ⟨x, rfl, h⟩
theorem post_b {x : Bool} {Q : Bool → Prop} (h : Q x) : ∃ y, Vl.d (.bool x) = Vl.d (.bool y) ∧ Q y := ⟨x, rfl, h⟩
theorem post_i {x : Int} {Q : Int → Prop} (h : Q x) : ∃ y, Vl.d (.int x) = Vl.d (.int y) ∧ Q y := ⟨x, rfl, h⟩
theorem post_t {x : List D} {Q : List D → Prop} (h : Q x) : ∃ y, Vl.d (.tuple x) = Vl.d (.tuple y) ∧ Q y := ⟨x, rfl, h⟩
theorem post_l {x : List D} {Q : List D → Prop} (h : Q x) : ∃ y, Vl.d (.list x) = Vl.d (.list y) ∧ Q y := ⟨x, rfl, h⟩
theorem post_o {p : Addr} {x : List D} {Q : Addr → List D → Prop} (h : Q p x) : ∃ q y, Vl.own p x = Vl.own q y ∧ Q q y := ⟨p, x, rfl, h⟩
theorem post_sd {x : D} {Q : Sl → Prop} (h : Q (.d x)) : ∃ s, (Vl.d x).sl = some s ∧ Q s := ⟨_, rfl, h⟩
theorem post_so {p : Addr} {x : List D} {Q : Sl → Prop} (h : Q (.own p x)) : ∃ s, (Vl.own p x).sl = some s ∧ Q s := ⟨_, rfl, h⟩
theorem post_sk {p : Addr} {x : List (Key × D)} {Q : Sl → Prop} (h : Q (.dic p x)) : ∃ s, (Vl.dic p x).sl = some s ∧ Q s := ⟨_, rfl, h⟩
theorem post_m {m : Vl → Option Bool} {x : Vl} {b : Bool} {Q : Bool → Prop} (e : m x = some b) (h : Q b) : ∃ b, m x = some b ∧ Q b := ⟨b, e, h⟩
theorem post_all {xs : List Vl} {ds : List D} {Q : List D → Prop} (e : allD xs = some ds) (hl : ds.length ≤ 100000) (h : Q ds) : ∃ ds, allD xs = some ds ∧ ds.length ≤ 100000 ∧ Q ds := ⟨ds, e, hl, h⟩
theorem post_par {Q : Vl → Vl → Sl → Sl → Prop} (e1 : a.sl = some s) (e2 : b.sl = some t) (h : Q a b s t) : ∃ x y s t, [a, b] = [x, y] ∧ x.sl = some s ∧ y.sl = some t ∧ Q x y s t := ⟨a, b, s, t, rfl, e1, e2, h⟩
theorem post_par3 {Q : Vl → Vl → Vl → Sl → Sl → Sl → Prop} (e1 : a.sl = some s) (e2 : b.sl = some t) (e3 : c.sl = some u) (h : Q a b c s t u) : ∃ x y z s t u, [a, b, c] = [x, y, z] ∧ x.sl = some s ∧ y.sl = some t ∧ z.sl = some u ∧ Q x y z s t u := ⟨a, b, c, s, t, u, rfl, e1, e2, e3, h⟩
theorem post_call {xs : List Vl} {B : Prop} (e : argOk xs = true) (h : B) : argOk xs = true ∧ B := ⟨e, h⟩
theorem post_disp {x : D} {k : Key} {B : Key → Prop} (e : keyD x = some k) (h : B k) : ∃ c k, Vl.d x = Vl.d c ∧ keyD c = some k ∧ B k := ⟨x, k, rfl, e, h⟩
end
section
variable {K : Fg} {Γ : Ga} {δ : List Sl} {P : Vl → Prop} {te : TE} {t : TT} {g : TG} {vs : List Nat} {ti : TI}
theorem ud_U {f : Int → Int} {i : Int} (h : P (.d (.int (f i)))) : UnD K (rU fun i => .int (f i)) (.d (.int i)) P := fun H G v e r Q q => by
  obtain rfl := Dp.int_inv r
  exact ⟨i, rfl, q _ H G (.d (.int (f i))) (Grow.refl e) (.int _) (.inl ⟨_, rfl⟩) h⟩
theorem od_isN_n (h : P (.d (.bool true))) : OpD K rIsN (.d .none) (.d .none) P := od_isN h
theorem od_isN_t {x : List D} (h : P (.d (.bool false))) : OpD K rIsN (.d (.tuple x)) (.d .none) P := od_isN h
theorem od_isN_i {x : Int} (h : P (.d (.bool false))) : OpD K rIsN (.d (.int x)) (.d .none) P := od_isN h
theorem od_isN_l {x : List D} (h : P (.d (.bool false))) : OpD K rIsN (.d (.list x)) (.d .none) P := od_isN h
theorem od_noN_n (h : P (.d (.bool false))) : OpD K rNoN (.d .none) (.d .none) P := od_noN h
theorem od_noN_t {x : List D} (h : P (.d (.bool true))) : OpD K rNoN (.d (.tuple x)) (.d .none) P := od_noN h
theorem od_noN_i {x : Int} (h : P (.d (.bool true))) : OpD K rNoN (.d (.int x)) (.d .none) P := od_noN h
theorem od_noN_l {x : List D} (h : P (.d (.bool true))) : OpD K rNoN (.d (.list x)) (.d .none) P := od_noN h
theorem noA1 {i : Nat} {s : Sl} (h : δ[i]? = some s) (hs : s.ads = []) : NoA [i] δ := fun k hk t ht => by
  obtain rfl : k = i := by simpa using hk
  rw [h] at ht
  cases ht
  exact hs
theorem noA2 {i j : Nat} {s u : Sl} (h : δ[i]? = some s) (h' : δ[j]? = some u) (hs : s.ads = []) (hs' : u.ads = []) : NoA [i, j] δ := fun k hk t ht => by
  have hk' : k = i ∨ k = j := by simpa using hk
  rcases hk' with rfl | rfl
  · rw [h] at ht
    cases ht
    exact hs
  · rw [h'] at ht
    cases ht
    exact hs'
theorem wipe1 {i : Nat} : wipeD δ [i] = δ.set i .un := rfl
theorem wipe2 {i j : Nat} : wipeD δ [i, j] = (δ.set j .un).set i .un := rfl
/-- [e for x in xs]: the items ys, one by one -/
theorem ev_lcM (hv : NoA vs δ) (h : EvI K Γ δ ti fun xs => xs.length ≤ 100000 ∧ ∃ ys : List D, ys.length = xs.length ∧
      (∀ (i : Nat) (x y : D), xs[i]? = some x → ys[i]? = some y → GDv K Γ vs (wipeD δ vs) g x fun δ2 => Ev K Γ δ2 te fun z => z = .d y) ∧ ∀ p, P (.own p ys)) : Ev K Γ δ (tLc ti g tYes te vs) P :=
  ev_lc hv (fun σ H G R Q q => h σ H G R Q fun J H' G' xs R' f w ⟨hl, ys, e, hs, hp⟩ => q J H' G' xs R' f w ⟨fun i acc => acc = ys.take i, hl, by simp, fun i x acc hx hacc => by
    subst hacc
    have hi : i < ys.length := by rw [e]; exact (List.getElem?_eq_some_iff.mp hx).1
    have hy := List.getElem?_eq_getElem hi
    have g1 := hs i x _ hx hy
    intro v σ H G R r Q q
    refine g1 v σ H G R r Q fun σ' δ' R1 hl ho hod hn p => q σ' δ' R1 hl ho hod hn ?_
    intro σ2 H2 G2 R2 Q2 q2
    refine q2 true H2 G2 R2 Fr.refl (ifT (Ev.imp (show Ev K Γ δ' te fun z => z = .d ys[i] from p) fun z hz => ⟨_, hz, ?_⟩))
    show ys.take i ++ [ys[i]] = ys.take (i + 1)
    rw [List.take_add_one, hy]
    rfl, fun acc hacc p => by
      subst hacc
      rw [← e, List.take_length]
      exact hp p⟩)
/-- [e for x in xs if t]: what f keeps -/
theorem ev_lcF (hv : NoA vs δ) (h : EvI K Γ δ ti fun xs => xs.length ≤ 100000 ∧ ∃ f : D → Option D,
      (∀ (i : Nat) (x : D), xs[i]? = some x → GDv K Γ vs (wipeD δ vs) g x fun δ2 => EvT K Γ δ2 t fun b => if b = true then Ev K Γ δ2 te fun z => ∃ y, z = .d y ∧ f x = some y else f x = none) ∧ ∀ p, P (.own p (xs.filterMap f))) : Ev K Γ δ (tLc ti g t te vs) P :=
  ev_lc hv (fun σ H G R Q q => h σ H G R Q fun J H' G' xs R' fr w ⟨hl, f, hs, hp⟩ => q J H' G' xs R' fr w ⟨fun i acc => acc = (xs.take i).filterMap f, hl, by simp, fun i x acc hx hacc => by
    subst hacc
    have hi := (List.getElem?_eq_some_iff.mp hx).1
    have hx' : xs[i] = x := (List.getElem?_eq_some_iff.mp hx).2
    have et : xs.take (i + 1) = xs.take i ++ [x] := by
      rw [List.take_add_one, hx]
      rfl
    intro v σ H G R r Q q
    refine hs i x hx v σ H G R r Q fun σ' δ' R1 hl ho hod hn p => q σ' δ' R1 hl ho hod hn (p.imp fun b hb => ?_)
    cases b with
    | true =>
      rw [if_pos rfl] at hb ⊢
      refine hb.imp fun z ⟨y, hz, hf⟩ => ⟨y, hz, ?_⟩
      show (xs.take i).filterMap f ++ [y] = (xs.take (i + 1)).filterMap f
      rw [et, List.filterMap_append]
      simp [hf]
    | false =>
      rw [if_neg Bool.false_ne_true] at hb ⊢
      show (xs.take i).filterMap f = (xs.take (i + 1)).filterMap f
      rw [et, List.filterMap_append]
      simp [hb], fun acc hacc p => by
      subst hacc
      rw [List.take_length]
      exact hp p⟩)
/-- [e for x in xs]: each item as R tells it -/
theorem ev_lcR (hv : NoA vs δ) (h : EvI K Γ δ ti fun xs => xs.length ≤ 100000 ∧ ∃ R : Nat → D → Prop,
      (∀ (i : Nat) (x : D), xs[i]? = some x → GDv K Γ vs (wipeD δ vs) g x fun δ2 => Ev K Γ δ2 te fun z => ∃ y, z = .d y ∧ R i y) ∧
      ∀ (p : Addr) (ys : List D), ys.length = xs.length → (∀ (i : Nat) (y : D), ys[i]? = some y → R i y) → P (.own p ys)) : Ev K Γ δ (tLc ti g tYes te vs) P :=
  ev_lc hv (fun σ H G R Q q => h σ H G R Q fun J H' G' xs R' f w ⟨hl, Rr, hs, hp⟩ => q J H' G' xs R' f w ⟨fun i acc => acc.length = i ∧ ∀ (j : Nat) (y : D), acc[j]? = some y → Rr j y, hl, ⟨rfl, fun j y hy => by simp at hy⟩, fun i x acc hx hacc => by
    obtain ⟨h1, h2⟩ := hacc
    intro v σ H G R r Q q
    refine hs i x hx v σ H G R r Q fun σ' δ' R1 hl ho hod hn p => q σ' δ' R1 hl ho hod hn ?_
    intro σ2 H2 G2 R2 Q2 q2
    refine q2 true H2 G2 R2 Fr.refl (ifT (Ev.imp (show Ev K Γ δ' te fun z => ∃ y, z = .d y ∧ Rr i y from p) fun z ⟨y, hz, hy⟩ => ⟨y, hz, by rw [List.length_append, h1]; rfl, fun j y' hj => ?_⟩))
    by_cases hji : j < acc.length
    · rw [List.getElem?_append_left hji] at hj
      exact h2 j y' hj
    · have hlt := (List.getElem?_eq_some_iff.mp hj).1
      rw [List.length_append, List.length_singleton] at hlt
      have e : j = acc.length := by omega
      subst e
      rw [List.getElem?_append_right (Nat.le_refl _), Nat.sub_self] at hj
      cases hj
      rw [h1]
      exact hy, fun acc hacc p => hp p acc hacc.1 hacc.2⟩)
end
end Dl

/-! De: facts of data: their shape, their text, their likeness. -/
namespace Dl
open PySem L2
/-! ### shape -/
/-- no text, no dict in it, at most n deep -/
structure Shp (n : Nat) (d : D) : Prop where
  lay : d.canLay0 = true
  dep : d.depth ≤ n
theorem Shp.ok {n : Nat} {d : D} (h : Shp n d) (hn : n ≤ 64) : SeqAt.shaped d = true := by
  unfold SeqAt.shaped
  rw [h.lay, Bool.true_and]
  exact decide_eq_true (Nat.le_trans h.dep hn)
theorem Shp.up {n m : Nat} {d : D} (h : Shp n d) (hn : n ≤ m) : Shp m d := ⟨h.lay, Nat.le_trans h.dep hn⟩
theorem shp_int (n : Nat) (i : Int) : Shp n (.int i) := ⟨by rw [PyData.canLay0], by rw [PyData.depth]; exact Nat.zero_le _⟩
theorem shp_bool (n : Nat) (i : Bool) : Shp n (.bool i) := ⟨by rw [PyData.canLay0], by rw [PyData.depth]; exact Nat.zero_le _⟩
theorem shp_none (n : Nat) : Shp n .none := ⟨by rw [PyData.canLay0], by rw [PyData.depth]; exact Nat.zero_le _⟩
theorem shp_all {n : Nat} : ∀ {ds : List D}, (∀ d ∈ ds, Shp n d) → PyData.canLayAll0 ds = true ∧ PyData.depthAll ds ≤ n
  | [], _ => ⟨by rw [PyData.canLayAll0], by rw [PyData.depthAll]; exact Nat.zero_le _⟩
  | d :: ds, h => by
    obtain ⟨h1, h2⟩ := shp_all (ds := ds) fun x hx => h x (by simp [hx])
    have hd := h d (by simp)
    exact ⟨by rw [PyData.canLayAll0, hd.lay, h1]; rfl, by rw [PyData.depthAll]; exact Nat.max_le.mpr ⟨hd.dep, h2⟩⟩
theorem shp_tup {n : Nat} {ds : List D} (h : ∀ d ∈ ds, Shp n d) : Shp (n + 1) (.tuple ds) := by
  obtain ⟨h1, h2⟩ := shp_all h
  exact ⟨by rw [PyData.canLay0]; exact h1, by rw [PyData.depth]; omega⟩
theorem shp_lst {n : Nat} {ds : List D} (h : ∀ d ∈ ds, Shp n d) : Shp (n + 1) (.list ds) := by
  obtain ⟨h1, h2⟩ := shp_all h
  exact ⟨by rw [PyData.canLay0]; exact h1, by rw [PyData.depth]; omega⟩
theorem shp_tI (a : List Int) : Shp 1 (tI a) := shp_tup fun d h => by
  obtain ⟨i, _, rfl⟩ := List.mem_map.mp h
  exact shp_int 0 i
theorem shp_lI (a : List Int) : Shp 1 (lI a) := shp_lst fun d h => by
  obtain ⟨i, _, rfl⟩ := List.mem_map.mp h
  exact shp_int 0 i
/-! ### the text -/
/-- at most n deep, a text of at most w signs -/
structure Shw (n w : Nat) (d : D) : Prop where
  ok : d.showable = true
  dep : d.depth ≤ n
  len : d.shown.length ≤ w
theorem Shw.up {n m w v : Nat} {d : D} (h : Shw n w d) (hn : n ≤ m) (hw : w ≤ v) : Shw m v d := ⟨h.ok, Nat.le_trans h.dep hn, Nat.le_trans h.len hw⟩
theorem shw_int (n k : Nat) (i : Int) (hk : 0 < k) (hk2 : k ≤ 450) (h : i.natAbs < 10 ^ k) : Shw n (k + 1) (.int i) := by
  refine ⟨?_, by rw [PyData.depth]; exact Nat.zero_le _, ?_⟩
  · rw [PyData.showable]
    refine decide_eq_true ?_
    have h1 : (10 : Nat) ^ k ≤ 2 ^ (k * 4) := by
      rw [Nat.mul_comm, Nat.pow_mul]
      exact Nat.pow_le_pow_left (by decide) k
    have h2 : i.natAbs < 2 ^ 1920 := by
      exact Nat.lt_of_lt_of_le (Nat.lt_of_lt_of_le h h1) (Nat.pow_le_pow_right (by decide) (by clear h h1; omega))
    by_cases h0 : i.natAbs = 0
    · rw [h0]; decide
    · exact (Nat.log2_lt h0).mpr h2
  · rw [PyData.shown]
    show (Str.ofString (toString i)).length ≤ k + 1
    rw [ofString_length]
    exact int_text_length_le10 hk h
theorem shw_none (n : Nat) : Shw n 4 .none := ⟨by rw [PyData.showable], by rw [PyData.depth]; exact Nat.zero_le _, by rw [PyData.shown]; decide +kernel⟩
theorem shw_bool (n : Nat) (b : Bool) : Shw n 5 (.bool b) := ⟨by rw [PyData.showable], by rw [PyData.depth]; exact Nat.zero_le _, by rw [PyData.shown]; cases b <;> decide +kernel⟩
theorem shw_all {n w : Nat} : ∀ {ds : List D}, (∀ d ∈ ds, Shw n w d) → PyData.showableAll ds = true ∧ PyData.depthAll ds ≤ n ∧ (PyData.shownAll ds).length = ds.length ∧ ((PyData.shownAll ds).map (·.length)).sum ≤ w * ds.length
  | [], _ => ⟨by rw [PyData.showableAll], by rw [PyData.depthAll]; exact Nat.zero_le _, by rw [PyData.shownAll]; rfl, by rw [PyData.shownAll]; exact Nat.zero_le _⟩
  | d :: ds, h => by
    obtain ⟨h1, h2, h3, h4⟩ := shw_all (ds := ds) fun x hx => h x (by simp [hx])
    have hd := h d (by simp)
    refine ⟨by rw [PyData.showableAll, hd.ok, h1]; rfl, by rw [PyData.depthAll]; exact Nat.max_le.mpr ⟨hd.dep, h2⟩, by rw [PyData.shownAll, List.length_cons, h3, List.length_cons], ?_⟩
    rw [PyData.shownAll, List.map_cons, List.sum_cons, List.length_cons, Nat.mul_add, Nat.mul_one]
    have := hd.len
    omega
theorem textFrom_le : ∀ (ts : List Str) (k : Nat) (acc : Str), (textFrom k acc ts).length ≤ acc.length + (ts.map (·.length)).sum + 2 * ts.length
  | [], k, acc => by show acc.length ≤ _; omega
  | t :: r, k, acc => by
    have := textFrom_le r (k + 1) (acc ++ (if k > 0 then ", " else "" : String) ++ t)
    rw [Str.length_append, Str.length_append] at this
    have e : (Str.ofString (if k > 0 then ", " else "")).length ≤ 2 := by split <;> decide +kernel
    rw [List.map_cons, List.sum_cons, List.length_cons]
    show (textFrom (k + 1) (acc ++ (if k > 0 then ", " else "" : String) ++ t) r).length ≤ _
    omega
theorem shw_lst {n w : Nat} {ds : List D} (h : ∀ d ∈ ds, Shw n w d) : Shw (n + 1) ((w + 2) * ds.length + 3) (.list ds) := by
  obtain ⟨h1, h2, h3, h4⟩ := shw_all h
  refine ⟨by rw [PyData.showable]; exact h1, by rw [PyData.depth]; omega, ?_⟩
  rw [PyData.shown]
  unfold listText
  rw [Str.length_append]
  have := textFrom_le (PyData.shownAll ds) 0 "["
  rw [h3] at this
  have e1 : (Str.ofString "[").length = 1 := by decide +kernel
  have e2 : (Str.ofString "]").length = 1 := by decide +kernel
  rw [Nat.add_mul]
  omega
theorem shw_tup {n w : Nat} {ds : List D} (h : ∀ d ∈ ds, Shw n w d) : Shw (n + 1) ((w + 2) * ds.length + 3) (.tuple ds) := by
  obtain ⟨h1, h2, h3, h4⟩ := shw_all h
  refine ⟨by rw [PyData.showable]; exact h1, by rw [PyData.depth]; omega, ?_⟩
  rw [PyData.shown]
  unfold tupleText
  rw [Str.length_append, Str.length_append]
  have := StrLaws.join_length_le ", " (PyData.shownAll ds)
  rw [h3] at this
  have e1 : (Str.ofString "(").length = 1 := by decide +kernel
  have e2 : (Str.ofString (if (PyData.shownAll ds).length == 1 then ",)" else ")")).length ≤ 2 := by split <;> decide +kernel
  have e3 : (Str.ofString ", ").length = 2 := by decide +kernel
  rw [e3] at this
  rw [Nat.add_mul]
  omega
theorem cd_reprS {K : Fg} {P : Vl → Prop} {x : Vl} {d : D} {n w : Nat} (hx : x.dat = some d) (hs : Shw n w d) (hn : n ≤ 50) (hw : w ≤ 1000000) (hr : (∃ ds, d = .list ds) ∨ ∃ ds, d = .tuple ds) (h : P (.d (.str d.shown))) : CaD K (rRepr K) [x] P :=
  cd_repr hx hr hs.ok (Nat.le_trans hs.dep hn) (Nat.le_trans hs.len (Nat.le_trans hw (by decide))) h
/-! ### likeness -/
theorem eqvAll_ints : ∀ a b : List Int, PyData.eqvAll (a.map PyData.int) (b.map PyData.int) = decide (a = b)
  | [], [] => by rw [List.map_nil, PyData.eqvAll]; rfl
  | [], _ :: _ => by rw [decide_eq_false (by simp), List.map_nil, List.map_cons, PyData.eqvAll]
  | _ :: _, [] => by rw [decide_eq_false (by simp), List.map_nil, List.map_cons, PyData.eqvAll]
  | x :: a, y :: b => by
    rw [List.map_cons, List.map_cons, PyData.eqvAll, PyData.eqv, eqvAll_ints a b]
    by_cases h : x = y
    · subst h
      by_cases h2 : a = b
      · subst h2; simp
      · simp [h2]
    · simp [h]
theorem eqv_tI (a b : List Int) : PyData.eqv (tI a) (tI b) = decide (a = b) := by rw [PyData.eqv, eqvAll_ints]
theorem eqv_lI (a b : List Int) : PyData.eqv (lI a) (lI b) = decide (a = b) := by rw [PyData.eqv, eqvAll_ints]
end Dl

namespace Lw
/-! the part vectors: what each def keeps -/
open PySem PySem.Spec PyProof.Rows L2 Dl
/-! ### vectors -/
def F_is_whole : FS := fun xs P => ∃ i : Int, xs = [.d (.int i)] ∧ P (.bool true)
abbrev N_is_whole : List Str := ["value"]
def t_is_whole (K : Fg) : TS := (tRet (tAndV (tCB (rIsi K) (tCons (tVar 0) (tCons (tC (.ty "int")) tNil))) (tNotV (tCB (rIsi K) (tCons (tVar 0) (tCons (tC (.ty "bool")) tNil))))))
def F_is_vector : FS := fun xs P => ∃ (n : Int) (v : List Int), xs = [.d (.int n), .d (tI v)] ∧ v.length ≤ 1000 ∧ P (.bool (decide ((v.length : Int) = n) && v.all (fun x => decide (0 ≤ x))))
abbrev N_is_vector : List Str := ["many", "value", "one"]
def t_is_vector (K : Fg) : TS := (tRet (tAndV (tCB (rIsi K) (tCons (tVar 1) (tCons (tC (.ty "tuple")) tNil))) (tAndV (tOp (rEqU K) (tCB (rLenU K) (tCons (tVar 1) tNil)) (tVar 0)) (tCB (rAll K) (tCons (tLc (iSeqU K (tVar 1)) (gName 2) tYes (tAndV (tCall (liftSp K F_is_whole) [] E0 (tCons (tVar 2) tNil)) (tOp (rI0 fun i j => .bl (decide (i ≥ j))) (tVar 2) (tC (.int 0)))) [2]) tNil)))))
def F_nothing : FS := fun xs P => ∃ n : Nat, xs = [.d (.int n)] ∧ n ≤ 1000 ∧ P (tI (List.replicate n 0))
abbrev N_nothing : List Str := ["many"]
def t_nothing (K : Fg) : TS := (tRet (tOp (rMulU K) (tTup (tCons (tC (.int 0)) tNil)) (tVar 0)))
def addv (a b : List Int) : List Int := List.zipWith (· + ·) a b
def subv (a b : List Int) : List Int := List.zipWith (· - ·) a b
def F_added : FS := fun xs P => ∃ a b : List Int, xs = [.d (tI a), .d (tI b)] ∧ a.length = b.length ∧ a.length ≤ 1000 ∧ P (tI (addv a b))
abbrev N_added : List Str := ["one", "other", "a", "b"]
def t_added (K : Fg) : TS := (tRet (tCB (rTup1 K) (tCons (tLc (iZipK K true (tCons (tVar 0) (tCons (tVar 1) tNil))) (gTup K 2 (gCons (gName 2) (gCons (gName 3) gNil))) tYes (tOp (rAddU K) (tVar 2) (tVar 3)) [2, 3]) tNil)))
def F_taken_off : FS := fun xs P => ∃ a b : List Int, xs = [.d (tI a), .d (tI b)] ∧ a.length = b.length ∧ a.length ≤ 1000 ∧ P (tI (subv a b))
abbrev N_taken_off : List Str := ["one", "other", "a", "b"]
def t_taken_off (K : Fg) : TS := (tRet (tCB (rTup1 K) (tCons (tLc (iZipK K true (tCons (tVar 0) (tCons (tVar 1) tNil))) (gTup K 2 (gCons (gName 2) (gCons (gName 3) gNil))) tYes (tOp (rI0 fun i j => .int (i - j)) (tVar 2) (tVar 3)) [2, 3]) tNil)))
def mulv (a : List Int) (k : Int) : List Int := a.map (· * k)
def F_times : FS := fun xs P => ∃ (a : List Int) (k : Int), xs = [.d (tI a), .d (.int k)] ∧ (∀ x ∈ a, CMul x k ∨ CMulW x k) ∧ a.length ≤ 1000 ∧ P (tI (mulv a k))
abbrev N_times : List Str := ["one", "many", "a"]
def t_times (K : Fg) : TS := (tRet (tCB (rTup1 K) (tCons (tLc (iSeqU K (tVar 0)) (gName 2) tYes (tOp (rMulU K) (tVar 2) (tVar 1)) [2]) tNil)))
theorem mapD_get {α β : Type} {f : α → β} {l : List α} {i : Nat} {x : β} (h : (l.map f)[i]? = some x) : ∃ a, l[i]? = some a ∧ x = f a := by
  rw [List.getElem?_map] at h
  cases q : l[i]? with
  | none => rw [q] at h; cases h
  | some a =>
    rw [q] at h
    exact ⟨a, rfl, (Option.some.inj h).symm⟩
theorem zipI_get : ∀ {a b : List Int} {i : Nat} {x : D}, (zipD (a.map .int) (b.map .int))[i]? = some x → ∃ u v, a[i]? = some u ∧ b[i]? = some v ∧ x = .tuple [.int u, .int v]
  | [], _, _, _, h => by simp [zipD] at h
  | _ :: _, [], _, _, h => by simp [zipD] at h
  | u :: a, v :: b, 0, x, h => ⟨u, v, rfl, rfl, (Option.some.inj h).symm⟩
  | u :: a, v :: b, i + 1, x, h => zipI_get (a := a) (b := b) (i := i) h
section
variable {K : Fg} {Γ : Ga} {xs : List Vl} {P : D → Prop}
theorem d_is_whole (ha : argOk xs = true) (h : F_is_whole xs P) : SD K Γ (slots N_is_whole xs) (t_is_whole K) { nx := fun δ' => P .none ∧ Kept xs δ', rt := fun d δ' => P d ∧ Kept xs δ' } := by
  obtain ⟨i, rfl, hP⟩ := h
  show SD K Γ [.d (.int i)] _ _
  unfold t_is_whole
  repeat' (first|(with_reducible first|refine sd_ret ?_|refine ev_andV ?_|refine ev_notV ?_|refine ev_isInt ?_|refine ev_isBool ?_|refine ifT ?_|refine post_d ?_|refine post_b ?_)|((with_reducible apply ev_v);exact rfl)|((with_reducible apply post_m);exact rfl)|((with_reducible apply ret_ok);exact rfl)|simp only [List.set_cons_zero, List.set_cons_succ, Bool.not_true, Bool.not_false])
  exact hP
theorem d_is_vector (ha : argOk xs = true) (h : F_is_vector xs P) : SD K Γ (slots N_is_vector xs) (t_is_vector K) { nx := fun δ' => P .none ∧ Kept xs δ', rt := fun d δ' => P d ∧ Kept xs δ' } := by
  obtain ⟨n, v, rfl, hl, hP⟩ := h
  show SD K Γ [.d (.int n), .d (tI v), .un] _ _
  unfold t_is_vector tI
  repeat' (first|(with_reducible first|refine sd_ret ?_|refine ev_andV ?_|refine ev_isTup ?_|refine ev_op ?_|refine ev_cb1 ?_|refine ea_cons ?_|refine ea_nil ?_|refine ifT ?_|refine od_eqi ?_|refine cd_lent ?_|refine post_b ?_)|((with_reducible apply ev_v);exact rfl)|((with_reducible apply post_m);exact rfl)|simp only [List.set_cons_zero, List.set_cons_succ, Bool.not_true, Bool.not_false])
  refine ifB (fun h1 => ?_) (fun h1 => ?_)
  · repeat' (first|(with_reducible first|refine ev_cb1 ?_|refine ea_cons ?_))
    refine ev_lcM (noA1 rfl rfl) (ei_Ut ?_)
    repeat' (first|(with_reducible first|refine post_t ?_)|((with_reducible apply ev_v);exact rfl))
    refine ⟨by simp; omega, (v.map fun x => decide (0 ≤ x)).map .bool, by simp, fun i x y hx hy => ?_, fun p => ?_⟩
    · obtain ⟨a, h2, rfl⟩ := mapD_get hx
      obtain ⟨b, h3, rfl⟩ := mapD_get hy
      obtain ⟨a', h4, rfl⟩ := mapD_get h3
      rw [h2] at h4
      cases h4
      repeat' (first|(with_reducible first|refine ev_andV ?_|refine ev_call ?_|refine ea_cons ?_|refine ea_nil ?_)|((with_reducible apply ev_v);exact rfl)|((with_reducible apply post_call);exact rfl)|((with_reducible apply gv_name);exact (by simp)))
      refine ⟨a, rfl, ?_⟩
      repeat' (first|(with_reducible first|refine ev_op ?_|refine ev_ci ?_|refine ifT ?_|refine od_I0b ?_|refine post_b ?_)|((with_reducible apply ev_v);exact rfl)|simp only [List.set_cons_zero, List.set_cons_succ, Bool.not_true, Bool.not_false])
      all_goals rfl
    · repeat' (first|(with_reducible first|refine ea_nil ?_))
      refine cd_all (bs := v.map fun x => decide (0 ≤ x)) rfl ?_
      repeat' (first|(with_reducible first|refine post_d ?_)|((with_reducible apply ret_ok);exact rfl))
      have e : decide (((v.map PyData.int).length : Int) = n) = decide ((v.length : Int) = n) := by rw [List.length_map]
      rw [e] at h1
      rw [h1, Bool.true_and] at hP
      rw [List.all_map]
      exact hP
  · repeat' (first|(with_reducible first|refine post_d ?_)|((with_reducible apply ret_ok);exact rfl))
    have e : decide (((v.map PyData.int).length : Int) = n) = decide ((v.length : Int) = n) := by rw [List.length_map]
    rw [e] at h1
    rw [h1, Bool.false_and] at hP
    exact hP
theorem d_nothing (ha : argOk xs = true) (h : F_nothing xs P) : SD K Γ (slots N_nothing xs) (t_nothing K) { nx := fun δ' => P .none ∧ Kept xs δ', rt := fun d δ' => P d ∧ Kept xs δ' } := by
  obtain ⟨n, rfl, hl, hP⟩ := h
  show SD K Γ [.d (.int n)] _ _
  unfold t_nothing
  repeat' (first|(with_reducible first|refine sd_ret ?_|refine ev_op ?_|refine ev_tup ?_|refine ea_cons ?_|refine ea_nil ?_|refine ev_ci ?_)|((with_reducible apply ev_v);exact rfl)|((with_reducible apply post_all);exact rfl;exact Nat.le_of_ble_eq_true rfl)|simp only [List.set_cons_zero, List.set_cons_succ, Bool.not_true, Bool.not_false])
  refine od_mult (by omega) (by omega) (by decide) ?_
  repeat' (first|(with_reducible first|refine post_d ?_)|((with_reducible apply ret_ok);exact rfl))
  have e : (List.replicate (n : Int).toNat [PyData.int 0]).flatten = (List.replicate n (0 : Int)).map .int := by
    rw [Int.toNat_natCast]
    clear hl hP ha
    induction n with
    | zero => rfl
    | succ n ih => rw [List.replicate_succ, List.flatten_cons, ih]; rfl
  show P (.tuple (List.replicate (n : Int).toNat [PyData.int 0]).flatten)
  rw [e]
  exact hP
theorem d_added (ha : argOk xs = true) (h : F_added xs P) : SD K Γ (slots N_added xs) (t_added K) { nx := fun δ' => P .none ∧ Kept xs δ', rt := fun d δ' => P d ∧ Kept xs δ' } := by
  obtain ⟨a, b, rfl, hl, hl', hP⟩ := h
  show SD K Γ [.d (tI a), .d (tI b), .un, .un] _ _
  unfold t_added tI
  repeat' (first|(with_reducible first|refine sd_ret ?_|refine ev_cb1 ?_|refine ea_cons ?_)|simp only [List.set_cons_zero, List.set_cons_succ, Bool.not_true, Bool.not_false])
  refine ev_lcM (noA2 rfl rfl rfl rfl) (ei_zipK ?_)
  repeat' (first|(with_reducible first|refine ea_cons ?_|refine ea_nil ?_)|((with_reducible apply ev_v);exact rfl)|simp only [List.set_cons_zero, List.set_cons_succ, Bool.not_true, Bool.not_false])
  refine ⟨_, _, _, _, _, _, rfl, rfl, rfl, fun _ => by simp [hl], by rw [zipD_len]; simp; omega, (addv a b).map .int, by rw [zipD_len]; simp [addv], fun i x y hx hy => ?_, fun p => ?_⟩
  · obtain ⟨u, v, h1, h2, rfl⟩ := zipI_get hx
    obtain ⟨z, h3, rfl⟩ := mapD_get hy
    repeat' (first|(with_reducible first|refine ev_op ?_|refine gvs_cons ?_|refine gvs_nil ?_|refine od_addi ?_)|((with_reducible apply ev_v);exact rfl)|((with_reducible apply gv_tup);exact rfl)|((with_reducible apply gv_name);exact (by simp)))
    have e : z = u + v := by
      unfold addv at h3
      rw [List.getElem?_zipWith, h1, h2] at h3
      exact (Option.some.inj h3).symm
    rw [e]
  · repeat' (first|(with_reducible first|refine ea_nil ?_|refine post_d ?_)|((with_reducible apply cd_tupl);exact rfl)|((with_reducible apply ret_ok);exact rfl))
    exact hP
theorem d_taken_off (ha : argOk xs = true) (h : F_taken_off xs P) : SD K Γ (slots N_taken_off xs) (t_taken_off K) { nx := fun δ' => P .none ∧ Kept xs δ', rt := fun d δ' => P d ∧ Kept xs δ' } := by
  obtain ⟨a, b, rfl, hl, hl', hP⟩ := h
  show SD K Γ [.d (tI a), .d (tI b), .un, .un] _ _
  unfold t_taken_off tI
  repeat' (first|(with_reducible first|refine sd_ret ?_|refine ev_cb1 ?_|refine ea_cons ?_)|simp only [List.set_cons_zero, List.set_cons_succ, Bool.not_true, Bool.not_false])
  refine ev_lcM (noA2 rfl rfl rfl rfl) (ei_zipK ?_)
  repeat' (first|(with_reducible first|refine ea_cons ?_|refine ea_nil ?_)|((with_reducible apply ev_v);exact rfl)|simp only [List.set_cons_zero, List.set_cons_succ, Bool.not_true, Bool.not_false])
  refine ⟨_, _, _, _, _, _, rfl, rfl, rfl, fun _ => by simp [hl], by rw [zipD_len]; simp; omega, (subv a b).map .int, by rw [zipD_len]; simp [subv], fun i x y hx hy => ?_, fun p => ?_⟩
  · obtain ⟨u, v, h1, h2, rfl⟩ := zipI_get hx
    obtain ⟨z, h3, rfl⟩ := mapD_get hy
    repeat' (first|(with_reducible first|refine ev_op ?_|refine gvs_cons ?_|refine gvs_nil ?_|refine od_I0i ?_)|((with_reducible apply ev_v);exact rfl)|((with_reducible apply gv_tup);exact rfl)|((with_reducible apply gv_name);exact (by simp)))
    have e : z = u - v := by
      unfold subv at h3
      rw [List.getElem?_zipWith, h1, h2] at h3
      exact (Option.some.inj h3).symm
    rw [e]
  · repeat' (first|(with_reducible first|refine ea_nil ?_|refine post_d ?_)|((with_reducible apply cd_tupl);exact rfl)|((with_reducible apply ret_ok);exact rfl))
    exact hP
theorem d_times (ha : argOk xs = true) (h : F_times xs P) : SD K Γ (slots N_times xs) (t_times K) { nx := fun δ' => P .none ∧ Kept xs δ', rt := fun d δ' => P d ∧ Kept xs δ' } := by
  obtain ⟨a, k, rfl, hc, hl', hP⟩ := h
  show SD K Γ [.d (tI a), .d (.int k), .un] _ _
  unfold t_times tI
  repeat' (first|(with_reducible first|refine sd_ret ?_|refine ev_cb1 ?_|refine ea_cons ?_)|simp only [List.set_cons_zero, List.set_cons_succ, Bool.not_true, Bool.not_false])
  refine ev_lcM (noA1 rfl rfl) (ei_Ut ?_)
  repeat' (first|(with_reducible first|refine post_t ?_)|((with_reducible apply ev_v);exact rfl))
  refine ⟨by simp; omega, (mulv a k).map .int, by simp [mulv], fun i x y hx hy => ?_, fun p => ?_⟩
  · obtain ⟨u, h1, rfl⟩ := mapD_get hx
    obtain ⟨z, h3, rfl⟩ := mapD_get hy
    repeat' (first|(with_reducible first|refine ev_op ?_)|((with_reducible apply ev_v);exact rfl)|((with_reducible apply gv_name);exact (by simp)))
    refine od_muli (hc u (List.mem_of_getElem? h1)) ?_
    have e : z = u * k := by
      unfold mulv at h3
      rw [List.getElem?_map, h1] at h3
      exact (Option.some.inj h3).symm
    rw [e]
  · repeat' (first|(with_reducible first|refine ea_nil ?_|refine post_d ?_)|((with_reducible apply cd_tupl);exact rfl)|((with_reducible apply ret_ok);exact rfl))
    exact hP
end
end Lw

/-! Km: machines as data, tokens counted on one wire. -/
namespace Lw
open PySem PySem.Spec PyProof.Rows L2 Dl
/-! ### vectors -/
theorem addv_assoc : ∀ a b c : List Int, addv (addv a b) c = addv a (addv b c)
  | [], _, _ => by simp [addv]
  | _ :: _, [], _ => by simp [addv]
  | _ :: _, _ :: _, [] => by simp [addv]
  | x :: a, y :: b, z :: c => by
    show (x + y + z) :: addv (addv a b) c = (x + (y + z)) :: addv a (addv b c)
    rw [addv_assoc a b c, Int.add_assoc]
theorem addv_len {a b : List Int} (h : a.length = b.length) : (addv a b).length = b.length := by simp [addv, h]
theorem addv_zero : ∀ {n : Nat} {a : List Int}, a.length = n → addv (List.replicate n 0) a = a
  | 0, [], _ => rfl
  | n + 1, x :: a, h => by
    rw [List.replicate_succ]
    show (0 + x) :: addv (List.replicate n 0) a = x :: a
    rw [addv_zero (n := n) (by simpa using h), Int.zero_add]
theorem addv_zero_r : ∀ {n : Nat} {a : List Int}, a.length = n → addv a (List.replicate n 0) = a
  | 0, [], _ => rfl
  | n + 1, x :: a, h => by
    rw [List.replicate_succ]
    show (x + 0) :: addv a (List.replicate n 0) = x :: a
    rw [addv_zero_r (n := n) (by simpa using h), Int.add_zero]
/-! ### machines -/
abbrev Step := Option (Nat × List Int)
abbrev stepD : Step → D
  | none => .none
  | some (m, g) => .tuple [.int m, tI g]
structure Mach where
  ins : Nat
  outs : Nat
  steps : List (List Step)
abbrev lineD (l : List Step) : D := .tuple (l.map stepD)
def machD (m : Mach) : D := .tuple [.int m.ins, .int m.outs, .tuple (m.steps.map lineD)]
structure MachOk (m : Mach) : Prop where
  ins : m.ins ≤ 40
  outs : m.outs ≤ 400
  pos : 0 < m.steps.length
  most : m.steps.length ≤ 150
  wide : ∀ l ∈ m.steps, l.length = m.ins
  step : ∀ l ∈ m.steps, ∀ b g, some (b, g) ∈ l → b < m.steps.length ∧ g.length = m.outs ∧ ∀ x ∈ g, 0 ≤ x ∧ x ≤ 9999
def Mach.st (m : Mach) (a w : Nat) : Step := (m.steps.getD a []).getD w none
theorem MachOk.st {m : Mach} (k : MachOk m) {a w b : Nat} {g : List Int} (h : m.st a w = some (b, g)) : b < m.steps.length ∧ g.length = m.outs ∧ ∀ x ∈ g, 0 ≤ x ∧ x ≤ 9999 := by
  unfold Mach.st at h
  rw [List.getD_eq_getElem?_getD, List.getD_eq_getElem?_getD] at h
  cases q : m.steps[a]? with
  | none => rw [q] at h; simp at h
  | some l =>
    rw [q, Option.getD_some] at h
    cases q2 : l[w]? with
    | none => rw [q2] at h; simp at h
    | some s =>
      rw [q2, Option.getD_some] at h
      subst h
      exact k.step l (List.mem_of_getElem? q) b g (List.mem_of_getElem? q2)
/-- given ahead -/
def plus (g : List Int) (p : Nat × List Int) : Nat × List Int := (p.1, addv g p.2)
theorem plus_plus (g h : List Int) (p : Nat × List Int) : plus g (plus h p) = plus (addv g h) p := by
  unfold plus
  rw [addv_assoc]
/-- n tokens on the wire w, from the mode a -/
def go (m : Mach) (w : Nat) : Nat → Nat → Step
  | 0, a => some (a, List.replicate m.outs 0)
  | n + 1, a => (m.st a w).bind fun p => (go m w n p.1).map (plus p.2)
theorem go_len {m : Mach} (k : MachOk m) {w : Nat} : ∀ {n a b : Nat} {g : List Int}, a < m.steps.length → go m w n a = some (b, g) → b < m.steps.length ∧ g.length = m.outs
  | 0, a, b, g, ha, h => by
    unfold go at h
    cases h
    exact ⟨ha, by simp⟩
  | n + 1, a, b, g, ha, h => by
    unfold go at h
    cases q : m.st a w with
    | none => rw [q] at h; cases h
    | some p =>
      obtain ⟨c, g0⟩ := p
      rw [q, Option.bind_some] at h
      obtain ⟨hc, hg, _⟩ := k.st q
      cases q2 : go m w n c with
      | none => rw [q2] at h; cases h
      | some r =>
        obtain ⟨d, g1⟩ := r
        rw [q2] at h
        cases h
        obtain ⟨h1, h2⟩ := go_len k (n := n) hc q2
        exact ⟨h1, by
          show (addv g0 g1).length = _
          rw [addv_len (by rw [hg, h2])]; exact h2⟩
theorem go_add {m : Mach} (k : MachOk m) {w : Nat} : ∀ {i j a : Nat}, a < m.steps.length → go m w (i + j) a = (go m w i a).bind fun p => (go m w j p.1).map (plus p.2)
  | 0, j, a, ha => by
    rw [Nat.zero_add]
    show go m w j a = (go m w j a).map (plus (List.replicate m.outs 0))
    cases q : go m w j a with
    | none => rfl
    | some p =>
      obtain ⟨c, h⟩ := p
      show _ = some (c, addv (List.replicate m.outs 0) h)
      rw [addv_zero (go_len k ha q).2]
  | i + 1, j, a, ha => by
    rw [show i + 1 + j = (i + j) + 1 by omega]
    show ((m.st a w).bind fun p => (go m w (i + j) p.1).map (plus p.2)) = ((m.st a w).bind fun p => (go m w i p.1).map (plus p.2)).bind fun p => (go m w j p.1).map (plus p.2)
    cases q : m.st a w with
    | none => rfl
    | some p =>
      obtain ⟨b, g⟩ := p
      rw [Option.bind_some, Option.bind_some]
      show (go m w (i + j) b).map (plus g) = ((go m w i b).map (plus g)).bind fun p => (go m w j p.1).map (plus p.2)
      rw [go_add k (i := i) (j := j) (k.st q).1]
      cases go m w i b with
      | none => rfl
      | some r =>
        obtain ⟨c, h⟩ := r
        show ((go m w j c).map (plus h)).map (plus g) = (go m w j c).map (plus (addv g h))
        cases go m w j c with
        | none => rfl
        | some r => exact congrArg some (plus_plus g h r)
theorem go_one {m : Mach} (k : MachOk m) {w b : Nat} : go m w 1 b = m.st b w := by
  show ((m.st b w).bind fun p => (go m w 0 p.1).map (plus p.2)) = m.st b w
  cases q : m.st b w with
  | none => rfl
  | some p =>
    obtain ⟨c, g⟩ := p
    show some (c, addv g (List.replicate m.outs 0)) = some (c, g)
    rw [addv_zero_r (k.st q).2.1]
theorem go_succ {m : Mach} (k : MachOk m) {w i a : Nat} (ha : a < m.steps.length) : go m w (i + 1) a = (go m w i a).bind fun p => (m.st p.1 w).map (plus p.2) := by
  rw [go_add k ha]
  congr 1
  funext p
  rw [go_one k]
/-- the line of modes from the mode a on the wire w -/
structure Line (m : Mach) (a w : Nat) (ms : List Nat) (gs : List (List Int)) (t : Option Nat) : Prop where
  len : gs.length = ms.length
  pos : 0 < ms.length
  at_ : ∀ (k b : Nat) (g : List Int), ms[k]? = some b → gs[k]? = some g → go m w k a = some (b, g)
  nd : ms.Nodup
  none_ : t = none → go m w ms.length a = none
  some_ : ∀ k, t = some k → k < ms.length ∧ ∃ b g, ms[k]? = some b ∧ go m w ms.length a = some (b, g)
theorem Line.get {m : Mach} {a w : Nat} {ms : List Nat} {gs : List (List Int)} {t : Option Nat} (L : Line m a w ms gs t) {k : Nat} (h : k < ms.length) : ∃ b g, ms[k]? = some b ∧ gs[k]? = some g ∧ go m w k a = some (b, g) :=
  ⟨_, _, List.getElem?_eq_getElem h, List.getElem?_eq_getElem (by rw [L.len]; exact h), L.at_ k _ _ (List.getElem?_eq_getElem h) (List.getElem?_eq_getElem (by rw [L.len]; exact h))⟩
theorem go_none {m : Mach} (k : MachOk m) {w i j a : Nat} (ha : a < m.steps.length) (h : go m w i a = none) (hij : i ≤ j) : go m w j a = none := by
  obtain ⟨d, rfl⟩ := Nat.exists_eq_add_of_le hij
  rw [go_add k ha, h]
  rfl
/-! ### nodup lists are not longer than what they lie in -/
theorem nodup_sub_len {α : Type} [DecidableEq α] : ∀ {l r : List α}, l.Nodup → (∀ x ∈ l, x ∈ r) → l.length ≤ r.length
  | [], _, _, _ => Nat.zero_le _
  | x :: l, r, hn, hs => by
    have hx := hs x (by simp)
    rw [List.nodup_cons] at hn
    have := nodup_sub_len (l := l) (r := r.erase x) hn.2 fun y hy => (List.mem_erase_of_ne fun (e : y = x) => hn.1 (by rw [← e]; exact hy)).mpr (hs y (by simp [hy]))
    rw [List.length_erase_of_mem hx] at this
    have hp : 0 < r.length := List.length_pos_of_mem hx
    show l.length + 1 ≤ r.length
    omega
theorem nodup_lt_len {l : List Nat} {n : Nat} (hn : l.Nodup) (h : ∀ x ∈ l, x < n) : l.length ≤ n := by
  have := nodup_sub_len hn (r := List.range n) fun x hx => List.mem_range.mpr (h x hx)
  rwa [List.length_range] at this
theorem Line.lt {m : Mach} (k : MachOk m) {a w : Nat} {ms : List Nat} {gs : List (List Int)} {t : Option Nat} (L : Line m a w ms gs t) (ha : a < m.steps.length) : ∀ b ∈ ms, b < m.steps.length := fun b hb => by
  obtain ⟨i, hi⟩ := List.getElem?_of_mem hb
  obtain ⟨b', g, h1, h2, h3⟩ := L.get (List.getElem?_eq_some_iff.mp hi).1
  rw [hi] at h1
  cases h1
  exact (go_len k ha h3).1
theorem Line.most {m : Mach} (k : MachOk m) {a w : Nat} {ms : List Nat} {gs : List (List Int)} {t : Option Nat} (L : Line m a w ms gs t) (ha : a < m.steps.length) : ms.length ≤ 150 :=
  Nat.le_trans (nodup_lt_len L.nd (L.lt k ha)) k.most
end Lw

namespace Lw
open PySem PySem.Spec PyProof.Rows L2 Dl
/-! the part wirelines: what each def keeps -/
abbrev tN (ns : List Nat) : D := .tuple (ns.map fun (n : Nat) => PyData.int (n : Int))
abbrev oN : Option Nat → D
  | none => .none
  | some n => .int n
def F_wire_line : FS := fun xs P => ∃ (m : Mach) (a w : Nat), xs = [.d (machD m), .d (.int a), .d (.int w)] ∧ MachOk m ∧ a < m.steps.length ∧ w < m.ins ∧
  ∀ ms gs t, Line m a w ms gs t → P (.tuple [tN ms, .tuple (gs.map tI), oN t])
abbrev N_wire_line : List Str := ["machine", "mode", "wire", "modes", "givens", "places", "step"]
def t_wire_line (K : Fg) : TS := (tSeq (tPar3 3 4 5 (tCons (tLst (tCons (tVar 1) tNil)) (tCons (tLst (tCons (tCall (liftSp K F_nothing) [] E0 (tCons (tOp (rIxU K) (tVar 0) (tC (.int 1))) tNil)) tNil)) (tCons (tDisp [((tVar 1), (tC (.int 0)))]) tNil))))
    (tSeq (tAsg (tOp (rIxU K) (tOp (rIxU K) (tOp (rIxU K) (tVar 0) (tC (.int 2))) (tVar 1)) (tVar 2)) (gName 6))
    (tSeq (tWhile (tAnd (tTest (tOp rNoN (tVar 6) (tC .non))) (tTest (tOp (rNotInU K) (tOp (rIxU K) (tVar 6) (tC (.int 0))) (tVar 5)))) (tSeq (sDPut (tVar 5) (tOp (rIxU K) (tVar 6) (tC (.int 0))) (tCB (rLenU K) (tCons (tVar 3) tNil)))
    (tSeq (tDrop (tBM K "list" rAppend (tVar 3) (tCons (tOp (rIxU K) (tVar 6) (tC (.int 0))) tNil)))
    (tSeq (tDrop (tBM K "list" rAppend (tVar 4) (tCons (tCall (liftSp K F_added) [] E0 (tCons (tOp (rIxU K) (tVar 4) (tUn (rU fun i => .int (-i)) (tC (.int 1)))) (tCons (tOp (rIxU K) (tVar 6) (tC (.int 1))) tNil))) tNil)))
    (tAsg (tOp (rIxU K) (tOp (rIxU K) (tOp (rIxU K) (tVar 0) (tC (.int 2))) (tOp (rIxU K) (tVar 6) (tC (.int 0)))) (tVar 2)) (gName 6))))))
    (tRet (tTup (tCons (tCB (rTup1 K) (tCons (tVar 3) tNil)) (tCons (tCB (rTup1 K) (tCons (tVar 4) tNil)) (tCons (tIf (tTest (tOp rNoN (tVar 6) (tC .non))) (tOp (rIxU K) (tVar 5) (tOp (rIxU K) (tVar 6) (tC (.int 0)))) (tC .non)) tNil))))))))
/-- the dict of places -/
def plc : Nat → List Nat → List (Key × D)
  | _, [] => []
  | k, b :: r => (Sum.inl (b : Int), .int k) :: plc (k + 1) r
theorem plc_app : ∀ (k : Nat) (ms : List Nat) (b : Nat), plc k (ms ++ [b]) = plc k ms ++ [(Sum.inl (b : Int), .int ((k + ms.length : Nat) : Int))]
  | k, [], b => rfl
  | k, c :: r, b => by
    show _ :: plc (k + 1) (r ++ [b]) = _ :: (plc (k + 1) r ++ _)
    rw [plc_app (k + 1) r b, show k + 1 + r.length = k + (c :: r).length by simp; omega]
theorem plc_any : ∀ (k : Nat) (ms : List Nat) (b : Nat), (plc k ms).any (fun kv => decide (kv.1 = Sum.inl (b : Int))) = decide (b ∈ ms)
  | k, [], b => rfl
  | k, c :: r, b => by
    show (decide ((Sum.inl (c : Int) : Key) = Sum.inl (b : Int)) || (plc (k + 1) r).any _) = _
    rw [plc_any (k + 1) r b]
    by_cases h : b = c
    · subst h; simp
    · have h' : ¬ c = b := fun e => h e.symm
      have h2 : ¬ (c : Int) = (b : Int) := by omega
      simp [h, h2]
theorem plc_val_none {k : Nat} {ms : List Nat} {b : Nat} (h : b ∉ ms) : valD (plc k ms) (Sum.inl (b : Int)) = none := by
  unfold valD
  rw [List.find?_eq_none.mpr fun x hx => ?_]
  · rfl
  · intro hd
    have := plc_any k ms b
    rw [decide_eq_false h, List.any_eq_false] at this
    exact this x hx hd
theorem plc_val : ∀ {k : Nat} {ms : List Nat} {b i : Nat}, ms.Nodup → ms[i]? = some b → valD (plc k ms) (Sum.inl (b : Int)) = some (.int ((k + i : Nat) : Int))
  | k, [], b, i, _, h => by simp at h
  | k, c :: r, b, 0, _, h => by
    have e : c = b := by simpa using h
    subst e
    unfold valD plc
    rw [List.find?_cons_of_pos (by simp)]
    rfl
  | k, c :: r, b, i + 1, hn, h => by
    rw [List.nodup_cons] at hn
    have hb : r[i]? = some b := by simpa using h
    have hc : ¬ c = b := fun e => hn.1 (e ▸ List.mem_of_getElem? hb)
    have := plc_val (k := k + 1) hn.2 hb
    unfold valD at this ⊢
    unfold plc
    have hc' : ¬ (c : Int) = (b : Int) := by omega
    rw [List.find?_cons_of_neg (by simpa using hc'), this, show k + 1 + i = k + (i + 1) by omega]
theorem plc_put {ms : List Nat} {b : Nat} (h : b ∉ ms) : putD (plc 0 ms) (Sum.inl (b : Int)) (.int (ms.length : Int)) = plc 0 (ms ++ [b]) := by
  unfold putD
  rw [plc_any, decide_eq_false h, if_neg Bool.false_ne_true, plc_app, Nat.zero_add]
theorem plc_len : ∀ (k : Nat) (ms : List Nat), (plc k ms).length = ms.length
  | _, [] => rfl
  | k, _ :: r => congrArg (· + 1) (plc_len (k + 1) r)
theorem rng_inv {lo : Int} {n i : Nat} {x : D} (h : (rngD lo n)[i]? = some x) : i < n ∧ x = .int (lo + (i : Int)) := by
  have hi := (List.getElem?_eq_some_iff.mp h).1
  rw [rngD_len] at hi
  rw [rngD_get hi] at h
  exact ⟨hi, (Option.some.inj h).symm⟩
structure Pre (m : Mach) (a w : Nat) (ms : List Nat) (gs : List (List Int)) : Prop where
  len : gs.length = ms.length
  pos : 0 < ms.length
  at_ : ∀ (k b : Nat) (g : List Int), ms[k]? = some b → gs[k]? = some g → go m w k a = some (b, g)
  nd : ms.Nodup
theorem Pre.more {m : Mach} {a w : Nat} {ms : List Nat} {gs : List (List Int)} {b c : Nat} {g h : List Int} (L : Pre m a w ms gs) (k : MachOk m) (ha : a < m.steps.length) (hb : ms[ms.length - 1]? = some b) (hg : gs[ms.length - 1]? = some g) (hs : m.st b w = some (c, h)) :
    go m w ms.length a = some (c, addv g h) := by
  have hp := L.pos
  have e := L.at_ _ _ _ hb hg
  have := go_succ k (w := w) (i := ms.length - 1) ha
  rw [show ms.length - 1 + 1 = ms.length by omega, e, Option.bind_some, hs] at this
  exact this
theorem Pre.stop {m : Mach} {a w : Nat} {ms : List Nat} {gs : List (List Int)} {b : Nat} {g : List Int} (L : Pre m a w ms gs) (k : MachOk m) (ha : a < m.steps.length) (hb : ms[ms.length - 1]? = some b) (hg : gs[ms.length - 1]? = some g) (hs : m.st b w = none) :
    go m w ms.length a = none := by
  have hp := L.pos
  have e := L.at_ _ _ _ hb hg
  have := go_succ k (w := w) (i := ms.length - 1) ha
  rw [show ms.length - 1 + 1 = ms.length by omega, e, Option.bind_some, hs] at this
  exact this
theorem Pre.add {m : Mach} {a w : Nat} {ms : List Nat} {gs : List (List Int)} {c : Nat} {h : List Int} (L : Pre m a w ms gs) (hn : c ∉ ms) (hs : go m w ms.length a = some (c, h)) : Pre m a w (ms ++ [c]) (gs ++ [h]) where
  len := by simp [L.len]
  pos := by simp
  at_ := fun k b g h1 h2 => by
    by_cases hk : k < ms.length
    · rw [List.getElem?_append_left hk] at h1
      rw [List.getElem?_append_left (by rw [L.len]; exact hk)] at h2
      exact L.at_ k b g h1 h2
    · have hk' : k < (ms ++ [c]).length := (List.getElem?_eq_some_iff.mp h1).1
      have e : k = ms.length := by rw [List.length_append, List.length_singleton] at hk'; omega
      subst e
      rw [List.getElem?_append_right (Nat.le_refl _), Nat.sub_self] at h1
      rw [List.getElem?_append_right (by rw [L.len]; exact Nat.le_refl _), L.len, Nat.sub_self] at h2
      cases h1
      cases h2
      exact hs
  nd := List.nodup_append.mpr ⟨L.nd, by simp, fun x hx y hy e => by
    have e' : y = c := by simpa using hy
    subst e'
    subst e
    exact hn hx⟩
theorem Pre.lt {m : Mach} {a w : Nat} {ms : List Nat} {gs : List (List Int)} (L : Pre m a w ms gs) (k : MachOk m) (ha : a < m.steps.length) : ∀ b ∈ ms, b < m.steps.length := fun b hb => by
  obtain ⟨i, hi⟩ := List.getElem?_of_mem hb
  have hl := (List.getElem?_eq_some_iff.mp hi).1
  exact (go_len k ha (L.at_ i _ _ hi (List.getElem?_eq_getElem (by rw [L.len]; exact hl)))).1
theorem Pre.most {m : Mach} {a w : Nat} {ms : List Nat} {gs : List (List Int)} (L : Pre m a w ms gs) (k : MachOk m) (ha : a < m.steps.length) : ms.length ≤ 150 := Nat.le_trans (nodup_lt_len L.nd (L.lt k ha)) k.most
theorem atI_neg {α : Type} {xs : List α} {n : Nat} {v : α} (hl : xs.length = n) (h0 : 0 < n) (h : xs[n - 1]? = some v) : atI xs (-1) = some v := by
  unfold atI
  have e : ixN xs.length (-1) = some (n - 1) := by
    unfold ixN
    rw [hl, if_neg (by decide), if_pos (by omega)]
    congr 1
    omega
  rw [e]
  exact h
section
variable {K : Fg} {Γ : Ga} {xs : List Vl} {P : D → Prop} {δ : List Sl}
theorem post_n {x : Nat} {Q : Nat → Prop} (h : Q x) : ∃ y : Nat, Vl.d (.int (x : Int)) = Vl.d (.int (y : Int)) ∧ Q y := ⟨x, rfl, h⟩
theorem post_n0 {Q : Nat → Prop} (h : Q 0) : ∃ y : Nat, Vl.d (.int 0) = Vl.d (.int (y : Int)) ∧ Q y := ⟨0, rfl, h⟩
theorem od_m0 {m : Mach} {P : Vl → Prop} (h : P (.d (.int m.ins))) : OpD K (rIxU K) (.d (machD m)) (.d (.int 0)) P := od_ixt (d := .int m.ins) rfl h
theorem od_m1 {m : Mach} {P : Vl → Prop} (h : P (.d (.int m.outs))) : OpD K (rIxU K) (.d (machD m)) (.d (.int 1)) P := od_ixt (d := .int m.outs) rfl h
theorem od_m2 {m : Mach} {P : Vl → Prop} (h : P (.d (.tuple (m.steps.map lineD)))) : OpD K (rIxU K) (.d (machD m)) (.d (.int 2)) P := od_ixt (d := .tuple (m.steps.map lineD)) rfl h
/-- machine[2][mode][wire] -/
theorem ev_mst {i : Nat} {m : Mach} {te tf : TE} {P : Vl → Prop} (e : δ[i]? = some (.d (machD m))) (k : MachOk m) (h : Ev K Γ δ te fun x => ∃ a : Nat, x = .d (.int a) ∧ a < m.steps.length ∧ Ev K Γ δ tf fun y => ∃ w : Nat, y = .d (.int w) ∧ w < m.ins ∧ P (.d (stepD (m.st a w)))) :
    Ev K Γ δ (tOp (rIxU K) (tOp (rIxU K) (tOp (rIxU K) (tVar i) (tC (.int 2))) te) tf) P := by
  refine ev_op (ev_op (ev_op (ev_v e (ev_ci (od_ixt (d := .tuple (m.steps.map lineD)) rfl ?_)))))
  refine h.imp fun x ⟨a, hx, ha, h'⟩ => ?_
  subst hx
  have e1 : (m.steps.map lineD)[a]? = some (lineD (m.steps.getD a [])) := by
    rw [List.getElem?_map, List.getElem?_eq_getElem ha, List.getD_eq_getElem?_getD, List.getElem?_eq_getElem ha]
    rfl
  refine od_ixt (atI_nat e1) ?_
  refine h'.imp fun y ⟨w, hy, hw, p⟩ => ?_
  subst hy
  have hl : (m.steps.getD a []).length = m.ins := by
    rw [List.getD_eq_getElem?_getD, List.getElem?_eq_getElem ha]
    exact k.wide _ (List.getElem_mem ha)
  have e2 : ((m.steps.getD a []).map stepD)[w]? = some (stepD (m.st a w)) := by
    unfold Mach.st
    rw [List.getElem?_map, List.getD_eq_getElem?_getD (l := m.steps.getD a []), List.getElem?_eq_getElem (by rw [hl]; exact hw)]
    rfl
  exact od_ixt (atI_nat e2) p
theorem d_wire_line (ha : argOk xs = true) (h : F_wire_line xs P) : SD K Γ (slots N_wire_line xs) (t_wire_line K) { nx := fun δ' => P .none ∧ Kept xs δ', rt := fun d δ' => P d ∧ Kept xs δ' } := by
  obtain ⟨m, a, w, rfl, k, ha', hw, hP⟩ := h
  show SD K Γ [.d (machD m), .d (.int a), .d (.int w), .un, .un, .un, .un] _ _
  unfold t_wire_line
  have zl : (List.replicate m.outs (0 : Int)).length = m.outs := by simp
  repeat' (first|(with_reducible first|refine sd_seq ?_|refine ev_op ?_|refine ev_lst ?_|refine ev_call ?_|refine ea_cons ?_|refine ea_nil ?_|refine ev_ci ?_|refine od_m1 ?_|refine sd_par3 (by decide) (by decide) (by decide) ?_)|((with_reducible apply ev_v);exact rfl)|((with_reducible apply post_call);exact rfl)|((with_reducible apply post_all);exact rfl;exact Nat.le_of_ble_eq_true rfl)|(with_reducible first|intro _)|simp only [List.set_cons_zero, List.set_cons_succ, Bool.not_true, Bool.not_false])
  refine ⟨m.outs, rfl, by have := k.outs; omega, ?_⟩
  repeat' (first|((with_reducible apply ev_mst);exact rfl;assumption)|(with_reducible first|refine sd_seq ?_|refine sd_asg ?_|refine ea_cons ?_|refine ea_nil ?_|refine ev_ci ?_|refine ev_disp1 ?_|refine post_d ?_|refine post_sd ?_|refine post_n ?_)|((with_reducible apply ev_v);exact rfl)|((with_reducible apply post_disp);exact rfl)|((with_reducible apply post_par3);exact rfl;exact rfl;exact rfl)|((with_reducible apply post_all);exact rfl;exact Nat.le_of_ble_eq_true rfl)|(with_reducible first|refine And.intro (by assumption) ?_|intro _)|simp only [List.set_cons_zero, List.set_cons_succ, Bool.not_true, Bool.not_false])
  refine sd_while (fun mm δ' => ∃ p1 p2 p3 ms gs b g sd, δ' = [.d (machD m), .d (.int a), .d (.int w), .own p1 (ms.map fun (n : Nat) => PyData.int (n : Int)), .own p2 (gs.map tI), .dic p3 (plc 0 ms), .d sd] ∧
    Pre m a w ms gs ∧ ms[ms.length - 1]? = some b ∧ gs[ms.length - 1]? = some g ∧ mm = 150 - ms.length ∧ sd = stepD (m.st b w)) 149
    ⟨_, _, _, [a], [List.replicate m.outs 0], a, _, _, rfl, ⟨rfl, Nat.zero_lt_one, fun k b g h1 h2 => ?_, by simp⟩, rfl, rfl, rfl, rfl⟩ ?_
  · cases k with
    | zero => cases h1; cases h2; rfl
    | succ k => simp at h1
  rintro mm δ' ⟨p1, p2, p3, ms, gs, b, g, sd, rfl, L, hb, hg, rfl, hsd⟩
  have hbl : b < m.steps.length := L.lt k ha' b (List.mem_of_getElem? hb)
  have hm := L.most k ha'
  have hms : (ms.map fun (n : Nat) => PyData.int (n : Int)).length = ms.length := List.length_map ..
  have hgs : (gs.map tI).length = ms.length := by rw [List.length_map, L.len]
  cases q : m.st b w with
  | none =>
    rw [q] at hsd
    obtain rfl : sd = .none := hsd
    repeat' (first|(with_reducible first|refine sd_ret ?_|refine ev_if ?_|refine et_test ?_|refine et_and ?_|refine ev_op ?_|refine ev_tup ?_|refine ev_cb1 ?_|refine ea_cons ?_|refine ea_nil ?_|refine ev_cn ?_|refine ifF ?_|refine od_noN_n ?_|refine post_d ?_|refine post_b ?_)|((with_reducible apply ev_v);exact rfl)|((with_reducible apply ev_vo);exact rfl)|((with_reducible apply cd_tupl);exact rfl)|((with_reducible apply post_all);exact rfl;exact Nat.le_of_ble_eq_true rfl)|((with_reducible apply ret_ok);exact rfl)|simp only [List.set_cons_zero, List.set_cons_succ, Bool.not_true, Bool.not_false])
    exact hP ms gs none ⟨L.len, L.pos, L.at_, L.nd, fun _ => L.stop k ha' hb hg q, fun k z => nomatch z⟩
  | some r =>
    obtain ⟨c, h⟩ := r
    obtain ⟨hc, hh, hx⟩ := k.st q
    rw [q] at hsd
    obtain rfl : sd = .tuple [.int c, tI h] := hsd
    have hgo := L.more k ha' hb hg q
    repeat' (first|(with_reducible first|refine et_test ?_|refine et_and ?_|refine ev_op ?_|refine ev_ci ?_|refine ev_cn ?_|refine ifT ?_|refine od_noN_t ?_|refine post_b ?_)|((with_reducible apply ev_v);exact rfl)|((with_reducible apply ev_vd);exact rfl)|((with_reducible apply od_ixt);exact rfl)|simp only [List.set_cons_zero, List.set_cons_succ, Bool.not_true, Bool.not_false])
    refine od_nid rfl ?_
    by_cases hin : c ∈ ms
    · obtain ⟨i, hi⟩ := List.getElem?_of_mem hin
      rw [plc_val L.nd hi, Nat.zero_add]
      repeat' (first|(with_reducible first|refine post_b ?_))
      refine ifF ?_
      repeat' (first|(with_reducible first|refine sd_ret ?_|refine ev_if ?_|refine et_test ?_|refine ev_op ?_|refine ev_tup ?_|refine ev_cb1 ?_|refine ea_cons ?_|refine ea_nil ?_|refine ev_ci ?_|refine ev_cn ?_|refine ifT ?_|refine od_noN_t ?_|refine post_b ?_)|((with_reducible apply ev_v);exact rfl)|((with_reducible apply ev_vo);exact rfl)|((with_reducible apply ev_vd);exact rfl)|((with_reducible apply cd_tupl);exact rfl)|((with_reducible apply od_ixt);exact rfl)|simp only [List.set_cons_zero, List.set_cons_succ, Bool.not_true, Bool.not_false])
      refine od_ixd rfl (by rw [plc_val L.nd hi, Nat.zero_add]) ?_
      repeat' (first|(with_reducible first|refine ea_nil ?_|refine post_d ?_)|((with_reducible apply post_all);exact rfl;exact Nat.le_of_ble_eq_true rfl)|((with_reducible apply ret_ok);exact rfl)|simp only [List.set_cons_zero, List.set_cons_succ, Bool.not_true, Bool.not_false])
      refine hP ms gs (some i) ⟨L.len, L.pos, L.at_, L.nd, (fun z => nomatch z), fun k z => ?_⟩
      cases z
      exact ⟨(List.getElem?_eq_some_iff.mp hi).1, c, _, hi, hgo⟩
    · rw [plc_val_none hin]
      repeat' (first|(with_reducible first|refine post_b ?_))
      refine ifT ?_
      repeat' (first|(with_reducible first|refine sd_seq ?_)|simp only [List.set_cons_zero, List.set_cons_succ, Bool.not_true, Bool.not_false])
      refine sd_dput rfl (by rw [plc_len]; omega) ?_
      repeat' (first|(with_reducible first|refine sd_seq ?_|refine ev_op ?_|refine ev_cb1 ?_|refine ea_cons ?_|refine ea_nil ?_|refine ev_ci ?_|refine post_d ?_)|((with_reducible apply ev_v);exact rfl)|((with_reducible apply ev_vo);exact rfl)|((with_reducible apply post_disp);exact rfl)|((with_reducible apply cd_lenl);exact rfl)|((with_reducible apply od_ixt);exact rfl)|simp only [List.set_cons_zero, List.set_cons_succ, Bool.not_true, Bool.not_false])
      refine sd_app rfl (by rw [hms]; omega) ?_
      repeat' (first|(with_reducible first|refine sd_seq ?_|refine ev_op ?_|refine ev_ci ?_|refine post_d ?_)|((with_reducible apply ev_v);exact rfl)|((with_reducible apply od_ixt);exact rfl)|simp only [List.set_cons_zero, List.set_cons_succ, Bool.not_true, Bool.not_false])
      refine sd_app rfl (by rw [hgs]; omega) ?_
      repeat' (first|(with_reducible first|refine ev_op ?_|refine ev_un ?_|refine ev_call ?_|refine ea_cons ?_|refine ev_ci ?_|refine ud_U ?_)|((with_reducible apply ev_vo);exact rfl)|simp only [List.set_cons_zero, List.set_cons_succ, Bool.not_true, Bool.not_false])
      refine od_ixl rfl (atI_neg hgs (by have := L.pos; omega) (by rw [List.getElem?_map, hg]; rfl)) ?_
      repeat' (first|(with_reducible first|refine ev_op ?_|refine ea_cons ?_|refine ea_nil ?_|refine ev_ci ?_)|((with_reducible apply ev_v);exact rfl)|((with_reducible apply post_call);exact rfl)|((with_reducible apply od_ixt);exact rfl))
      have hgl : g.length = m.outs := (go_len k ha' (L.at_ _ _ _ hb hg)).2
      refine ⟨g, h, rfl, by rw [hgl, hh], by have := k.outs; omega, ?_⟩
      repeat' (first|((with_reducible apply ev_mst);exact rfl;assumption)|(with_reducible first|refine sd_asg ?_|refine ev_op ?_|refine ev_ci ?_|refine post_d ?_|refine post_sd ?_|refine post_n ?_)|((with_reducible apply ev_v);exact rfl)|((with_reducible apply od_ixt);exact rfl)|(with_reducible first|refine And.intro (by assumption) ?_)|simp only [List.set_cons_zero, List.set_cons_succ, Bool.not_true, Bool.not_false])
      have L2 := L.add hin hgo
      have hm2 := L2.most k ha'
      rw [List.length_append, List.length_singleton] at hm2
      refine ⟨150 - (ms ++ [c]).length, by rw [List.length_append, List.length_singleton]; omega, p1, p2, p3, ms ++ [c], gs ++ [addv g h], c, addv g h, _, ?_, L2, by simp, by simp [L.len], rfl, rfl⟩
      rw [hms, plc_put hin, List.map_append, List.map_append]
      rfl
theorem len_wire_line : ∀ xs P, F_wire_line xs P → xs.length = 3 := fun xs P ⟨m, a, w, h, _⟩ => by rw [h]; rfl
theorem Line.uniq {m : Mach} {a w : Nat} {ms ms' : List Nat} {gs gs' : List (List Int)} {t t' : Option Nat} (L : Line m a w ms gs t) (L' : Line m a w ms' gs' t') : ms = ms' ∧ gs = gs' ∧ t = t' := by
  have key : ∀ {ms ms' : List Nat} {gs gs' : List (List Int)} {t t' : Option Nat}, Line m a w ms gs t → Line m a w ms' gs' t' → ¬ ms.length < ms'.length := by
    intro ms ms' gs gs' t t' L L' h
    obtain ⟨b, g, h1, h2, h3⟩ := L'.get h
    cases t with
    | none => rw [L.none_ rfl] at h3; cases h3
    | some k =>
      obtain ⟨hk, b', g', h4, h5⟩ := L.some_ k rfl
      rw [h5] at h3
      cases h3
      obtain ⟨b2, g2, h6, h7, h8⟩ := L'.get (show k < ms'.length by omega)
      obtain ⟨b3, g3, h9, h10, h11⟩ := L.get hk
      rw [h8] at h11
      cases h11
      rw [h4] at h9
      cases h9
      have e := (List.getElem?_eq_some_iff.mp h1)
      have e' := (List.getElem?_eq_some_iff.mp h6)
      have := (List.nodup_iff_pairwise_ne.mp L'.nd)
      have := List.pairwise_iff_getElem.mp this k ms.length e'.1 e.1 hk
      exact this (e'.2.trans e.2.symm)
  have hl : ms.length = ms'.length := by
    have h1 := key L L'
    have h2 := key L' L
    omega
  have em : ms = ms' := List.ext_getElem? fun k => by
    by_cases h : k < ms.length
    · obtain ⟨b, g, h1, h2, h3⟩ := L.get h
      obtain ⟨b', g', h4, h5, h6⟩ := L'.get (show k < ms'.length by omega)
      rw [h3] at h6
      cases h6
      rw [h1, h4]
    · rw [List.getElem?_eq_none (by omega), List.getElem?_eq_none (by omega)]
  have eg : gs = gs' := List.ext_getElem? fun k => by
    by_cases h : k < ms.length
    · obtain ⟨b, g, h1, h2, h3⟩ := L.get h
      obtain ⟨b', g', h4, h5, h6⟩ := L'.get (show k < ms'.length by omega)
      rw [h3] at h6
      cases h6
      rw [h2, h5]
    · rw [List.getElem?_eq_none (by rw [L.len]; omega), List.getElem?_eq_none (by rw [L'.len]; omega)]
  subst em eg
  refine ⟨rfl, rfl, ?_⟩
  cases t with
  | none =>
    cases t' with
    | none => rfl
    | some k =>
      obtain ⟨_, b, g, _, h⟩ := L'.some_ k rfl
      rw [L.none_ rfl] at h
      cases h
  | some k =>
    obtain ⟨hk, b, g, h1, h⟩ := L.some_ k rfl
    cases t' with
    | none => rw [L'.none_ rfl] at h; cases h
    | some k' =>
      obtain ⟨hk', b', g', h1', h'⟩ := L'.some_ k' rfl
      rw [h] at h'
      cases h'
      have e := (List.getElem?_eq_some_iff.mp h1)
      have e' := (List.getElem?_eq_some_iff.mp h1')
      have nd := List.pairwise_iff_getElem.mp (List.nodup_iff_pairwise_ne.mp L.nd)
      rcases Nat.lt_trichotomy k k' with hlt | heq | hgt
      · exact absurd (e.2.trans e'.2.symm) (nd k k' e.1 e'.1 hlt)
      · rw [heq]
      · exact absurd (e'.2.trans e.2.symm) (nd k' k e'.1 e.1 hgt)
def F_slope_at : FS := fun xs P => ∃ (m : Mach) (a w : Nat), xs = [.d (machD m), .d (.int a), .d (.int w)] ∧ MachOk m ∧ a < m.steps.length ∧ w < m.ins ∧
  ∀ ms gs t, Line m a w ms gs t → (t = none → P .none) ∧ ∀ k b g0 g1, t = some k → ms[k]? = some b → gs[k]? = some g0 → go m w ms.length a = some (b, g1) → P (.tuple [.int k, .int ((ms.length - k : Nat) : Int), tI (subv g1 g0)])
abbrev N_slope_at : List Str := ["machine", "mode", "wire", "modes", "givens", "threshold", "last"]
def t_slope_at (K : Fg) : TS := (tSeq (tAsg (tCall (liftSp K F_wire_line) [] E0 (tCons (tVar 0) (tCons (tVar 1) (tCons (tVar 2) tNil)))) (gTup K 3 (gCons (gName 3) (gCons (gName 4) (gCons (gName 5) gNil)))))
    (tSeq (tIfS (tTest (tOp rIsN (tVar 5) (tC .non))) (tRet (tC .non)) tNext)
    (tSeq (tAsg (tOp (rIxU K) (tOp (rIxU K) (tOp (rIxU K) (tVar 0) (tC (.int 2))) (tOp (rIxU K) (tVar 3) (tUn (rU fun i => .int (-i)) (tC (.int 1))))) (tVar 2)) (gName 6))
    (tRet (tTup (tCons (tVar 5) (tCons (tOp (rI0 fun i j => .int (i - j)) (tCB (rLenU K) (tCons (tVar 3) tNil)) (tVar 5)) (tCons (tCall (liftSp K F_taken_off) [] E0 (tCons (tCall (liftSp K F_added) [] E0 (tCons (tOp (rIxU K) (tVar 4) (tUn (rU fun i => .int (-i)) (tC (.int 1)))) (tCons (tOp (rIxU K) (tVar 6) (tC (.int 1))) tNil))) (tCons (tOp (rIxU K) (tVar 4) (tVar 5)) tNil))) tNil))))))))
theorem d_slope_at (ha : argOk xs = true) (h : F_slope_at xs P) : SD K Γ (slots N_slope_at xs) (t_slope_at K) { nx := fun δ' => P .none ∧ Kept xs δ', rt := fun d δ' => P d ∧ Kept xs δ' } := by
  obtain ⟨m, a, w, rfl, k, ha', hw, hP⟩ := h
  show SD K Γ [.d (machD m), .d (.int a), .d (.int w), .un, .un, .un, .un] _ _
  unfold t_slope_at
  repeat' (first|(with_reducible first|refine sd_seq ?_|refine sd_asgG ?_|refine ev_call ?_|refine ea_cons ?_|refine ea_nil ?_)|((with_reducible apply ev_v);exact rfl)|((with_reducible apply post_call);exact rfl)|simp only [List.set_cons_zero, List.set_cons_succ, Bool.not_true, Bool.not_false])
  refine ⟨m, a, w, rfl, k, ha', hw, fun ms gs t L => ?_⟩
  obtain ⟨hP1, hP2⟩ := hP ms gs t L
  obtain ⟨od, hod⟩ : ∃ od, od = oN t := ⟨_, rfl⟩
  rw [← hod]
  have hm := L.most k ha'
  have hp := L.pos
  cases t with
  | none =>
    obtain rfl : od = .none := hod
    repeat' (first|(with_reducible first|refine sd_seq ?_|refine sd_ret ?_|refine sd_if ?_|refine et_test ?_|refine ev_op ?_|refine ev_cn ?_|refine gd_name ?_|refine gds_cons ?_|refine gds_nil ?_|refine ifT ?_|refine od_isN_n ?_|refine post_d ?_|refine post_b ?_)|((with_reducible apply ev_v);exact rfl)|((with_reducible apply gd_tup);exact rfl)|((with_reducible apply ret_ok);exact rfl))
    exact hP1 rfl
  | some j =>
    obtain rfl : od = .int j := hod
    obtain ⟨hj, b, g1, hb, hgo⟩ := L.some_ j rfl
    obtain ⟨b0, g0, hb0, hg0, hgo0⟩ := L.get hj
    rw [hb] at hb0
    cases hb0
    obtain ⟨bl, gl, hbl, hgl, hgol⟩ := L.get (show ms.length - 1 < ms.length by omega)
    have hsl : go m w ms.length a = ((m.st bl w).map (plus gl)) := by
      have := go_succ k (w := w) (i := ms.length - 1) ha'
      rw [show ms.length - 1 + 1 = ms.length by omega, hgol, Option.bind_some] at this
      exact this
    rw [hgo] at hsl
    obtain ⟨h, hst, eg⟩ : ∃ h, m.st bl w = some (b, h) ∧ g1 = addv gl h := by
      cases q : m.st bl w with
      | none => rw [q] at hsl; cases hsl
      | some r =>
        obtain ⟨c, h⟩ := r
        rw [q] at hsl
        cases hsl
        exact ⟨h, rfl, rfl⟩
    obtain ⟨_, hh, hx⟩ := k.st hst
    have hgll := (go_len k ha' hgol).2
    have hg0l := (go_len k ha' hgo0).2
    have hou := k.outs
    repeat' (first|((with_reducible apply ev_mst);exact rfl;assumption)|(with_reducible first|refine sd_seq ?_|refine sd_asg ?_|refine sd_if ?_|refine sd_next ?_|refine et_test ?_|refine ev_op ?_|refine ev_un ?_|refine ev_ci ?_|refine ev_cn ?_|refine gd_name ?_|refine gds_cons ?_|refine gds_nil ?_|refine ifF ?_|refine od_isN_i ?_|refine ud_U ?_|refine post_d ?_|refine post_b ?_)|((with_reducible apply ev_v);exact rfl)|((with_reducible apply gd_tup);exact rfl)|simp only [List.set_cons_zero, List.set_cons_succ, Bool.not_true, Bool.not_false])
    refine od_ixt (atI_neg (List.length_map ..) hp (by rw [List.getElem?_map, hbl]; rfl)) ?_
    repeat' (first|(with_reducible first|refine post_n ?_))
    refine ⟨(go_len k ha' hgol).1, ?_⟩
    repeat' (first|(with_reducible first|refine sd_ret ?_|refine ev_op ?_|refine ev_un ?_|refine ev_tup ?_|refine ev_call ?_|refine ev_cb1 ?_|refine ea_cons ?_|refine ea_nil ?_|refine ev_ci ?_|refine od_I0i ?_|refine ud_U ?_|refine cd_lent ?_|refine post_sd ?_|refine post_n ?_)|((with_reducible apply ev_v);exact rfl)|(with_reducible first|refine And.intro (by assumption) ?_)|simp only [List.set_cons_zero, List.set_cons_succ, Bool.not_true, Bool.not_false])
    rw [hst]
    refine od_ixt (atI_neg (by rw [List.length_map, L.len]) hp (by rw [List.getElem?_map, hgl]; rfl)) ?_
    repeat' (first|(with_reducible first|refine ev_op ?_|refine ea_cons ?_|refine ea_nil ?_|refine ev_ci ?_)|((with_reducible apply ev_v);exact rfl)|((with_reducible apply post_call);exact rfl)|((with_reducible apply od_ixt);exact rfl))
    refine ⟨gl, h, rfl, by rw [hgll, hh], by omega, ?_⟩
    repeat' (first|(with_reducible first|refine ev_op ?_|refine ea_cons ?_)|((with_reducible apply ev_v);exact rfl))
    refine od_ixt (atI_nat (by rw [List.getElem?_map, hg0]; rfl)) ?_
    repeat' (first|(with_reducible first|refine ea_nil ?_)|((with_reducible apply post_call);exact rfl))
    refine ⟨addv gl h, g0, rfl, by rw [addv_len (by rw [hgll, hh]), hh, hg0l], by rw [addv_len (by rw [hgll, hh])]; omega, ?_⟩
    repeat' (first|(with_reducible first|refine ea_nil ?_|refine post_d ?_)|((with_reducible apply post_all);exact rfl;exact Nat.le_of_ble_eq_true rfl)|((with_reducible apply ret_ok);exact rfl)|simp only [List.set_cons_zero, List.set_cons_succ, Bool.not_true, Bool.not_false])
    have := hP2 j b g0 g1 rfl hb hg0 hgo
    rw [eg] at this
    rw [List.length_map]
    rw [show ((ms.length : Int) - (j : Int)) = ((ms.length - j : Nat) : Int) by omega]
    exact this
def F_alone : FS := fun xs P => ∃ (m : Mach) (w : Nat), xs = [.d (machD m), .d (.int w)] ∧ MachOk m ∧ w < m.ins ∧
  ∀ ms gs t, Line m 0 w ms gs t → (t = none → P (.int ((ms.length - 1 : Nat) : Int))) ∧ (t ≠ none → P .none)
abbrev N_alone : List Str := ["machine", "wire", "modes", "givens", "threshold"]
def t_alone (K : Fg) : TS := (tSeq (tAsg (tCall (liftSp K F_wire_line) [] E0 (tCons (tVar 0) (tCons (tC (.int 0)) (tCons (tVar 1) tNil)))) (gTup K 3 (gCons (gName 2) (gCons (gName 3) (gCons (gName 4) gNil)))))
    (tRet (tIf (tTest (tOp rIsN (tVar 4) (tC .non))) (tOp (rI0 fun i j => .int (i - j)) (tCB (rLenU K) (tCons (tVar 2) tNil)) (tC (.int 1))) (tC .non))))
theorem d_alone (ha : argOk xs = true) (h : F_alone xs P) : SD K Γ (slots N_alone xs) (t_alone K) { nx := fun δ' => P .none ∧ Kept xs δ', rt := fun d δ' => P d ∧ Kept xs δ' } := by
  obtain ⟨m, w, rfl, k, hw, hP⟩ := h
  show SD K Γ [.d (machD m), .d (.int w), .un, .un, .un] _ _
  unfold t_alone
  repeat' (first|(with_reducible first|refine sd_seq ?_|refine sd_asgG ?_|refine ev_call ?_|refine ea_cons ?_|refine ea_nil ?_|refine ev_ci ?_)|((with_reducible apply ev_v);exact rfl)|((with_reducible apply post_call);exact rfl)|simp only [List.set_cons_zero, List.set_cons_succ, Bool.not_true, Bool.not_false])
  refine ⟨m, 0, w, rfl, k, k.pos, hw, fun ms gs t L => ?_⟩
  obtain ⟨hP1, hP2⟩ := hP ms gs t L
  have hp := L.pos
  cases t with
  | none =>
    repeat' (first|(with_reducible first|refine sd_ret ?_|refine ev_if ?_|refine et_test ?_|refine ev_op ?_|refine ev_cb1 ?_|refine ea_cons ?_|refine ea_nil ?_|refine ev_ci ?_|refine ev_cn ?_|refine gd_name ?_|refine gds_cons ?_|refine gds_nil ?_|refine ifT ?_|refine od_I0i ?_|refine od_isN_n ?_|refine cd_lent ?_|refine post_d ?_|refine post_b ?_)|((with_reducible apply ev_v);exact rfl)|((with_reducible apply gd_tup);exact rfl)|((with_reducible apply ret_ok);exact rfl))
    rw [List.length_map, show ((ms.length : Int) - 1) = ((ms.length - 1 : Nat) : Int) by omega]
    exact hP1 rfl
  | some j =>
    repeat' (first|(with_reducible first|refine sd_ret ?_|refine ev_if ?_|refine et_test ?_|refine ev_op ?_|refine ev_cn ?_|refine gd_name ?_|refine gds_cons ?_|refine gds_nil ?_|refine ifF ?_|refine od_isN_i ?_|refine post_d ?_|refine post_b ?_)|((with_reducible apply ev_v);exact rfl)|((with_reducible apply gd_tup);exact rfl)|((with_reducible apply ret_ok);exact rfl))
    exact hP2 (by simp)
def SlopeAt (m : Mach) (a w : Nat) (d : D) : Prop := ∃ ms gs t, Line m a w ms gs t ∧ ((t = none ∧ d = .none) ∨ ∃ k b g0 g1, t = some k ∧ ms[k]? = some b ∧ gs[k]? = some g0 ∧ go m w ms.length a = some (b, g1) ∧ d = .tuple [.int k, .int ((ms.length - k : Nat) : Int), tI (subv g1 g0)])
def F_slopes : FS := fun xs P => ∃ (m : Mach), xs = [.d (machD m)] ∧ MachOk m ∧ ∀ ys : List D, ys.length = m.ins → (∀ (w : Nat) (y : D), ys[w]? = some y → SlopeAt m 0 w y) → P (.tuple ys)
abbrev N_slopes : List Str := ["machine", "wire"]
def t_slopes (K : Fg) : TS := (tRet (tCB (rTup1 K) (tCons (tLc (iRng1 (tCons (tOp (rIxU K) (tVar 0) (tC (.int 0))) tNil)) (gName 1) tYes (tCall (liftSp K F_slope_at) [] E0 (tCons (tVar 0) (tCons (tC (.int 0)) (tCons (tVar 1) tNil)))) [1]) tNil)))
theorem d_slopes (ha : argOk xs = true) (h : F_slopes xs P) : SD K Γ (slots N_slopes xs) (t_slopes K) { nx := fun δ' => P .none ∧ Kept xs δ', rt := fun d δ' => P d ∧ Kept xs δ' } := by
  obtain ⟨m, rfl, k, hP⟩ := h
  show SD K Γ [.d (machD m), .un] _ _
  unfold t_slopes
  have hi := k.ins
  repeat' (first|(with_reducible first|refine sd_ret ?_|refine ev_cb1 ?_|refine ea_cons ?_)|simp only [List.set_cons_zero, List.set_cons_succ, Bool.not_true, Bool.not_false])
  refine ev_lcR (noA1 rfl rfl) (ei_rng1 ?_)
  repeat' (first|(with_reducible first|refine ev_op ?_|refine ea_cons ?_|refine ea_nil ?_|refine ev_ci ?_|refine od_m0 ?_)|((with_reducible apply ev_v);exact rfl))
  refine ⟨m.ins, rfl, by omega, by omega, by rw [rngD_len]; omega, SlopeAt m 0, fun i x hx => ?_, fun p ys hl hy => ?_⟩
  · obtain ⟨hi', rfl⟩ := rng_inv hx
    rw [Int.toNat_natCast] at hi'
    repeat' (first|(with_reducible first|refine ev_call ?_|refine ea_cons ?_|refine ea_nil ?_|refine ev_ci ?_)|((with_reducible apply ev_v);exact rfl)|((with_reducible apply post_call);exact rfl)|((with_reducible apply gv_name);exact (by simp)))
    rw [Int.zero_add]
    refine ⟨m, 0, i, rfl, k, k.pos, hi', fun ms gs t L => ⟨fun e => ?_, fun j b g0 g1 e1 e2 e3 e4 => ?_⟩⟩
    · repeat' (first|(with_reducible first|refine post_d ?_))
      exact ⟨ms, gs, t, L, .inl ⟨e, rfl⟩⟩
    · repeat' (first|(with_reducible first|refine post_d ?_))
      exact ⟨ms, gs, t, L, .inr ⟨j, b, g0, g1, e1, e2, e3, e4, rfl⟩⟩
  · rw [rngD_len, Int.toNat_natCast] at hl
    repeat' (first|(with_reducible first|refine ea_nil ?_|refine post_d ?_)|((with_reducible apply cd_tupl);exact rfl)|((with_reducible apply ret_ok);exact rfl))
    exact hP ys hl hy
end
/-! ### many tokens: periods -/
theorem addv_sub : ∀ {g0 g1 h : List Int}, g0.length = g1.length → addv (addv g0 h) (subv g1 g0) = addv g1 h
  | [], [], h, _ => by simp [addv, subv]
  | x :: g0, y :: g1, [], _ => by simp [addv, subv]
  | x :: g0, y :: g1, z :: h, e => by
    show (x + z + (y - x)) :: addv (addv g0 h) (subv g1 g0) = (y + z) :: addv g1 h
    rw [addv_sub (by simpa using e)]
    congr 1
    omega
theorem mulv_succ : ∀ (s : List Int) (n : Nat), mulv s ((n + 1 : Nat) : Int) = addv (mulv s n) s
  | [], _ => rfl
  | x :: s, n => by
    show (x * ((n + 1 : Nat) : Int)) :: mulv s ((n + 1 : Nat) : Int) = (x * (n : Int) + x) :: addv (mulv s n) s
    rw [mulv_succ s n]
    congr 1
    rw [Int.natCast_succ, Int.mul_add, Int.mul_one]
theorem mulv_zero : ∀ (s : List Int), mulv s ((0 : Nat) : Int) = List.replicate s.length 0
  | [] => rfl
  | x :: s => by
    show (x * ((0 : Nat) : Int)) :: mulv s ((0 : Nat) : Int) = 0 :: List.replicate s.length 0
    rw [mulv_zero s]
    congr 1
    exact Int.mul_zero x
theorem subv_len {a b : List Int} (h : a.length = b.length) : (subv a b).length = b.length := by simp [subv, h]
theorem mulv_len (a : List Int) (k : Int) : (mulv a k).length = a.length := by simp [mulv]
theorem go_per {m : Mach} (k : MachOk m) {a w b l k0 : Nat} {g0 g1 : List Int} (ha : a < m.steps.length) (hk : k0 ≤ l) (h0 : go m w k0 a = some (b, g0)) (h1 : go m w l a = some (b, g1)) :
    ∀ (n i c : Nat) (x : List Int), k0 ≤ i → go m w i a = some (c, x) → go m w (i + n * (l - k0)) a = some (c, addv x (mulv (subv g1 g0) n))
  | 0, i, c, x, _, hx => by
    have l0 := (go_len k ha h0).2
    have l1 := (go_len k ha h1).2
    have lx := (go_len k ha hx).2
    rw [Nat.zero_mul, Nat.add_zero, mulv_zero, subv_len (by rw [l0, l1]), addv_zero_r (by rw [lx, l0]), hx]
  | n + 1, i, c, x, hi, hx => by
    have l0 := (go_len k ha h0).2
    have l1 := (go_len k ha h1).2
    have ih := go_per k ha hk h0 h1 n i c x hi hx
    have hb := (go_len k ha h0).1
    have e1 := go_add k (w := w) (i := k0) (j := i + n * (l - k0) - k0) ha
    rw [show k0 + (i + n * (l - k0) - k0) = i + n * (l - k0) by omega, h0, Option.bind_some, ih] at e1
    have e2 := go_add k (w := w) (i := l) (j := i + n * (l - k0) - k0) ha
    rw [show l + (i + n * (l - k0) - k0) = i + (n + 1) * (l - k0) by rw [Nat.add_mul, Nat.one_mul]; omega, h1, Option.bind_some] at e2
    rw [e2]
    cases q : go m w (i + n * (l - k0) - k0) b with
    | none => simp only [q] at e1; cases e1
    | some r =>
      obtain ⟨d, y⟩ := r
      simp only [q] at e1 ⊢
      have e3 : (c, addv x (mulv (subv g1 g0) n)) = (d, addv g0 y) := Option.some.inj e1
      have e4 : c = d := congrArg Prod.fst e3
      have e5 : addv x (mulv (subv g1 g0) n) = addv g0 y := congrArg Prod.snd e3
      show some (d, addv g1 y) = some (c, _)
      rw [mulv_succ, ← addv_assoc, e5, addv_sub (by rw [l0, l1]), e4]
theorem go_most {m : Mach} (k : MachOk m) {w : Nat} : ∀ {n a b : Nat} {g : List Int}, a < m.steps.length → go m w n a = some (b, g) → ∀ x ∈ g, 0 ≤ x ∧ x ≤ 9999 * n
  | 0, a, b, g, _, h, x, hx => by
    cases h
    rw [(List.mem_replicate.mp hx).2]
    omega
  | n + 1, a, b, g, ha, h, x, hx => by
    rw [go_succ k ha] at h
    cases q : go m w n a with
    | none => rw [q] at h; cases h
    | some r =>
      obtain ⟨c, y⟩ := r
      rw [q, Option.bind_some] at h
      cases q2 : m.st c w with
      | none => simp only [q2] at h; cases h
      | some r2 =>
        obtain ⟨d, z⟩ := r2
        simp only [q2] at h
        cases h
        obtain ⟨i, hi⟩ := List.getElem?_of_mem hx
        have hi' : (List.zipWith (· + ·) y z)[i]? = some x := hi
        clear hi
        have hi := hi'
        rw [List.getElem?_zipWith] at hi
        cases q3 : y[i]? with
        | none => rw [q3] at hi; cases z[i]? <;> cases hi
        | some u =>
          cases q4 : z[i]? with
          | none => rw [q3, q4] at hi; cases hi
          | some v =>
            rw [q3, q4] at hi
            have e : u + v = x := Option.some.inj hi
            have h1 := go_most k ha q u (List.mem_of_getElem? q3)
            have h2 := (k.st q2).2.2 v (List.mem_of_getElem? q4)
            omega
section
variable {K : Fg} {Γ : Ga} {xs : List Vl} {P : D → Prop} {δ : List Sl}
def F_led_by : FS := fun xs P => ∃ (m : Mach) (a w n : Nat), xs = [.d (machD m), .d (.int a), .d (.int w), .d (.int n)] ∧ MachOk m ∧ a < m.steps.length ∧ w < m.ins ∧ n < 2 ^ 62 ∧ P (stepD (go m w n a))
abbrev N_led_by : List Str := ["machine", "mode", "wire", "many", "modes", "givens", "threshold", "first", "period", "slope", "laps", "place"]
def t_led_by (K : Fg) : TS := (tSeq (tAsg (tCall (liftSp K F_wire_line) [] E0 (tCons (tVar 0) (tCons (tVar 1) (tCons (tVar 2) tNil)))) (gTup K 3 (gCons (gName 4) (gCons (gName 5) (gCons (gName 6) gNil)))))
    (tSeq (tIfS (tTest (tOp (rI0 fun i j => .bl (decide (i < j))) (tVar 3) (tCB (rLenU K) (tCons (tVar 4) tNil)))) (tRet (tTup (tCons (tOp (rIxU K) (tVar 4) (tVar 3)) (tCons (tOp (rIxU K) (tVar 5) (tVar 3)) tNil)))) tNext)
    (tSeq (tIfS (tTest (tOp rIsN (tVar 6) (tC .non))) (tRet (tC .non)) tNext)
    (tSeq (tAsg (tCall (liftSp K F_slope_at) [] E0 (tCons (tVar 0) (tCons (tVar 1) (tCons (tVar 2) tNil)))) (gTup K 3 (gCons (gName 7) (gCons (gName 8) (gCons (gName 9) gNil)))))
    (tSeq (tAsg (tOp (rI CDivW fun i j => .int (i / j)) (tOp (rI0 fun i j => .int (i - j)) (tVar 3) (tVar 7)) (tVar 8)) (gName 10))
    (tSeq (tAsg (tOp (rI0 fun i j => .int (i - j)) (tVar 3) (tOp (rMulU K) (tVar 10) (tVar 8))) (gName 11))
    (tRet (tTup (tCons (tOp (rIxU K) (tVar 4) (tVar 11)) (tCons (tCall (liftSp K F_added) [] E0 (tCons (tOp (rIxU K) (tVar 5) (tVar 11)) (tCons (tCall (liftSp K F_times) [] E0 (tCons (tVar 9) (tCons (tVar 10) tNil))) tNil))) tNil))))))))))
theorem d_led_by (ha : argOk xs = true) (h : F_led_by xs P) : SD K Γ (slots N_led_by xs) (t_led_by K) { nx := fun δ' => P .none ∧ Kept xs δ', rt := fun d δ' => P d ∧ Kept xs δ' } := by
  obtain ⟨m, a, w, n, rfl, k, ha', hw, hn, hP⟩ := h
  show SD K Γ [.d (machD m), .d (.int a), .d (.int w), .d (.int n), .un, .un, .un, .un, .un, .un, .un, .un] _ _
  unfold t_led_by
  repeat' (first|(with_reducible first|refine sd_seq ?_|refine sd_asgG ?_|refine ev_call ?_|refine ea_cons ?_|refine ea_nil ?_)|((with_reducible apply ev_v);exact rfl)|((with_reducible apply post_call);exact rfl)|simp only [List.set_cons_zero, List.set_cons_succ, Bool.not_true, Bool.not_false])
  refine ⟨m, a, w, rfl, k, ha', hw, fun ms gs t L => ?_⟩
  have hm := L.most k ha'
  have hp := L.pos
  repeat' (first|(with_reducible first|refine sd_seq ?_|refine sd_if ?_|refine et_test ?_|refine ev_op ?_|refine ev_cb1 ?_|refine ea_cons ?_|refine ea_nil ?_|refine gd_name ?_|refine gds_cons ?_|refine gds_nil ?_|refine od_I0b ?_|refine cd_lent ?_|refine post_d ?_|refine post_b ?_)|((with_reducible apply ev_v);exact rfl)|((with_reducible apply gd_tup);exact rfl)|simp only [List.set_cons_zero, List.set_cons_succ, Bool.not_true, Bool.not_false])
  refine ifB (fun h1 => ?_) (fun h1 => ?_)
  · rw [List.length_map] at h1
    have h1' : n < ms.length := by have := of_decide_eq_true h1; omega
    obtain ⟨b, g, h2, h3, h4⟩ := L.get h1'
    rw [h4] at hP
    repeat' (first|(with_reducible first|refine sd_ret ?_|refine ev_op ?_|refine ev_tup ?_|refine ea_cons ?_)|((with_reducible apply ev_v);exact rfl)|simp only [List.set_cons_zero, List.set_cons_succ, Bool.not_true, Bool.not_false])
    refine od_ixt (atI_nat (by rw [List.getElem?_map, h2]; rfl)) ?_
    repeat' (first|(with_reducible first|refine ev_op ?_|refine ea_cons ?_)|((with_reducible apply ev_v);exact rfl)|simp only [List.set_cons_zero, List.set_cons_succ, Bool.not_true, Bool.not_false])
    refine od_ixt (atI_nat (by rw [List.getElem?_map, h3]; rfl)) ?_
    repeat' (first|(with_reducible first|refine ea_nil ?_|refine post_d ?_)|((with_reducible apply post_all);exact rfl;exact Nat.le_of_ble_eq_true rfl)|((with_reducible apply ret_ok);exact rfl)|simp only [List.set_cons_zero, List.set_cons_succ, Bool.not_true, Bool.not_false])
    exact hP
  · rw [List.length_map] at h1
    have h1' : ms.length ≤ n := by have := of_decide_eq_false h1; omega
    cases t with
    | none =>
      rw [go_none k ha' (L.none_ rfl) h1'] at hP
      repeat' (first|(with_reducible first|refine sd_seq ?_|refine sd_ret ?_|refine sd_if ?_|refine sd_next ?_|refine et_test ?_|refine ev_op ?_|refine ev_cn ?_|refine ifT ?_|refine od_isN_n ?_|refine post_d ?_|refine post_b ?_)|((with_reducible apply ev_v);exact rfl)|((with_reducible apply ret_ok);exact rfl))
      exact hP
    | some k0 =>
      repeat' (first|(with_reducible first|refine sd_seq ?_|refine sd_if ?_|refine sd_next ?_|refine sd_asgG ?_|refine et_test ?_|refine ev_op ?_|refine ev_call ?_|refine ea_cons ?_|refine ea_nil ?_|refine ev_cn ?_|refine ifF ?_|refine od_isN_i ?_|refine post_b ?_)|((with_reducible apply ev_v);exact rfl)|((with_reducible apply post_call);exact rfl)|simp only [List.set_cons_zero, List.set_cons_succ, Bool.not_true, Bool.not_false])
      refine ⟨m, a, w, rfl, k, ha', hw, fun ms' gs' t' L' => ?_⟩
      obtain ⟨rfl, rfl, rfl⟩ := L.uniq L'
      refine ⟨(fun z => nomatch z), fun k1 b g0 g1 e1 e2 e3 e4 => ?_⟩
      cases e1
      obtain ⟨hk0, _⟩ := L.some_ k0 rfl
      have h0 := L.at_ _ _ _ e2 e3
      repeat' (first|(with_reducible first|refine sd_seq ?_|refine sd_asg ?_|refine ev_op ?_|refine gd_name ?_|refine gds_cons ?_|refine gds_nil ?_|refine od_I0i ?_|refine post_d ?_)|((with_reducible apply ev_v);exact rfl)|((with_reducible apply gd_tup);exact rfl)|simp only [List.set_cons_zero, List.set_cons_succ, Bool.not_true, Bool.not_false])
      obtain ⟨per, hper⟩ : ∃ per, per = ms.length - k0 := ⟨_, rfl⟩
      have hpp : 0 < per := by omega
      obtain ⟨q, hq⟩ : ∃ q, q = (n - k0) / per := ⟨_, rfl⟩
      obtain ⟨r, hr⟩ : ∃ r, r = (n - k0) % per := ⟨_, rfl⟩
      have hdm : per * q + r = n - k0 := by rw [hq, hr]; exact Nat.div_add_mod _ _
      have hrl : r < per := by rw [hr]; exact Nat.mod_lt _ hpp
      have hqn : q ≤ n := by rw [hq]; exact Nat.le_trans (Nat.div_le_self _ _) (Nat.sub_le _ _)
      have hcm : q * per = per * q := Nat.mul_comm _ _
      rw [← hper]
      refine od_Ii (C := CDivW) (g := fun i j => i / j) (wide_div (b := 8) (by omega) (by omega) (by decide) (by decide)) ?_
      have eq1 : ((n : Int) - (k0 : Int)) / (per : Int) = (q : Int) := by
        rw [show (n : Int) - (k0 : Int) = ((n - k0 : Nat) : Int) by omega, hq]
        exact (Int.natCast_ediv _ _).symm
      rw [eq1]
      repeat' (first|(with_reducible first|refine sd_seq ?_|refine sd_asg ?_|refine ev_op ?_|refine post_sd ?_)|((with_reducible apply ev_v);exact rfl)|simp only [List.set_cons_zero, List.set_cons_succ, Bool.not_true, Bool.not_false])
      refine od_muli (.inl (.inl ⟨by omega, by omega⟩)) ?_
      repeat' (first|(with_reducible first|refine sd_ret ?_|refine ev_op ?_|refine ev_tup ?_|refine ea_cons ?_|refine od_I0i ?_|refine post_sd ?_)|((with_reducible apply ev_v);exact rfl)|simp only [List.set_cons_zero, List.set_cons_succ, Bool.not_true, Bool.not_false])
      have eq2 : (n : Int) - (q : Int) * (per : Int) = ((k0 + r : Nat) : Int) := by
        have : (q : Int) * (per : Int) = ((q * per : Nat) : Int) := (Int.natCast_mul _ _).symm
        rw [this]
        omega
      rw [eq2]
      obtain ⟨c, x, h5, h6, h7⟩ := L.get (show k0 + r < ms.length by omega)
      have hgo := go_per k ha' (Nat.le_of_lt hk0) h0 e4 q (k0 + r) c x (by omega) h7
      rw [← hper, show k0 + r + q * per = n by omega] at hgo
      rw [hgo] at hP
      have l0 := (go_len k ha' h0).2
      have l1 := (go_len k ha' e4).2
      have lx := (go_len k ha' h7).2
      have hou := k.outs
      refine od_ixt (atI_nat (by rw [List.getElem?_map, h5]; rfl)) ?_
      repeat' (first|(with_reducible first|refine ev_op ?_|refine ev_call ?_|refine ea_cons ?_)|((with_reducible apply ev_v);exact rfl)|simp only [List.set_cons_zero, List.set_cons_succ, Bool.not_true, Bool.not_false])
      refine od_ixt (atI_nat (by rw [List.getElem?_map, h6]; rfl)) ?_
      repeat' (first|(with_reducible first|refine ev_call ?_|refine ea_cons ?_|refine ea_nil ?_)|((with_reducible apply ev_v);exact rfl)|((with_reducible apply post_call);exact rfl))
      refine ⟨subv g1 g0, q, rfl, fun z _ => .inl (.inr ⟨by omega, by omega⟩), by rw [subv_len (by rw [l0, l1])]; omega, ?_⟩
      repeat' (first|(with_reducible first|refine ea_nil ?_)|((with_reducible apply post_call);exact rfl))
      refine ⟨x, mulv (subv g1 g0) q, rfl, by rw [mulv_len, subv_len (by rw [l0, l1]), lx, l0], by omega, ?_⟩
      repeat' (first|(with_reducible first|refine ea_nil ?_|refine post_d ?_)|((with_reducible apply post_all);exact rfl;exact Nat.le_of_ble_eq_true rfl)|((with_reducible apply ret_ok);exact rfl)|simp only [List.set_cons_zero, List.set_cons_succ, Bool.not_true, Bool.not_false])
      exact hP
end
/-- tokens on all wires, one wire after another -/
def goV (m : Mach) : Nat → Nat → List Nat → Step
  | _, a, [] => some (a, List.replicate m.outs 0)
  | w, a, n :: r => (go m w n a).bind fun p => (goV m (w + 1) p.1 r).map (plus p.2)
theorem goV_len {m : Mach} (k : MachOk m) : ∀ {v : List Nat} {w a b : Nat} {g : List Int}, a < m.steps.length → goV m w a v = some (b, g) → b < m.steps.length ∧ g.length = m.outs
  | [], w, a, b, g, ha, h => by
    unfold goV at h
    cases h
    exact ⟨ha, by simp⟩
  | n :: v, w, a, b, g, ha, h => by
    unfold goV at h
    cases q : go m w n a with
    | none => rw [q] at h; cases h
    | some p =>
      obtain ⟨c, g0⟩ := p
      rw [q, Option.bind_some] at h
      obtain ⟨hc, hg⟩ := go_len k ha q
      cases q2 : goV m (w + 1) c v with
      | none => rw [q2] at h; cases h
      | some r =>
        obtain ⟨d, g1⟩ := r
        rw [q2] at h
        cases h
        obtain ⟨h1, h2⟩ := goV_len k hc q2
        exact ⟨h1, by
          show (addv g0 g1).length = _
          rw [addv_len (by rw [hg, h2])]; exact h2⟩
theorem goV_app {m : Mach} (k : MachOk m) : ∀ {v u : List Nat} {w a : Nat}, a < m.steps.length → goV m w a (v ++ u) = (goV m w a v).bind fun p => (goV m (w + v.length) p.1 u).map (plus p.2)
  | [], u, w, a, ha => by
    show goV m w a u = (goV m (w + 0) a u).map (plus (List.replicate m.outs 0))
    rw [Nat.add_zero]
    cases q : goV m w a u with
    | none => rfl
    | some p =>
      obtain ⟨c, h⟩ := p
      show _ = some (c, addv (List.replicate m.outs 0) h)
      rw [addv_zero (goV_len k ha q).2]
  | n :: v, u, w, a, ha => by
    show ((go m w n a).bind fun p => (goV m (w + 1) p.1 (v ++ u)).map (plus p.2)) = ((go m w n a).bind fun p => (goV m (w + 1) p.1 v).map (plus p.2)).bind fun p => (goV m (w + (v.length + 1)) p.1 u).map (plus p.2)
    cases q : go m w n a with
    | none => rfl
    | some p =>
      obtain ⟨b, g⟩ := p
      rw [Option.bind_some, Option.bind_some]
      show (goV m (w + 1) b (v ++ u)).map (plus g) = ((goV m (w + 1) b v).map (plus g)).bind _
      rw [goV_app k (go_len k ha q).1]
      cases goV m (w + 1) b v with
      | none => rfl
      | some r =>
        obtain ⟨c, h⟩ := r
        show ((goV m (w + 1 + v.length) c u).map (plus h)).map (plus g) = (goV m (w + (v.length + 1)) c u).map (plus (addv g h))
        rw [show w + 1 + v.length = w + (v.length + 1) by omega]
        cases goV m (w + (v.length + 1)) c u with
        | none => rfl
        | some r => exact congrArg some (plus_plus g h r)
theorem goV_one {m : Mach} (k : MachOk m) {w a n : Nat} (ha : a < m.steps.length) : goV m w a [n] = go m w n a := by
  show ((go m w n a).bind fun p => some (p.1, List.replicate m.outs 0) |>.map (plus p.2)) = go m w n a
  cases q : go m w n a with
  | none => rfl
  | some p =>
    obtain ⟨c, g⟩ := p
    show some (c, addv g (List.replicate m.outs 0)) = some (c, g)
    rw [addv_zero_r (go_len k ha q).2]
section
variable {K : Fg} {Γ : Ga} {xs : List Vl} {P : D → Prop} {δ : List Sl}
theorem enum_inv {k i : Nat} {xs : List D} {x : D} (h : (enumD k xs)[i]? = some x) : ∃ y, xs[i]? = some y ∧ x = .tuple [.int ((k + i : Nat) : Int), y] := by
  have hi := (List.getElem?_eq_some_iff.mp h).1
  rw [enumD_len] at hi
  have := enumD_get (i := k) (List.getElem?_eq_getElem hi)
  rw [h] at this
  exact ⟨_, List.getElem?_eq_getElem hi, Option.some.inj this⟩
def F_led : FS := fun xs P => ∃ (m : Mach) (a : Nat) (v : List Nat), xs = [.d (machD m), .d (.int a), .d (tN v)] ∧ MachOk m ∧ a < m.steps.length ∧ v.length ≤ m.ins ∧ (∀ n ∈ v, n < 2 ^ 62) ∧ P (stepD (goV m 0 a v))
abbrev N_led : List Str := ["machine", "mode", "vector", "here", "given", "wire", "many", "told"]
def t_led (K : Fg) : TS := (tSeq (tPar 3 4 (tCons (tVar 1) (tCons (tCall (liftSp K F_nothing) [] E0 (tCons (tOp (rIxU K) (tVar 0) (tC (.int 1))) tNil)) tNil)))
    (tSeq (tFor (iEnumK K (tCons (tVar 2) tNil)) (gTup K 2 (gCons (gName 5) (gCons (gName 6) gNil))) (tSeq (tAsg (tCall (liftSp K F_led_by) [] E0 (tCons (tVar 0) (tCons (tVar 3) (tCons (tVar 5) (tCons (tVar 6) tNil))))) (gName 7))
    (tSeq (tIfS (tTest (tOp rIsN (tVar 7) (tC .non))) (tRet (tC .non)) tNext)
    (tPar 3 4 (tCons (tOp (rIxU K) (tVar 7) (tC (.int 0))) (tCons (tCall (liftSp K F_added) [] E0 (tCons (tVar 4) (tCons (tOp (rIxU K) (tVar 7) (tC (.int 1))) tNil))) tNil))))))
    (tRet (tTup (tCons (tVar 3) (tCons (tVar 4) tNil))))))
theorem d_led (ha : argOk xs = true) (h : F_led xs P) : SD K Γ (slots N_led xs) (t_led K) { nx := fun δ' => P .none ∧ Kept xs δ', rt := fun d δ' => P d ∧ Kept xs δ' } := by
  obtain ⟨m, a, v, rfl, k, ha', hv, hn, hP⟩ := h
  show SD K Γ [.d (machD m), .d (.int a), .d (tN v), .un, .un, .un, .un, .un] _ _
  unfold t_led
  have hou := k.outs
  repeat' (first|(with_reducible first|refine sd_seq ?_|refine sd_par ?_|refine ev_op ?_|refine ev_call ?_|refine ea_cons ?_|refine ea_nil ?_|refine ev_ci ?_|refine od_m1 ?_)|((with_reducible apply ev_v);exact rfl)|((with_reducible apply post_call);exact rfl)|simp only [List.set_cons_zero, List.set_cons_succ, Bool.not_true, Bool.not_false])
  refine ⟨m.outs, rfl, by omega, ?_⟩
  repeat' (first|(with_reducible first|refine sd_seq ?_|refine ea_nil ?_)|((with_reducible apply post_par);exact rfl;exact rfl)|simp only [List.set_cons_zero, List.set_cons_succ, Bool.not_true, Bool.not_false])
  refine sd_for (ei_enumK ?_)
  repeat' (first|(with_reducible first|refine ea_cons ?_|refine ea_nil ?_)|((with_reducible apply ev_v);exact rfl)|simp only [List.set_cons_zero, List.set_cons_succ, Bool.not_true, Bool.not_false])
  refine ⟨_, .t, _, rfl, rfl, fun i δ' => ∃ b g s5 s6 s7, δ' = [.d (machD m), .d (.int a), .d (tN v), .d (.int (b : Nat)), .d (tI g), s5, s6, s7] ∧ goV m 0 a (v.take i) = some (b, g),
    ⟨a, _, _, _, _, rfl, rfl⟩, fun i x δ' hx hI => ?_, fun δ' hI => ?_⟩
  · obtain ⟨b, g, s5, s6, s7, rfl, hgo⟩ := hI
    obtain ⟨y, hy, rfl⟩ := enum_inv hx
    obtain ⟨n, hn', rfl⟩ := mapD_get hy
    rw [Nat.zero_add]
    have hi := (List.getElem?_eq_some_iff.mp hn').1
    obtain ⟨hb, hg⟩ := goV_len k ha' hgo
    have hgo2 : goV m 0 a (v.take (i + 1)) = (go m i n b).map (plus g) := by
      rw [List.take_add_one, hn', goV_app k ha', hgo, Option.bind_some]
      show (goV m (0 + (v.take i).length) b [n]).map (plus g) = _
      rw [goV_one k hb, List.length_take, Nat.zero_add, Nat.min_eq_left (Nat.le_of_lt hi)]
    repeat' (first|(with_reducible first|refine sd_seq ?_|refine sd_asg ?_|refine ev_call ?_|refine ea_cons ?_|refine ea_nil ?_|refine gd_name ?_|refine gds_cons ?_|refine gds_nil ?_)|((with_reducible apply ev_v);exact rfl)|((with_reducible apply gd_tup);exact rfl)|((with_reducible apply post_call);exact rfl)|simp only [List.set_cons_zero, List.set_cons_succ, Bool.not_true, Bool.not_false])
    refine ⟨m, b, i, n, rfl, k, hb, by omega, hn n (List.mem_of_getElem? hn'), ?_⟩
    cases q : go m i n b with
    | none =>
      have hgo3 : goV m 0 a v = none := by
        have := goV_app k (v := v.take (i + 1)) (u := v.drop (i + 1)) (w := 0) ha'
        rw [List.take_append_drop, hgo2, q] at this
        exact this
      rw [hgo3] at hP
      repeat' (first|(with_reducible first|refine sd_seq ?_|refine sd_ret ?_|refine sd_if ?_|refine et_test ?_|refine ev_op ?_|refine ev_cn ?_|refine ifT ?_|refine od_isN_n ?_|refine post_d ?_|refine post_b ?_|refine post_sd ?_)|((with_reducible apply ev_v);exact rfl)|((with_reducible apply ret_ok);exact rfl))
      exact hP
    | some r =>
      obtain ⟨c, h⟩ := r
      obtain ⟨hc, hh⟩ := go_len k hb q
      repeat' (first|(with_reducible first|refine sd_seq ?_|refine sd_if ?_|refine sd_par ?_|refine sd_next ?_|refine et_test ?_|refine ev_op ?_|refine ev_call ?_|refine ea_cons ?_|refine ea_nil ?_|refine ev_ci ?_|refine ev_cn ?_|refine ifF ?_|refine od_isN_t ?_|refine post_b ?_|refine post_sd ?_)|((with_reducible apply ev_v);exact rfl)|((with_reducible apply post_call);exact rfl)|((with_reducible apply od_ixt);exact rfl)|simp only [List.set_cons_zero, List.set_cons_succ, Bool.not_true, Bool.not_false])
      refine ⟨g, h, rfl, by rw [hg, hh], by omega, ?_⟩
      repeat' (first|(with_reducible first|refine ea_nil ?_)|((with_reducible apply post_par);exact rfl;exact rfl))
      exact ⟨c, addv g h, _, _, _, rfl, by rw [hgo2, q]; rfl⟩
  · obtain ⟨b, g, s5, s6, s7, rfl, hgo⟩ := hI
    rw [enumD_len, List.length_map, List.take_length] at hgo
    rw [hgo] at hP
    repeat' (first|(with_reducible first|refine sd_ret ?_|refine ev_tup ?_|refine ea_cons ?_|refine ea_nil ?_|refine post_d ?_)|((with_reducible apply ev_v);exact rfl)|((with_reducible apply post_all);exact rfl;exact Nat.le_of_ble_eq_true rfl)|((with_reducible apply ret_ok);exact rfl)|simp only [List.set_cons_zero, List.set_cons_succ, Bool.not_true, Bool.not_false])
    exact hP
def ansD : Step → D
  | none => .none
  | some (_, g) => tI g
def modD : Step → D
  | none => .none
  | some (b, _) => .int b
def F_answer_to : FS := fun xs P => ∃ (m : Mach) (v : List Nat), xs = [.d (machD m), .d (tN v)] ∧ MachOk m ∧ v.length ≤ m.ins ∧ (∀ n ∈ v, n < 2 ^ 62) ∧ P (ansD (goV m 0 0 v))
abbrev N_answer_to : List Str := ["machine", "vector", "told"]
def t_answer_to (K : Fg) : TS := (tSeq (tAsg (tCall (liftSp K F_led) [] E0 (tCons (tVar 0) (tCons (tC (.int 0)) (tCons (tVar 1) tNil)))) (gName 2))
    (tRet (tIf (tTest (tOp rNoN (tVar 2) (tC .non))) (tOp (rIxU K) (tVar 2) (tC (.int 1))) (tC .non))))
theorem d_answer_to (ha : argOk xs = true) (h : F_answer_to xs P) : SD K Γ (slots N_answer_to xs) (t_answer_to K) { nx := fun δ' => P .none ∧ Kept xs δ', rt := fun d δ' => P d ∧ Kept xs δ' } := by
  obtain ⟨m, v, rfl, k, hv, hn, hP⟩ := h
  show SD K Γ [.d (machD m), .d (tN v), .un] _ _
  unfold t_answer_to
  repeat' (first|(with_reducible first|refine sd_seq ?_|refine sd_asg ?_|refine ev_call ?_|refine ea_cons ?_|refine ea_nil ?_|refine ev_ci ?_)|((with_reducible apply ev_v);exact rfl)|((with_reducible apply post_call);exact rfl)|simp only [List.set_cons_zero, List.set_cons_succ, Bool.not_true, Bool.not_false])
  refine ⟨m, 0, v, rfl, k, k.pos, hv, hn, ?_⟩
  cases q : goV m 0 0 v with
  | none =>
    rw [q] at hP
    repeat' (first|(with_reducible first|refine sd_ret ?_|refine ev_if ?_|refine et_test ?_|refine ev_op ?_|refine ev_cn ?_|refine ifF ?_|refine od_noN_n ?_|refine post_d ?_|refine post_b ?_|refine post_sd ?_)|((with_reducible apply ev_v);exact rfl)|((with_reducible apply ret_ok);exact rfl))
    exact hP
  | some r =>
    obtain ⟨c, h⟩ := r
    rw [q] at hP
    repeat' (first|(with_reducible first|refine sd_ret ?_|refine ev_if ?_|refine et_test ?_|refine ev_op ?_|refine ev_ci ?_|refine ev_cn ?_|refine ifT ?_|refine od_noN_t ?_|refine post_d ?_|refine post_b ?_|refine post_sd ?_)|((with_reducible apply ev_v);exact rfl)|((with_reducible apply od_ixt);exact rfl)|((with_reducible apply ret_ok);exact rfl))
    exact hP
def F_mode_behind : FS := fun xs P => ∃ (m : Mach) (v : List Nat), xs = [.d (machD m), .d (tN v)] ∧ MachOk m ∧ v.length ≤ m.ins ∧ (∀ n ∈ v, n < 2 ^ 62) ∧ P (modD (goV m 0 0 v))
abbrev N_mode_behind : List Str := ["machine", "vector", "told"]
def t_mode_behind (K : Fg) : TS := (tSeq (tAsg (tCall (liftSp K F_led) [] E0 (tCons (tVar 0) (tCons (tC (.int 0)) (tCons (tVar 1) tNil)))) (gName 2))
    (tRet (tIf (tTest (tOp rNoN (tVar 2) (tC .non))) (tOp (rIxU K) (tVar 2) (tC (.int 0))) (tC .non))))
theorem d_mode_behind (ha : argOk xs = true) (h : F_mode_behind xs P) : SD K Γ (slots N_mode_behind xs) (t_mode_behind K) { nx := fun δ' => P .none ∧ Kept xs δ', rt := fun d δ' => P d ∧ Kept xs δ' } := by
  obtain ⟨m, v, rfl, k, hv, hn, hP⟩ := h
  show SD K Γ [.d (machD m), .d (tN v), .un] _ _
  unfold t_mode_behind
  repeat' (first|(with_reducible first|refine sd_seq ?_|refine sd_asg ?_|refine ev_call ?_|refine ea_cons ?_|refine ea_nil ?_|refine ev_ci ?_)|((with_reducible apply ev_v);exact rfl)|((with_reducible apply post_call);exact rfl)|simp only [List.set_cons_zero, List.set_cons_succ, Bool.not_true, Bool.not_false])
  refine ⟨m, 0, v, rfl, k, k.pos, hv, hn, ?_⟩
  cases q : goV m 0 0 v with
  | none =>
    rw [q] at hP
    repeat' (first|(with_reducible first|refine sd_ret ?_|refine ev_if ?_|refine et_test ?_|refine ev_op ?_|refine ev_cn ?_|refine ifF ?_|refine od_noN_n ?_|refine post_d ?_|refine post_b ?_|refine post_sd ?_)|((with_reducible apply ev_v);exact rfl)|((with_reducible apply ret_ok);exact rfl))
    exact hP
  | some r =>
    obtain ⟨c, h⟩ := r
    rw [q] at hP
    repeat' (first|(with_reducible first|refine sd_ret ?_|refine ev_if ?_|refine et_test ?_|refine ev_op ?_|refine ev_ci ?_|refine ev_cn ?_|refine ifT ?_|refine od_noN_t ?_|refine post_d ?_|refine post_b ?_|refine post_sd ?_)|((with_reducible apply ev_v);exact rfl)|((with_reducible apply od_ixt);exact rfl)|((with_reducible apply ret_ok);exact rfl))
    exact hP
def F_does_rest : FS := fun xs P => ∃ (m : Mach) (v : List Nat), xs = [.d (machD m), .d (tN v)] ∧ MachOk m ∧ v.length ≤ m.ins ∧ (∀ n ∈ v, n < 2 ^ 62) ∧ P (.bool (goV m 0 0 v).isSome)
abbrev N_does_rest : List Str := ["machine", "vector"]
def t_does_rest (K : Fg) : TS := (tRet (tOp rNoN (tCall (liftSp K F_led) [] E0 (tCons (tVar 0) (tCons (tC (.int 0)) (tCons (tVar 1) tNil)))) (tC .non)))
theorem d_does_rest (ha : argOk xs = true) (h : F_does_rest xs P) : SD K Γ (slots N_does_rest xs) (t_does_rest K) { nx := fun δ' => P .none ∧ Kept xs δ', rt := fun d δ' => P d ∧ Kept xs δ' } := by
  obtain ⟨m, v, rfl, k, hv, hn, hP⟩ := h
  show SD K Γ [.d (machD m), .d (tN v)] _ _
  unfold t_does_rest
  repeat' (first|(with_reducible first|refine sd_ret ?_|refine ev_op ?_|refine ev_call ?_|refine ea_cons ?_|refine ea_nil ?_|refine ev_ci ?_)|((with_reducible apply ev_v);exact rfl)|((with_reducible apply post_call);exact rfl)|simp only [List.set_cons_zero, List.set_cons_succ, Bool.not_true, Bool.not_false])
  refine ⟨m, 0, v, rfl, k, k.pos, hv, hn, ?_⟩
  cases q : goV m 0 0 v with
  | none =>
    rw [q] at hP
    repeat' (first|(with_reducible first|refine ev_cn ?_|refine od_noN_n ?_|refine post_d ?_)|((with_reducible apply ret_ok);exact rfl))
    exact hP
  | some r =>
    obtain ⟨c, h⟩ := r
    rw [q] at hP
    repeat' (first|(with_reducible first|refine ev_cn ?_|refine od_noN_t ?_|refine post_d ?_)|((with_reducible apply ret_ok);exact rfl))
    exact hP
end
end Lw

namespace Lw
open PySem PySem.Spec PyProof.Rows L2 Dl
/-! the part commuting: what each def keeps, of machines -/
def StepOk (outs modes : Nat) (s : Step) : Prop := ∀ b g, s = some (b, g) → b < modes ∧ g.length = outs ∧ ∀ x ∈ g, 0 ≤ x ∧ x ≤ 9999
def F_is_step : FS := fun xs P => ∃ (outs modes : Nat) (s : Step), xs = [.d (.int outs), .d (.int modes), .d (stepD s)] ∧ outs ≤ 1000 ∧ StepOk outs modes s ∧ P (.bool true)
abbrev N_is_step : List Str := ["outs", "modes", "value", "one"]
def t_is_step (K : Fg) : TS := (tSeq (tIfS (tTest (tOp rIsN (tVar 2) (tC .non))) (tRet (tC (.bl true))) tNext)
    (tSeq (tIfS (tOr (tNot (tB (tCB (rIsi K) (tCons (tVar 2) (tCons (tC (.ty "tuple")) tNil))))) (tOr (tTest (tOp (rNeU K) (tCB (rLenU K) (tCons (tVar 2) tNil)) (tC (.int 2)))) (tOr (tNot (tB (tCall (liftSp K F_is_whole) [] E0 (tCons (tOp (rIxU K) (tVar 2) (tC (.int 0))) tNil)))) (tNot (tTest (tChain (rI0 fun i j => .bl (decide (i ≤ j))) (rI0 fun i j => .bl (decide (i < j))) (tC (.int 0)) (tOp (rIxU K) (tVar 2) (tC (.int 0))) (tVar 1))))))) (tRet (tC (.bl false))) tNext)
    (tRet (tAndV (tCall (liftSp K F_is_vector) [] E0 (tCons (tVar 0) (tCons (tOp (rIxU K) (tVar 2) (tC (.int 1))) tNil))) (tOp (rEqU K) (tLc (iSeqU K (tOp (rIxU K) (tVar 2) (tC (.int 1)))) (gName 3) (tTest (tOp (rI0 fun i j => .bl (decide (i > j))) (tVar 3) (tC (.int 9999)))) (tC (.int 1)) [3]) (tLst tNil))))))
def F_is_machine : FS := fun xs P => ∃ (m : Mach), xs = [.d (machD m)] ∧ MachOk m ∧ P (.bool true)
abbrev N_is_machine : List Str := ["value", "ins", "outs", "steps", "line", "one"]
def t_is_machine (K : Fg) : TS := (tSeq (tIfS (tOr (tNot (tB (tCB (rIsi K) (tCons (tVar 0) (tCons (tC (.ty "tuple")) tNil))))) (tOr (tTest (tOp (rNeU K) (tCB (rLenU K) (tCons (tVar 0) tNil)) (tC (.int 3)))) (tNot (tB (tCall (liftSp K F_is_vector) [] E0 (tCons (tC (.int 2)) (tCons (tSl (rSlU K) (tVar 0) tNoPart (tPart (tC (.int 2)))) tNil))))))) (tRet (tC (.bl false))) tNext)
    (tSeq (tAsg (tVar 0) (gTup K 3 (gCons (gName 1) (gCons (gName 2) (gCons (gName 3) gNil)))))
    (tSeq (tIfS (tOr (tTest (tOp (rI0 fun i j => .bl (decide (i > j))) (tVar 1) (tC (.int 40)))) (tTest (tOp (rI0 fun i j => .bl (decide (i > j))) (tVar 2) (tC (.int 400))))) (tRet (tC (.bl false))) tNext)
    (tSeq (tIfS (tOr (tNot (tB (tCB (rIsi K) (tCons (tVar 3) (tCons (tC (.ty "tuple")) tNil))))) (tNot (tTest (tChain (rI0 fun i j => .bl (decide (i < j))) (rI0 fun i j => .bl (decide (i ≤ j))) (tC (.int 0)) (tCB (rLenU K) (tCons (tVar 3) tNil)) (tC (.int 150)))))) (tRet (tC (.bl false))) tNext)
    (tSeq (tIfS (tNot (tB (tCB (rAll K) (tCons (tLc (iSeqU K (tVar 3)) (gName 4) tYes (tAndV (tCB (rIsi K) (tCons (tVar 4) (tCons (tC (.ty "tuple")) tNil))) (tOp (rEqU K) (tCB (rLenU K) (tCons (tVar 4) tNil)) (tVar 1))) [4]) tNil)))) (tRet (tC (.bl false))) tNext)
    (tRet (tCB (rAll K) (tCons (tLc (iSeqU K (tVar 3)) (gName 4) tYes (tCB (rAll K) (tCons (tLc (iSeqU K (tVar 4)) (gName 5) tYes (tCall (liftSp K F_is_step) [] E0 (tCons (tVar 2) (tCons (tCB (rLenU K) (tCons (tVar 3) tNil)) (tCons (tVar 5) tNil)))) [5]) tNil)) [4]) tNil))))))))
def two (m : Mach) (a i j : Nat) : Step := (m.st a i).bind fun p => (m.st p.1 j).map (plus p.2)
def F_two_steps : FS := fun xs P => ∃ (m : Mach) (a i j : Nat), xs = [.d (machD m), .d (.int a), .d (.int i), .d (.int j)] ∧ MachOk m ∧ a < m.steps.length ∧ i < m.ins ∧ j < m.ins ∧ P (stepD (two m a i j))
abbrev N_two_steps : List Str := ["machine", "mode", "one", "other", "first", "second"]
def t_two_steps (K : Fg) : TS := (tSeq (tAsg (tOp (rIxU K) (tOp (rIxU K) (tOp (rIxU K) (tVar 0) (tC (.int 2))) (tVar 1)) (tVar 2)) (gName 4))
    (tSeq (tAsg (tIf (tTest (tOp rNoN (tVar 4) (tC .non))) (tOp (rIxU K) (tOp (rIxU K) (tOp (rIxU K) (tVar 0) (tC (.int 2))) (tOp (rIxU K) (tVar 4) (tC (.int 0)))) (tVar 3)) (tC .non)) (gName 5))
    (tRet (tIf (tTest (tOp rNoN (tVar 5) (tC .non))) (tTup (tCons (tOp (rIxU K) (tVar 5) (tC (.int 0))) (tCons (tCall (liftSp K F_added) [] E0 (tCons (tOp (rIxU K) (tVar 4) (tC (.int 1))) (tCons (tOp (rIxU K) (tVar 5) (tC (.int 1))) tNil))) tNil))) (tC .non)))))
section
variable {K : Fg} {Γ : Ga} {xs : List Vl} {P : D → Prop} {δ : List Sl}
theorem cd_allT {α : Type} {l : List α} {x : Vl} {P : Vl → Prop} (hx : x.lst = some ((l.map fun _ => true).map PyData.bool)) (h : P (.d (.bool true))) : CaD K (rAll K) [x] P := by
  refine cd_all hx ?_
  have e : (l.map fun _ => true).all id = true := by simp
  rw [e]
  exact h
theorem eqv_nil : PyData.eqv (.list []) (.list []) = true := by decide +kernel
theorem shaped_nil : SeqAt.shaped (.list []) = true := by decide +kernel
theorem d_is_step (ha : argOk xs = true) (h : F_is_step xs P) : SD K Γ (slots N_is_step xs) (t_is_step K) { nx := fun δ' => P .none ∧ Kept xs δ', rt := fun d δ' => P d ∧ Kept xs δ' } := by
  obtain ⟨outs, modes, s, rfl, ho, hs, hP⟩ := h
  show SD K Γ [.d (.int outs), .d (.int modes), .d (stepD s), .un] _ _
  unfold t_is_step
  cases s with
  | none =>
    repeat' (first|(with_reducible first|refine sd_seq ?_|refine sd_ret ?_|refine sd_if ?_|refine et_test ?_|refine ev_op ?_|refine ev_cb ?_|refine ev_cn ?_|refine ifT ?_|refine od_isN_n ?_|refine post_d ?_|refine post_b ?_)|((with_reducible apply ev_v);exact rfl)|((with_reducible apply ret_ok);exact rfl))
    exact hP
  | some r =>
    obtain ⟨b, g⟩ := r
    obtain ⟨hb, hg, hx⟩ := hs b g rfl
    repeat' (first|(with_reducible first|refine sd_seq ?_|refine sd_if ?_|refine sd_next ?_|refine et_B ?_|refine et_test ?_|refine et_or ?_|refine et_not ?_|refine ev_isTup ?_|refine ev_op ?_|refine ev_cb1 ?_|refine ea_cons ?_|refine ea_nil ?_|refine ev_ci ?_|refine ev_cn ?_|refine ifF ?_|refine od_nei ?_|refine od_isN_t ?_|refine cd_lent ?_|refine post_b ?_)|((with_reducible apply ev_v);exact rfl)|((with_reducible apply post_m);exact rfl)|simp only [List.set_cons_zero, List.set_cons_succ, Bool.not_true, Bool.not_false])
    refine ifF ?_
    repeat' (first|(with_reducible first|refine et_B ?_|refine et_or ?_|refine et_not ?_|refine ev_op ?_|refine ev_call ?_|refine ea_cons ?_|refine ea_nil ?_|refine ev_ci ?_)|((with_reducible apply ev_v);exact rfl)|((with_reducible apply post_call);exact rfl)|((with_reducible apply od_ixt);exact rfl)|simp only [List.set_cons_zero, List.set_cons_succ, Bool.not_true, Bool.not_false])
    refine ⟨b, rfl, ?_⟩
    repeat' (first|(with_reducible first|refine et_test ?_|refine et_not ?_|refine ev_chain ?_|refine ev_op ?_|refine ev_ci ?_|refine ifF ?_|refine od_I0b ?_|refine post_b ?_)|((with_reducible apply ev_v);exact rfl)|((with_reducible apply od_ixt);exact rfl)|simp only [List.set_cons_zero, List.set_cons_succ, Bool.not_true, Bool.not_false])
    rw [decide_eq_true (show (0 : Int) ≤ (b : Int) by omega)]
    repeat' (first|(with_reducible first|refine ifT ?_|refine od_I0b ?_|refine post_b ?_)|((with_reducible apply ev_v);exact rfl))
    rw [decide_eq_true (show (b : Int) < (modes : Int) by omega)]
    repeat' (first|(with_reducible first|refine sd_ret ?_|refine sd_next ?_|refine ev_andV ?_|refine ev_op ?_|refine ev_call ?_|refine ea_cons ?_|refine ea_nil ?_|refine ev_ci ?_|refine ifF ?_)|((with_reducible apply ev_v);exact rfl)|((with_reducible apply post_call);exact rfl)|((with_reducible apply od_ixt);exact rfl)|simp only [List.set_cons_zero, List.set_cons_succ, Bool.not_true, Bool.not_false])
    refine ⟨outs, g, rfl, by omega, ?_⟩
    rw [hg, decide_eq_true rfl, Bool.true_and, List.all_eq_true.mpr fun x h => decide_eq_true (hx x h).1]
    repeat' (first|(with_reducible first|refine ev_op ?_|refine ifT ?_|refine post_b ?_))
    refine ev_lcF (noA1 rfl rfl) (ei_Ut ?_)
    repeat' (first|(with_reducible first|refine ev_op ?_|refine ev_ci ?_|refine post_t ?_)|((with_reducible apply ev_v);exact rfl)|((with_reducible apply od_ixt);exact rfl))
    refine ⟨by rw [List.length_map]; omega, fun _ => none, fun i x hx' => ?_, fun p => ?_⟩
    · obtain ⟨u, hu, rfl⟩ := mapD_get hx'
      repeat' (first|(with_reducible first|refine et_test ?_|refine ev_op ?_|refine ev_ci ?_|refine od_I0b ?_|refine post_b ?_)|((with_reducible apply ev_v);exact rfl)|((with_reducible apply gv_name);exact (by simp))|simp only [List.set_cons_zero, List.set_cons_succ, Bool.not_true, Bool.not_false])
      rw [decide_eq_false (show ¬ u > 9999 by have := (hx u (List.mem_of_getElem? hu)).2; omega)]
      repeat' (first|(with_reducible first|refine ifF ?_)|simp only [List.set_cons_zero, List.set_cons_succ, Bool.not_true, Bool.not_false])
    · rw [show (g.map PyData.int).filterMap (fun _ => (none : Option D)) = [] from List.filterMap_eq_nil_iff.mpr fun _ _ => rfl]
      repeat' (first|(with_reducible first|refine ev_lst ?_|refine ea_nil ?_)|((with_reducible apply post_all);exact rfl;exact Nat.le_of_ble_eq_true rfl)|(with_reducible first|intro _))
      refine od_eqD rfl rfl shaped_nil shaped_nil ?_
      rw [eqv_nil]
      repeat' (first|(with_reducible first|refine post_d ?_)|((with_reducible apply ret_ok);exact rfl))
      exact hP
theorem d_two_steps (ha : argOk xs = true) (h : F_two_steps xs P) : SD K Γ (slots N_two_steps xs) (t_two_steps K) { nx := fun δ' => P .none ∧ Kept xs δ', rt := fun d δ' => P d ∧ Kept xs δ' } := by
  obtain ⟨m, a, i, j, rfl, k, ha', hi, hj, hP⟩ := h
  show SD K Γ [.d (machD m), .d (.int a), .d (.int i), .d (.int j), .un, .un] _ _
  unfold t_two_steps
  have hou := k.outs
  repeat' (first|((with_reducible apply ev_mst);exact rfl;assumption)|(with_reducible first|refine sd_seq ?_|refine sd_asg ?_|refine ev_if ?_|refine et_test ?_|refine ev_op ?_|refine ev_cn ?_|refine od_noN ?_|refine post_b ?_|refine post_sd ?_|refine post_n ?_)|((with_reducible apply ev_v);exact rfl)|(with_reducible first|refine And.intro (by assumption) ?_)|simp only [List.set_cons_zero, List.set_cons_succ, Bool.not_true, Bool.not_false])
  cases q : m.st a i with
  | none =>
    have e : two m a i j = none := by unfold two; rw [q]; rfl
    rw [e] at hP
    refine ifF ?_
    repeat' (first|(with_reducible first|refine sd_ret ?_|refine ev_if ?_|refine et_test ?_|refine ev_op ?_|refine ev_cn ?_|refine ifF ?_|refine od_noN_n ?_|refine post_d ?_|refine post_b ?_|refine post_sd ?_)|((with_reducible apply ev_v);exact rfl)|((with_reducible apply ret_ok);exact rfl))
    exact hP
  | some r =>
    obtain ⟨b, g⟩ := r
    obtain ⟨hb, hg, hx⟩ := k.st q
    refine ifT ?_
    repeat' (first|((with_reducible apply ev_mst);exact rfl;assumption)|(with_reducible first|refine sd_ret ?_|refine ev_if ?_|refine et_test ?_|refine ev_op ?_|refine ev_ci ?_|refine ev_cn ?_|refine od_noN ?_|refine post_b ?_|refine post_sd ?_|refine post_n ?_)|((with_reducible apply ev_v);exact rfl)|((with_reducible apply od_ixt);exact rfl)|(with_reducible first|refine And.intro (by assumption) ?_)|simp only [List.set_cons_zero, List.set_cons_succ, Bool.not_true, Bool.not_false])
    cases q2 : m.st b j with
    | none =>
      have e : two m a i j = none := by unfold two; rw [q, Option.bind_some, q2]; rfl
      rw [e] at hP
      refine ifF ?_
      repeat' (first|(with_reducible first|refine ev_cn ?_|refine post_d ?_)|((with_reducible apply ret_ok);exact rfl))
      exact hP
    | some r =>
      obtain ⟨c, h⟩ := r
      obtain ⟨hc, hh, hx2⟩ := k.st q2
      have e : two m a i j = some (c, addv g h) := by unfold two; rw [q, Option.bind_some, q2]; rfl
      rw [e] at hP
      refine ifT ?_
      repeat' (first|(with_reducible first|refine ev_op ?_|refine ev_tup ?_|refine ev_call ?_|refine ea_cons ?_|refine ea_nil ?_|refine ev_ci ?_)|((with_reducible apply ev_v);exact rfl)|((with_reducible apply post_call);exact rfl)|((with_reducible apply od_ixt);exact rfl))
      refine ⟨g, h, rfl, by rw [hg, hh], by omega, ?_⟩
      repeat' (first|(with_reducible first|refine ea_nil ?_|refine post_d ?_)|((with_reducible apply post_all);exact rfl;exact Nat.le_of_ble_eq_true rfl)|((with_reducible apply ret_ok);exact rfl)|simp only [List.set_cons_zero, List.set_cons_succ, Bool.not_true, Bool.not_false])
      exact hP
theorem d_is_machine (ha : argOk xs = true) (h : F_is_machine xs P) : SD K Γ (slots N_is_machine xs) (t_is_machine K) { nx := fun δ' => P .none ∧ Kept xs δ', rt := fun d δ' => P d ∧ Kept xs δ' } := by
  obtain ⟨m, rfl, k, hP⟩ := h
  have e : machD m = .tuple [.int m.ins, .int m.outs, .tuple (m.steps.map lineD)] := rfl
  rw [e]
  show SD K Γ [.d (.tuple [.int m.ins, .int m.outs, .tuple (m.steps.map lineD)]), .un, .un, .un, .un, .un] _ _
  unfold t_is_machine
  have hi := k.ins
  have hou := k.outs
  have hp := k.pos
  have hm := k.most
  repeat' (first|(with_reducible first|refine sd_seq ?_|refine sd_if ?_|refine et_B ?_|refine et_test ?_|refine et_or ?_|refine et_not ?_|refine ev_isTup ?_|refine ev_op ?_|refine ev_cb1 ?_|refine ea_cons ?_|refine ea_nil ?_|refine ev_ci ?_|refine ifF ?_|refine od_nei ?_|refine cd_lent ?_|refine post_b ?_)|((with_reducible apply ev_v);exact rfl)|((with_reducible apply post_m);exact rfl)|simp only [List.set_cons_zero, List.set_cons_succ, Bool.not_true, Bool.not_false])
  refine ifF ?_
  repeat' (first|(with_reducible first|refine et_B ?_|refine et_not ?_|refine ev_sl ?_|refine eo_n ?_|refine eo_s ?_|refine ev_call ?_|refine ea_cons ?_|refine ev_ci ?_|refine post_i ?_)|((with_reducible apply ev_v);exact rfl))
  refine sd_slt ?_
  repeat' (first|(with_reducible first|refine ea_nil ?_)|((with_reducible apply post_call);exact rfl))
  refine ⟨2, [(m.ins : Int), (m.outs : Int)], rfl, Nat.le_of_ble_eq_true rfl, ?_⟩
  have e2 : (decide ((([(m.ins : Int), (m.outs : Int)] : List Int).length : Int) = 2) && ([(m.ins : Int), (m.outs : Int)] : List Int).all fun x => decide (0 ≤ x)) = true := by simp
  rw [e2]
  repeat' (first|(with_reducible first|refine sd_seq ?_|refine sd_if ?_|refine sd_next ?_|refine sd_asgG ?_|refine et_test ?_|refine et_or ?_|refine ev_op ?_|refine ev_ci ?_|refine gd_name ?_|refine gds_cons ?_|refine gds_nil ?_|refine ifF ?_|refine od_I0b ?_|refine post_d ?_|refine post_b ?_)|((with_reducible apply ev_v);exact rfl)|((with_reducible apply gd_tup);exact rfl)|simp only [List.set_cons_zero, List.set_cons_succ, Bool.not_true, Bool.not_false])
  rw [decide_eq_false (show ¬ (m.ins : Int) > 40 by omega)]
  repeat' (first|(with_reducible first|refine et_test ?_|refine ev_op ?_|refine ev_ci ?_|refine ifF ?_|refine od_I0b ?_|refine post_b ?_)|((with_reducible apply ev_v);exact rfl))
  rw [decide_eq_false (show ¬ (m.outs : Int) > 400 by omega)]
  repeat' (first|(with_reducible first|refine sd_seq ?_|refine sd_if ?_|refine sd_next ?_|refine et_B ?_|refine et_test ?_|refine et_or ?_|refine et_not ?_|refine ev_chain ?_|refine ev_isTup ?_|refine ev_cb1 ?_|refine ea_cons ?_|refine ea_nil ?_|refine ev_ci ?_|refine ifF ?_|refine od_I0b ?_|refine cd_lent ?_|refine post_b ?_)|((with_reducible apply ev_v);exact rfl)|((with_reducible apply post_m);exact rfl)|simp only [List.set_cons_zero, List.set_cons_succ, Bool.not_true, Bool.not_false])
  rw [List.length_map, decide_eq_true (show (0 : Int) < (m.steps.length : Int) by omega)]
  repeat' (first|(with_reducible first|refine ev_ci ?_|refine ifT ?_|refine od_I0b ?_|refine post_b ?_))
  rw [decide_eq_true (show (m.steps.length : Int) ≤ 150 by omega)]
  repeat' (first|(with_reducible first|refine sd_seq ?_|refine sd_if ?_|refine sd_next ?_|refine et_B ?_|refine et_not ?_|refine ev_cb1 ?_|refine ea_cons ?_|refine ifF ?_)|simp only [List.set_cons_zero, List.set_cons_succ, Bool.not_true, Bool.not_false])
  refine ev_lcM (noA1 rfl rfl) (ei_Ut ?_)
  repeat' (first|(with_reducible first|refine post_t ?_)|((with_reducible apply ev_v);exact rfl))
  refine ⟨by rw [List.length_map]; omega, (m.steps.map fun _ => true).map .bool, by simp, fun i x y hx hy => ?_, fun p => ?_⟩
  · obtain ⟨l, hl, rfl⟩ := mapD_get hx
    obtain ⟨b, hb, rfl⟩ := mapD_get hy
    obtain ⟨_, _, rfl⟩ := mapD_get hb
    have hw := k.wide l (List.mem_of_getElem? hl)
    repeat' (first|(with_reducible first|refine ev_andV ?_|refine ev_isTup ?_|refine ev_op ?_|refine ev_cb1 ?_|refine ea_cons ?_|refine ea_nil ?_|refine ifT ?_|refine od_eqi ?_|refine cd_lent ?_|refine post_b ?_)|((with_reducible apply ev_v);exact rfl)|((with_reducible apply post_m);exact rfl)|((with_reducible apply gv_name);exact (by simp)))
    rw [List.length_map, hw, decide_eq_true rfl]
  repeat' (first|(with_reducible first|refine ea_nil ?_))
  refine cd_allT (l := m.steps) rfl ?_
  repeat' (first|(with_reducible first|refine sd_ret ?_|refine sd_next ?_|refine ev_cb1 ?_|refine ea_cons ?_|refine ifF ?_|refine post_b ?_)|simp only [List.set_cons_zero, List.set_cons_succ, Bool.not_true, Bool.not_false])
  refine ev_lcM (noA1 rfl rfl) (ei_Ut ?_)
  repeat' (first|(with_reducible first|refine post_t ?_)|((with_reducible apply ev_v);exact rfl))
  refine ⟨by rw [List.length_map]; omega, (m.steps.map fun _ => true).map .bool, by simp, fun i x y hx hy => ?_, fun p => ?_⟩
  · obtain ⟨l, hl, rfl⟩ := mapD_get hx
    obtain ⟨b, hb, rfl⟩ := mapD_get hy
    obtain ⟨_, _, rfl⟩ := mapD_get hb
    have hw := k.wide l (List.mem_of_getElem? hl)
    have hs := k.step l (List.mem_of_getElem? hl)
    repeat' (first|(with_reducible first|refine ev_cb1 ?_|refine ea_cons ?_)|((with_reducible apply gv_name);exact (by simp)))
    refine ev_lcM (noA1 rfl rfl) (ei_Ut ?_)
    repeat' (first|(with_reducible first|refine post_t ?_)|((with_reducible apply ev_v);exact rfl))
    refine ⟨by rw [List.length_map]; omega, (l.map fun _ => true).map .bool, by simp, fun i x y hx hy => ?_, fun p => ?_⟩
    · obtain ⟨s, hs', rfl⟩ := mapD_get hx
      obtain ⟨b, hb, rfl⟩ := mapD_get hy
      obtain ⟨_, _, rfl⟩ := mapD_get hb
      repeat' (first|(with_reducible first|refine ev_call ?_|refine ev_cb1 ?_|refine ea_cons ?_|refine ea_nil ?_|refine cd_lent ?_)|((with_reducible apply ev_v);exact rfl)|((with_reducible apply post_call);exact rfl)|((with_reducible apply gv_name);exact (by simp)))
      rw [List.length_map]
      refine ⟨m.outs, m.steps.length, s, rfl, by omega, fun b g e => hs b g (by rw [← e]; exact List.mem_of_getElem? hs'), ?_⟩
      repeat' (first|simp only [List.set_cons_zero, List.set_cons_succ, Bool.not_true, Bool.not_false])
    repeat' (first|(with_reducible first|refine ea_nil ?_))
    exact cd_allT (l := l) rfl rfl
  repeat' (first|(with_reducible first|refine ea_nil ?_))
  refine cd_allT (l := m.steps) rfl ?_
  repeat' (first|(with_reducible first|refine post_d ?_)|((with_reducible apply ret_ok);exact rfl))
  exact hP
end
/-! ### the squares -/
theorem shp_step (s : Step) : Shp 2 (stepD s) := by
  cases s with
  | none => exact shp_none 2
  | some r =>
    obtain ⟨b, g⟩ := r
    refine shp_tup (n := 1) fun d h => ?_
    have h' : d = .int b ∨ d = tI g := by simpa using h
    rcases h' with rfl | rfl
    · exact shp_int 1 _
    · exact shp_tI g
theorem eqv_step (s t : Step) : PyData.eqv (stepD s) (stepD t) = decide (s = t) := by
  cases s with
  | none =>
    cases t with
    | none => rfl
    | some r => rw [decide_eq_false (by simp)]; rfl
  | some r =>
    obtain ⟨b, g⟩ := r
    cases t with
    | none => rw [decide_eq_false (by simp)]; rfl
    | some r =>
      obtain ⟨c, h⟩ := r
      show PyData.eqv (.tuple [.int b, tI g]) (.tuple [.int c, tI h]) = _
      rw [PyData.eqv, PyData.eqvAll, PyData.eqvAll, PyData.eqvAll, PyData.eqv, eqv_tI, Bool.and_true]
      by_cases h1 : b = c
      · subst h1
        by_cases h2 : g = h
        · subst h2; simp
        · simp [h2]
      · have h3 : ¬ (b : Int) = (c : Int) := by omega
        simp [h1, h3]
/-- what a mode is followed by -/
def behind (m : Mach) (a : Nat) : List Nat := (m.steps.getD a []).filterMap fun s => s.map Prod.fst
inductive Come (m : Mach) : Nat → Prop
  | zero : Come m 0
  | more {a b : Nat} : Come m a → b ∈ behind m a → Come m b
theorem behind_lt {m : Mach} (k : MachOk m) {a b : Nat} (h : b ∈ behind m a) : b < m.steps.length := by
  unfold behind at h
  obtain ⟨s, h1, h2⟩ := List.mem_filterMap.mp h
  rw [List.getD_eq_getElem?_getD] at h1
  cases q : m.steps[a]? with
  | none => rw [q] at h1; simp at h1
  | some l =>
    rw [q, Option.getD_some] at h1
    cases s with
    | none => cases h2
    | some r =>
      obtain ⟨c, g⟩ := r
      cases h2
      exact (k.step l (List.mem_of_getElem? q) _ g h1).1
theorem Come.lt {m : Mach} (k : MachOk m) {a : Nat} (h : Come m a) : a < m.steps.length := by
  cases h with
  | zero => exact k.pos
  | more _ h => exact behind_lt k h
/-- the dict of known modes -/
def knw (fs : List Nat) : List (Key × D) := fs.map fun (n : Nat) => (Sum.inl (n : Int), PyData.bool true)
theorem knw_any (fs : List Nat) (b : Nat) : (knw fs).any (fun kv => decide (kv.1 = Sum.inl (b : Int))) = decide (b ∈ fs) := by
  induction fs with
  | nil => rfl
  | cons c r ih =>
    show (decide ((Sum.inl (c : Int) : Key) = Sum.inl (b : Int)) || (knw r).any _) = _
    rw [ih]
    by_cases h : b = c
    · subst h; simp
    · have h2 : ¬ (c : Int) = (b : Int) := by omega
      simp [h, h2]
theorem knw_val (fs : List Nat) (b : Nat) : (valD (knw fs) (Sum.inl (b : Int))).isSome = decide (b ∈ fs) := by
  rw [← knw_any]
  unfold valD
  rw [Option.isSome_map]
  induction knw fs with
  | nil => rfl
  | cons x r ih =>
    rw [List.find?_cons, List.any_cons]
    cases decide (x.1 = Sum.inl (b : Int)) with
    | true => rfl
    | false => rw [Bool.false_or]; exact ih
theorem knw_put {fs : List Nat} {b : Nat} (h : b ∉ fs) : putD (knw fs) (Sum.inl (b : Int)) (.bool true) = knw (fs ++ [b]) := by
  unfold putD
  rw [knw_any, decide_eq_false h, if_neg Bool.false_ne_true]
  unfold knw
  rw [List.map_append]
  rfl
def F_square_fails : FS := fun xs P => ∃ (m : Mach) (a i j : Nat), xs = [.d (machD m), .d (.int a), .d (.int i), .d (.int j)] ∧ MachOk m ∧ a < m.steps.length ∧ i < m.ins ∧ j < m.ins ∧ P (.bool (!decide (two m a i j = two m a j i)))
abbrev N_square_fails : List Str := ["machine", "mode", "one", "other"]
def t_square_fails (K : Fg) : TS := (tRet (tOp (rNeU K) (tCall (liftSp K F_two_steps) [] E0 (tCons (tVar 0) (tCons (tVar 1) (tCons (tVar 2) (tCons (tVar 3) tNil))))) (tCall (liftSp K F_two_steps) [] E0 (tCons (tVar 0) (tCons (tVar 1) (tCons (tVar 3) (tCons (tVar 2) tNil)))))))
def F_modes_behind : FS := fun xs P => ∃ (m : Mach) (a : Nat), xs = [.d (machD m), .d (.int a)] ∧ MachOk m ∧ a < m.steps.length ∧ P (.list ((behind m a).map fun (n : Nat) => PyData.int (n : Int)))
abbrev N_modes_behind : List Str := ["machine", "mode", "step"]
def t_modes_behind (K : Fg) : TS := (tRet (tLc (iSeqU K (tOp (rIxU K) (tOp (rIxU K) (tVar 0) (tC (.int 2))) (tVar 1))) (gName 2) (tTest (tOp rNoN (tVar 2) (tC .non))) (tOp (rIxU K) (tVar 2) (tC (.int 0))) [2]))
def F_modes_come_to : FS := fun xs P => ∃ (m : Mach), xs = [.d (machD m)] ∧ MachOk m ∧ ∀ fs : List Nat, fs.Nodup → (∀ a, a ∈ fs ↔ Come m a) → P (tN fs)
abbrev N_modes_come_to : List Str := ["machine", "found", "known", "k", "late"]
def t_modes_come_to (K : Fg) : TS := (tSeq (tPar 1 2 (tCons (tLst (tCons (tC (.int 0)) tNil)) (tCons (tDisp [((tC (.int 0)), (tC (.bl true)))]) tNil)))
    (tSeq (tAsg (tC (.int 0)) (gName 3))
    (tSeq (tWhile (tTest (tOp (rI0 fun i j => .bl (decide (i < j))) (tVar 3) (tCB (rLenU K) (tCons (tVar 1) tNil)))) (tSeq (tFor (iSeqU K (tCall (liftSp K F_modes_behind) [] E0 (tCons (tVar 0) (tCons (tOp (rIxU K) (tVar 1) (tVar 3)) tNil)))) (gName 4) (tIfS (tTest (tOp (rNotInU K) (tVar 4) (tVar 2))) (tSeq (sDPut (tVar 2) (tVar 4) (tC (.bl true)))
    (tDrop (tBM K "list" rAppend (tVar 1) (tCons (tVar 4) tNil)))) tNext))
    (tAug 3 (tC (.int 1)) (ipI fun i j => (i + j)))))
    (tRet (tCB (rTup1 K) (tCons (tVar 1) tNil))))))
def Comm (m : Mach) : Prop := ∀ a i j, Come m a → i < m.ins → j < m.ins → two m a i j = two m a j i
def F_first_square : FS := fun xs P => ∃ (m : Mach), xs = [.d (machD m)] ∧ MachOk m ∧ Comm m ∧ P .none
abbrev N_first_square : List Str := ["machine", "mode", "one", "some", "other"]
def t_first_square (K : Fg) : TS := (tSeq (tFor (iSeqU K (tCB (rSortedU K) (tCons (tCall (liftSp K F_modes_come_to) [] E0 (tCons (tVar 0) tNil)) tNil))) (gName 1) (tFor (iRng1 (tCons (tOp (rIxU K) (tVar 0) (tC (.int 0))) tNil)) (gName 2) (tSeq (tAsg (tLc (iRng2 (tCons (tOp (rAddU K) (tVar 2) (tC (.int 1))) (tCons (tOp (rIxU K) (tVar 0) (tC (.int 0))) tNil))) (gName 4) (tB (tCall (liftSp K F_square_fails) [] E0 (tCons (tVar 0) (tCons (tVar 1) (tCons (tVar 2) (tCons (tVar 4) tNil)))))) (tVar 4) [4]) (gName 3))
    (tIfS (tTest (tOp (rNeU K) (tVar 3) (tLst tNil))) (tRet (tTup (tCons (tVar 1) (tCons (tVar 2) (tCons (tOp (rIxU K) (tVar 3) (tC (.int 0))) tNil))))) tNext))))
    (tRet (tC .non)))
def F_is_commuting : FS := fun xs P => ∃ (m : Mach), xs = [.d (machD m)] ∧ MachOk m ∧ Comm m ∧ P (.bool true)
abbrev N_is_commuting : List Str := ["machine"]
def t_is_commuting (K : Fg) : TS := (tRet (tOp rIsN (tCall (liftSp K F_first_square) [] E0 (tCons (tVar 0) tNil)) (tC .non)))
section
variable {K : Fg} {Γ : Ga} {xs : List Vl} {P : D → Prop} {δ : List Sl}
theorem sd_retO {te : TE} {E : DE} (h : Ev K Γ δ te fun x => ∃ p ys, x = .own p ys ∧ E.rt (.list ys) δ) : SD K Γ δ (tRet te) E :=
  sd_ret (ev_frz (h.imp fun x ⟨p, ys, e, r⟩ => ⟨p, ys, e, _, rfl, r⟩))
theorem d_square_fails (ha : argOk xs = true) (h : F_square_fails xs P) : SD K Γ (slots N_square_fails xs) (t_square_fails K) { nx := fun δ' => P .none ∧ Kept xs δ', rt := fun d δ' => P d ∧ Kept xs δ' } := by
  obtain ⟨m, a, i, j, rfl, k, ha', hi, hj, hP⟩ := h
  show SD K Γ [.d (machD m), .d (.int a), .d (.int i), .d (.int j)] _ _
  unfold t_square_fails
  repeat' (first|(with_reducible first|refine sd_ret ?_|refine ev_op ?_|refine ev_call ?_|refine ea_cons ?_|refine ea_nil ?_)|((with_reducible apply ev_v);exact rfl)|((with_reducible apply post_call);exact rfl)|simp only [List.set_cons_zero, List.set_cons_succ, Bool.not_true, Bool.not_false])
  refine ⟨m, a, i, j, rfl, k, ha', hi, hj, ?_⟩
  repeat' (first|(with_reducible first|refine ev_call ?_|refine ea_cons ?_|refine ea_nil ?_)|((with_reducible apply ev_v);exact rfl)|((with_reducible apply post_call);exact rfl))
  refine ⟨m, a, j, i, rfl, k, ha', hj, hi, ?_⟩
  repeat' (first|simp only [List.set_cons_zero, List.set_cons_succ, Bool.not_true, Bool.not_false])
  refine od_neD rfl rfl ((shp_step _).ok (by decide)) ((shp_step _).ok (by decide)) ?_
  rw [eqv_step]
  repeat' (first|(with_reducible first|refine post_d ?_)|((with_reducible apply ret_ok);exact rfl))
  exact hP
theorem d_modes_behind (ha : argOk xs = true) (h : F_modes_behind xs P) : SD K Γ (slots N_modes_behind xs) (t_modes_behind K) { nx := fun δ' => P .none ∧ Kept xs δ', rt := fun d δ' => P d ∧ Kept xs δ' } := by
  obtain ⟨m, a, rfl, k, ha', hP⟩ := h
  show SD K Γ [.d (machD m), .d (.int a), .un] _ _
  unfold t_modes_behind
  have e1 : (m.steps.map lineD)[a]? = some (lineD (m.steps.getD a [])) := by
    rw [List.getElem?_map, List.getElem?_eq_getElem ha', List.getD_eq_getElem?_getD, List.getElem?_eq_getElem ha']
    rfl
  have hw : (m.steps.getD a []).length = m.ins := by
    rw [List.getD_eq_getElem?_getD, List.getElem?_eq_getElem ha']
    exact k.wide _ (List.getElem_mem ha')
  have hi := k.ins
  refine sd_retO (ev_lcF (noA1 rfl rfl) (ei_Ut ?_))
  repeat' (first|(with_reducible first|refine ev_op ?_|refine ev_ci ?_|refine od_m2 ?_)|((with_reducible apply ev_v);exact rfl)|simp only [List.set_cons_zero, List.set_cons_succ, Bool.not_true, Bool.not_false])
  refine od_ixt (atI_nat e1) ?_
  repeat' (first|(with_reducible first|refine post_t ?_))
  refine ⟨by rw [List.length_map, hw]; omega, fun d => match d with | .tuple (x :: _) => some x | _ => none, fun i x hx => ?_, fun p => ⟨p, _, rfl, ?_⟩⟩
  · obtain ⟨s, hs, rfl⟩ := mapD_get hx
    cases s with
    | none =>
      repeat' (first|(with_reducible first|refine et_test ?_|refine ev_op ?_|refine ev_cn ?_|refine ifF ?_|refine od_noN_n ?_|refine post_b ?_)|((with_reducible apply ev_v);exact rfl)|((with_reducible apply gv_name);exact (by simp))|simp only [List.set_cons_zero, List.set_cons_succ, Bool.not_true, Bool.not_false])
    | some r =>
      obtain ⟨b, g⟩ := r
      repeat' (first|(with_reducible first|refine et_test ?_|refine ev_op ?_|refine ev_ci ?_|refine ev_cn ?_|refine ifT ?_|refine od_noN_t ?_|refine post_d ?_|refine post_b ?_)|((with_reducible apply ev_v);exact rfl)|((with_reducible apply od_ixt);exact rfl)|((with_reducible apply gv_name);exact (by simp))|simp only [List.set_cons_zero, List.set_cons_succ, Bool.not_true, Bool.not_false])
  · refine ⟨?_, kept0 rfl⟩
    have e : ∀ l : List Step, (l.map stepD).filterMap (fun d => match d with | .tuple (x :: _) => some x | _ => none) = (l.filterMap fun s => s.map Prod.fst).map fun (n : Nat) => PyData.int (n : Int) := by
      intro l
      induction l with
      | nil => rfl
      | cons s r ih =>
        cases s with
        | none => exact ih
        | some p => exact congrArg (PyData.int (p.1 : Int) :: ·) ih
    rw [e]
    exact hP
theorem d_modes_come_to (ha : argOk xs = true) (h : F_modes_come_to xs P) : SD K Γ (slots N_modes_come_to xs) (t_modes_come_to K) { nx := fun δ' => P .none ∧ Kept xs δ', rt := fun d δ' => P d ∧ Kept xs δ' } := by
  obtain ⟨m, rfl, k, hP⟩ := h
  show SD K Γ [.d (machD m), .un, .un, .un, .un] _ _
  unfold t_modes_come_to
  repeat' (first|(with_reducible first|refine sd_seq ?_|refine sd_asg ?_|refine sd_par ?_|refine ev_lst ?_|refine ea_cons ?_|refine ea_nil ?_|refine ev_ci ?_|refine ev_cb ?_|refine ev_disp1 ?_|refine post_d ?_|refine post_sd ?_)|((with_reducible apply post_disp);exact rfl)|((with_reducible apply post_par);exact rfl;exact rfl)|((with_reducible apply post_all);exact rfl;exact Nat.le_of_ble_eq_true rfl)|(with_reducible first|intro _)|simp only [List.set_cons_zero, List.set_cons_succ, Bool.not_true, Bool.not_false])
  have lenF : ∀ {fs : List Nat}, fs.Nodup → (∀ a ∈ fs, Come m a) → fs.length ≤ 150 := fun {fs} h1 h2 => Nat.le_trans (nodup_lt_len h1 fun a ha => (h2 a ha).lt k) k.most
  refine sd_while (fun mm δ' => ∃ p1 p2 fs i s4, δ' = [.d (machD m), .own p1 (fs.map fun (n : Nat) => PyData.int (n : Int)), .dic p2 (knw fs), .d (.int (i : Nat)), s4] ∧ fs.Nodup ∧ (∀ a ∈ fs, Come m a) ∧ 0 ∈ fs ∧ i ≤ fs.length ∧
    (∀ a ∈ fs.take i, ∀ b ∈ behind m a, b ∈ fs) ∧ mm = 151 - i) 151 ⟨_, _, [0], 0, _, rfl, by simp, fun a ha => by
      have e : a = 0 := by simpa using ha
      rw [e]
      exact .zero, by simp, Nat.zero_le _, fun a ha => by simp at ha, rfl⟩ ?_
  rintro mm δ' ⟨p1, p2, fs, i, s4, rfl, nd, hc, h0, hi, hcl, rfl⟩
  have hl := lenF nd hc
  repeat' (first|(with_reducible first|refine et_test ?_|refine ev_op ?_|refine ev_cb1 ?_|refine ea_cons ?_|refine ea_nil ?_|refine od_I0b ?_|refine post_b ?_)|((with_reducible apply ev_v);exact rfl)|((with_reducible apply ev_vo);exact rfl)|((with_reducible apply cd_lenl);exact rfl)|simp only [List.set_cons_zero, List.set_cons_succ, Bool.not_true, Bool.not_false])
  rw [List.length_map]
  refine ifB (fun h1 => ?_) (fun h1 => ?_)
  · have hlt : i < fs.length := by have := of_decide_eq_true h1; omega
    have hfi : fs[i]? = some fs[i] := List.getElem?_eq_getElem hlt
    repeat' (first|(with_reducible first|refine sd_seq ?_)|simp only [List.set_cons_zero, List.set_cons_succ, Bool.not_true, Bool.not_false])
    refine sd_for (ei_Ul ?_)
    repeat' (first|(with_reducible first|refine ev_op ?_|refine ev_call ?_|refine ea_cons ?_)|((with_reducible apply ev_v);exact rfl)|((with_reducible apply ev_vo);exact rfl)|simp only [List.set_cons_zero, List.set_cons_succ, Bool.not_true, Bool.not_false])
    refine od_ixl rfl (atI_nat (by rw [List.getElem?_map, hfi]; rfl)) ?_
    repeat' (first|(with_reducible first|refine ea_nil ?_)|((with_reducible apply post_call);exact rfl)|simp only [List.set_cons_zero, List.set_cons_succ, Bool.not_true, Bool.not_false])
    refine ⟨m, fs[i], rfl, k, (hc _ (List.mem_of_getElem? hfi)).lt k, ?_⟩
    repeat' (first|(with_reducible first|refine post_l ?_))
    refine ⟨fun j δ' => ∃ fs' s4, δ' = [.d (machD m), .own p1 (fs'.map fun (n : Nat) => PyData.int (n : Int)), .dic p2 (knw fs'), .d (.int i), s4] ∧ fs'.Nodup ∧ (∀ a ∈ fs', Come m a) ∧ fs <+: fs' ∧ ∀ b ∈ (behind m fs[i]).take j, b ∈ fs',
      ⟨fs, _, rfl, nd, hc, List.prefix_refl fs, fun b hb => by simp at hb⟩, fun j x δ' hx hI => ?_, fun δ' hI => ?_⟩
    · obtain ⟨fs', s4', rfl, nd', hc', hp', hb'⟩ := hI
      obtain ⟨b, hb, rfl⟩ := mapD_get hx
      have hl' := lenF nd' hc'
      have hbt : (behind m fs[i]).take (j + 1) = (behind m fs[i]).take j ++ [b] := by
        rw [List.take_add_one, hb]
        rfl
      repeat' (first|(with_reducible first|refine sd_if ?_|refine et_test ?_|refine ev_op ?_|refine gd_name ?_)|((with_reducible apply ev_v);exact rfl)|((with_reducible apply ev_vd);exact rfl)|simp only [List.set_cons_zero, List.set_cons_succ, Bool.not_true, Bool.not_false])
      refine od_nid rfl ?_
      rw [knw_val]
      repeat' (first|(with_reducible first|refine post_b ?_))
      by_cases hin : b ∈ fs'
      · rw [decide_eq_true hin]
        repeat' (first|(with_reducible first|refine sd_next ?_|refine ifF ?_)|simp only [List.set_cons_zero, List.set_cons_succ, Bool.not_true, Bool.not_false])
        refine ⟨fs', _, rfl, nd', hc', hp', fun c hcm => ?_⟩
        rw [hbt] at hcm
        rcases List.mem_append.mp hcm with h | h
        · exact hb' c h
        · obtain rfl : c = b := by simpa using h
          exact hin
      · rw [decide_eq_false hin]
        have hcb : Come m b := .more (hc _ (List.mem_of_getElem? hfi)) (List.mem_of_getElem? hb)
        repeat' (first|(with_reducible first|refine sd_seq ?_|refine ifTT ?_)|simp only [List.set_cons_zero, List.set_cons_succ, Bool.not_true, Bool.not_false])
        refine sd_dput rfl (by unfold knw; rw [List.length_map]; omega) ?_
        repeat' (first|(with_reducible first|refine ev_cb ?_|refine post_d ?_)|((with_reducible apply ev_v);exact rfl)|((with_reducible apply post_disp);exact rfl)|simp only [List.set_cons_zero, List.set_cons_succ, Bool.not_true, Bool.not_false])
        refine sd_app rfl (by rw [List.length_map]; omega) ?_
        repeat' (first|(with_reducible first|refine post_d ?_)|((with_reducible apply ev_v);exact rfl)|simp only [List.set_cons_zero, List.set_cons_succ, Bool.not_true, Bool.not_false])
        rw [knw_put hin]
        refine ⟨fs' ++ [b], _, by rw [List.map_append]; rfl, List.nodup_append.mpr ⟨nd', by simp, fun u hu v hv e => ?_⟩, fun a ha => ?_, hp'.trans (List.prefix_append ..), fun c hcm => ?_⟩
        · have e' : v = b := by simpa using hv
          exact hin (by rw [← e', ← e]; exact hu)
        · rcases List.mem_append.mp ha with h | h
          · exact hc' a h
          · obtain rfl : a = b := by simpa using h
            exact hcb
        · rw [hbt] at hcm
          rcases List.mem_append.mp hcm with h | h
          · exact List.mem_append.mpr (.inl (hb' c h))
          · exact List.mem_append.mpr (.inr h)
    · obtain ⟨fs', s4', rfl, nd', hc', hp', hb'⟩ := hI
      rw [List.length_map, List.take_length] at hb'
      have hl' := hp'.length_le
      repeat' (first|(with_reducible first|refine ev_ci ?_|refine post_i ?_)|((with_reducible apply sd_aug);exact rfl)|simp only [List.set_cons_zero, List.set_cons_succ, Bool.not_true, Bool.not_false])
      refine ⟨151 - (i + 1), by omega, p1, p2, fs', i + 1, _, rfl, nd', hc', hp'.subset h0, by omega, fun a ha b hbb => ?_, rfl⟩
      obtain ⟨u, hu⟩ := hp'
      have et : fs'.take (i + 1) = fs.take i ++ [fs[i]] := by
        rw [← hu, List.take_append_of_le_length (by omega), List.take_add_one, hfi]
        rfl
      rw [et] at ha
      rcases List.mem_append.mp ha with h | h
      · exact hu ▸ List.mem_append.mpr (.inl (hcl a h b hbb))
      · obtain rfl : a = fs[i] := by simpa using h
        exact hb' b hbb
  · have hge : i = fs.length := by have := of_decide_eq_false h1; omega
    subst hge
    repeat' (first|(with_reducible first|refine sd_ret ?_|refine ev_cb1 ?_|refine ea_cons ?_|refine ea_nil ?_|refine post_d ?_)|((with_reducible apply ev_vo);exact rfl)|((with_reducible apply cd_tupl);exact rfl)|((with_reducible apply ret_ok);exact rfl))
    refine hP fs nd fun a => ⟨hc a, fun ha => ?_⟩
    induction ha with
    | zero => exact h0
    | more _ hb ih => exact hcl _ (by rw [List.take_length]; exact ih) _ hb
theorem d_first_square (ha : argOk xs = true) (h : F_first_square xs P) : SD K Γ (slots N_first_square xs) (t_first_square K) { nx := fun δ' => P .none ∧ Kept xs δ', rt := fun d δ' => P d ∧ Kept xs δ' } := by
  obtain ⟨m, rfl, k, cm, hP⟩ := h
  show SD K Γ [.d (machD m), .un, .un, .un, .un] _ _
  unfold t_first_square
  have hi := k.ins
  refine sd_seq (sd_for (ei_Uo ?_))
  repeat' (first|(with_reducible first|refine ev_call ?_|refine ev_cb1 ?_|refine ea_cons ?_|refine ea_nil ?_)|((with_reducible apply ev_v);exact rfl)|((with_reducible apply post_call);exact rfl)|simp only [List.set_cons_zero, List.set_cons_succ, Bool.not_true, Bool.not_false])
  refine ⟨m, rfl, k, fun fs nd hc => ?_⟩
  repeat' (first|(with_reducible first|refine ea_nil ?_))
  have e : tN fs = .tuple ((fs.map fun (n : Nat) => (n : Int)).map PyData.int) := by
    rw [List.map_map]
    rfl
  rw [e]
  refine cd_sortt fun p ms hpm hsd => ?_
  repeat' (first|(with_reducible first|refine post_o ?_))
  refine ⟨fun i δ' => ∃ s1 s2 s3, δ' = [.d (machD m), s1, s2, s3, .un], ⟨_, _, _, rfl⟩, fun i x δ' hx hI => ?_, fun δ' hI => ?_⟩
  · obtain ⟨s1, s2, s3, rfl⟩ := hI
    obtain ⟨c, hc', rfl⟩ := mapD_get hx
    obtain ⟨a, haf, rfl⟩ : ∃ a, a ∈ fs ∧ (a : Int) = c := List.mem_map.mp (hpm.mem_iff.mp (List.mem_of_getElem? hc'))
    have hca : Come m a := (hc a).mp haf
    have hal := hca.lt k
    repeat' (first|(with_reducible first|refine gd_name ?_)|simp only [List.set_cons_zero, List.set_cons_succ, Bool.not_true, Bool.not_false])
    refine sd_for (ei_rng1 ?_)
    repeat' (first|(with_reducible first|refine ev_op ?_|refine ea_cons ?_|refine ea_nil ?_|refine ev_ci ?_|refine od_m0 ?_)|((with_reducible apply ev_v);exact rfl)|simp only [List.set_cons_zero, List.set_cons_succ, Bool.not_true, Bool.not_false])
    refine ⟨m.ins, rfl, by omega, by omega, fun i δ' => ∃ s2 s3, δ' = [.d (machD m), .d (.int a), s2, s3, .un], ⟨_, _, rfl⟩, fun i x δ' hx hI => ?_, fun δ' hI => ?_⟩
    · obtain ⟨s2, s3, rfl⟩ := hI
      obtain ⟨hi', rfl⟩ := rng_inv hx
      rw [Int.toNat_natCast] at hi'
      rw [Int.zero_add]
      repeat' (first|(with_reducible first|refine sd_seq ?_|refine sd_asg ?_|refine gd_name ?_)|simp only [List.set_cons_zero, List.set_cons_succ, Bool.not_true, Bool.not_false])
      refine ev_lcF (noA1 rfl rfl) (ei_rng2 ?_)
      repeat' (first|(with_reducible first|refine ev_op ?_|refine ea_cons ?_|refine ea_nil ?_|refine ev_ci ?_|refine od_addi ?_|refine od_m0 ?_)|((with_reducible apply ev_v);exact rfl))
      refine ⟨_, _, rfl, ⟨by omega, by omega, by omega, by omega⟩, by rw [rngD_len]; omega, fun _ => none, fun j x hx => ?_, fun p => ?_⟩
      · obtain ⟨hj, rfl⟩ := rng_inv hx
        have ej : (i : Int) + 1 + (j : Int) = ((i + 1 + j : Nat) : Int) := by omega
        rw [ej]
        have hjl : i + 1 + j < m.ins := by omega
        repeat' (first|(with_reducible first|refine et_B ?_|refine ev_call ?_|refine ea_cons ?_|refine ea_nil ?_)|((with_reducible apply ev_v);exact rfl)|((with_reducible apply post_call);exact rfl)|((with_reducible apply gv_name);exact (by simp))|simp only [List.set_cons_zero, List.set_cons_succ, Bool.not_true, Bool.not_false])
        refine ⟨m, a, i, i + 1 + j, rfl, k, hal, hi', hjl, ?_⟩
        rw [decide_eq_true (cm a i (i + 1 + j) hca hi' hjl)]
        repeat' (first|(with_reducible first|refine ifF ?_|refine post_b ?_)|simp only [List.set_cons_zero, List.set_cons_succ, Bool.not_true, Bool.not_false])
      · rw [show (rngD _ _).filterMap (fun _ => (none : Option D)) = [] from List.filterMap_eq_nil_iff.mpr fun _ _ => rfl]
        repeat' (first|(with_reducible first|refine sd_if ?_|refine et_test ?_|refine ev_op ?_|refine ev_lst ?_|refine ea_nil ?_|refine post_so ?_)|((with_reducible apply ev_vo);exact rfl)|((with_reducible apply post_all);exact rfl;exact Nat.le_of_ble_eq_true rfl)|(with_reducible first|intro _))
        refine od_neD rfl rfl shaped_nil shaped_nil ?_
        rw [eqv_nil]
        repeat' (first|(with_reducible first|refine sd_next ?_|refine ifF ?_|refine post_b ?_)|simp only [List.set_cons_zero, List.set_cons_succ, Bool.not_true, Bool.not_false])
        exact ⟨_, _, rfl⟩
    · obtain ⟨s2, s3, rfl⟩ := hI
      skip
      exact ⟨_, _, _, rfl⟩
  · obtain ⟨s1, s2, s3, rfl⟩ := hI
    repeat' (first|(with_reducible first|refine sd_ret ?_|refine ev_cn ?_|refine post_d ?_)|((with_reducible apply ret_ok);exact rfl))
    exact hP
theorem d_is_commuting (ha : argOk xs = true) (h : F_is_commuting xs P) : SD K Γ (slots N_is_commuting xs) (t_is_commuting K) { nx := fun δ' => P .none ∧ Kept xs δ', rt := fun d δ' => P d ∧ Kept xs δ' } := by
  obtain ⟨m, rfl, k, cm, hP⟩ := h
  show SD K Γ [.d (machD m)] _ _
  unfold t_is_commuting
  repeat' (first|(with_reducible first|refine sd_ret ?_|refine ev_op ?_|refine ev_call ?_|refine ea_cons ?_|refine ea_nil ?_)|((with_reducible apply ev_v);exact rfl)|((with_reducible apply post_call);exact rfl)|simp only [List.set_cons_zero, List.set_cons_succ, Bool.not_true, Bool.not_false])
  refine ⟨m, rfl, k, cm, ?_⟩
  repeat' (first|(with_reducible first|refine ev_cn ?_|refine od_isN_n ?_|refine post_d ?_)|((with_reducible apply ret_ok);exact rfl))
  exact hP
end
end Lw

/-! Ddr: the draws' source. -/
namespace Dl
open PySem L2
section
variable {K : Fg} {Γ : Ga} {δ : List Sl} {te : TE} {P : Vl → Prop} {E : DE} {i : Nat} {a c : Addr}
/-- xs[::-1] -/
theorem ev_revL (h : Ev K Γ δ te fun x => ∃ xs, x.lst = some xs ∧ ∀ p, P (.own p xs.reverse)) : Ev K Γ δ (tRevL K te) P := fun σ H G R Q q =>
  h σ H G R _ fun v H1 G1 x R1 f1 r1 k1 ⟨xs, hx, p⟩ => by
    obtain ⟨a, vs, rfl, h1, h2⟩ := r1.lst R1.sub hx
    refine ⟨a, vs, rfl, Evl.sq_of h1, fun l hl => ?_⟩
    have g : Grow H1 G1 (upd H1 l (.lst vs.reverse)) G1 := Grow.newH R1.sub hl
    have rv : ∀ {vs : List V} {xs : List D}, DpAll K G1 vs xs → DpAll K G1 vs.reverse xs.reverse := by
      intro vs xs h
      induction vs generalizing xs with
      | nil => cases h; exact .nil
      | cons v vs ih =>
        cases h with
        | cons a b =>
          rw [List.reverse_cons, List.reverse_cons]
          exact DpAll.app (ih b) (.cons a .nil)
    exact q _ _ G1 (.own l xs.reverse) (R1.grow g) (f1.trans g.fr) ⟨rfl, ex_none R1.sub hl, _, upd_same, rv h2⟩ (none_of fun u z => f1.t l (by rw [z]; simp) hl) (p l)
abbrev sKv (c : Addr) (l m t : Int) : List (Key × V) := [(Sum.inr "cells", .ref c), (Sum.inr "left", .int l), (Sum.inr "mixed", .int m), (Sum.inr "turn", .int t)]
theorem k1 : ¬ ((Sum.inr ("cells" : Str) : Key) = Sum.inr ("left" : Str)) := by decide +kernel
theorem k2 : ¬ ((Sum.inr ("cells" : Str) : Key) = Sum.inr ("mixed" : Str)) := by decide +kernel
theorem k3 : ¬ ((Sum.inr ("cells" : Str) : Key) = Sum.inr ("turn" : Str)) := by decide +kernel
theorem k4 : ¬ ((Sum.inr ("left" : Str) : Key) = Sum.inr ("mixed" : Str)) := by decide +kernel
theorem k5 : ¬ ((Sum.inr ("left" : Str) : Key) = Sum.inr ("turn" : Str)) := by decide +kernel
theorem k6 : ¬ ((Sum.inr ("mixed" : Str) : Key) = Sum.inr ("turn" : Str)) := by decide +kernel
theorem sv_c (c : Addr) (l m t : Int) : valV (sKv c l m t) (Sum.inr "cells") = some (.ref c) := valV_pos rfl
theorem sv_l (c : Addr) (l m t : Int) : valV (sKv c l m t) (Sum.inr "left") = some (.int l) := by rw [valV_neg k1]; exact valV_pos rfl
theorem sv_m (c : Addr) (l m t : Int) : valV (sKv c l m t) (Sum.inr "mixed") = some (.int m) := by rw [valV_neg k2, valV_neg k4]; exact valV_pos rfl
theorem sv_t (c : Addr) (l m t : Int) : valV (sKv c l m t) (Sum.inr "turn") = some (.int t) := by rw [valV_neg k3, valV_neg k5, valV_neg k6]; exact valV_pos rfl
theorem sp_of {kvs : List (Key × V)} {k : Key} {v : V} (h : (kvs.any fun kv => decide (kv.1 = k)) = true) : putK kvs k v = kvs.map fun kv => if kv.1 = k then (kv.1, v) else kv := by
  unfold putK
  rw [if_pos h]
theorem sp_l (c : Addr) (l m t z : Int) : putK (sKv c l m t) (Sum.inr "left") (.int z) = sKv c z m t := by
  rw [sp_of (by rw [valV_any, sv_l]; rfl)]
  simp only [List.map_cons, List.map_nil]
  rw [if_neg k1, if_pos trivial, if_neg (fun e => k4 e.symm), if_neg (fun e => k5 e.symm)]
theorem sp_m (c : Addr) (l m t z : Int) : putK (sKv c l m t) (Sum.inr "mixed") (.int z) = sKv c l z t := by
  rw [sp_of (by rw [valV_any, sv_m]; rfl)]
  simp only [List.map_cons, List.map_nil]
  rw [if_neg k2, if_neg k4, if_pos trivial, if_neg (fun e => k6 e.symm)]
theorem sp_t (c : Addr) (l m t z : Int) : putK (sKv c l m t) (Sum.inr "turn") (.int z) = sKv c l m z := by
  rw [sp_of (by rw [valV_any, sv_t]; rfl)]
  simp only [List.map_cons, List.map_nil]
  rw [if_neg k3, if_neg k5, if_neg k6, if_pos trivial]
/-- the source's inner state -/
structure SrcS (H : Hp) (a c : Addr) (cells : List Int) (l m t : Int) : Prop where
  d : H a = some (.dK (sKv c l m t))
  cl : H c = some (.lst (cells.map V.int))
  c0 : ∀ x ∈ cells, 0 ≤ x
  l0 : 0 ≤ l
  m0 : 0 ≤ m
  m1 : m < 2147483648
theorem SrcS.at_ {H : Hp} {cells : List Int} {l m t : Int} (h : SrcS H a c cells l m t) : SrcAt H a c := ⟨cells, l, m, t, h.d, h.cl, h.c0, h.l0, h.m0, h.m1⟩
theorem srcS {H : Hp} (h : SrcAt H a c) : ∃ cells l m t, SrcS H a c cells l m t := by
  obtain ⟨cells, l, m, t, h1, h2, h3, h4, h5, h6⟩ := h
  exact ⟨cells, l, m, t, h1, h2, h3, h4, h5, h6⟩
theorem set_same {α : Type} {xs : List α} {i : Nat} {x : α} (h : xs[i]? = some x) : xs.set i x = xs := by
  obtain ⟨hi, e⟩ := List.getElem?_eq_some_iff.mp h
  rw [← e]
  exact List.set_getElem_self hi
/-- the source is changed -/
theorem RelS.srcW {σ : L2.St} {H G H' : Hp} (R : RelS K Γ σ H G δ) (e : δ[i]? = some (.src a c)) (k : ∀ b, b ≠ a → b ≠ c → H' b = H b) (h : SrcAt H' a c) : RelS K Γ σ H' G δ := by
  have hk : ∀ b, b ∉ (Sl.src a c).ads → H' b = H b := fun b hb => k b (fun z => hb (by simp [Sl.ads, z])) (fun z => hb (by simp [Sl.ads, z]))
  have ht : ∀ b ∈ (Sl.src a c).ads, H' b ≠ none := fun b hb => by
    obtain ⟨cells, l, m, t, s⟩ := srcS h
    have hb' : b = a ∨ b = c := by simpa [Sl.ads] using hb
    rcases hb' with rfl | rfl
    · rw [s.d]; simp
    · rw [s.cl]; simp
  have := R.write (s' := .src a c) e hk ht rfl (R.ow _ (List.mem_of_getElem? e)) fun o ho x hx => by
    cases hx
    obtain ⟨v, h1, h2, h3, h4, _⟩ := ho _ rfl
    exact ⟨v, h1, h2, h3, h4, h⟩
  rwa [set_same e] at this
theorem fr_src {H G H' : Hp} (e : Sl.src a c ∈ δ) (k : ∀ b, b ≠ a → b ≠ c → H' b = H b) (h : SrcAt H' a c) : Fr δ H G H' G :=
  fr_write e (fun b hb => k b (fun z => hb (by simp [Sl.ads, z])) (fun z => hb (by simp [Sl.ads, z]))) fun b hb => by
    obtain ⟨cells, l, m, t, s⟩ := srcS h
    have hb' : b = a ∨ b = c := by simpa [Sl.ads] using hb
    rcases hb' with rfl | rfl
    · rw [s.d]; simp
    · rw [s.cl]; simp
/-- source['left'], ['mixed'], ['turn'] -/
theorem ev_srcL (e : δ[i]? = some (.src a c)) (h : ∀ l : Int, 0 ≤ l → P (.d (.int l))) : Ev K Γ δ (tOp (rIxU K) (tVar i) (tC (.str "left"))) P := fun σ H G R Q q => by
  obtain ⟨v, h1, rfl, ga, gc, hs⟩ := R.rd e rfl
  obtain ⟨cells, l, m, t, s⟩ := srcS hs
  exact ⟨_, h1, .inr ⟨a, .int l, rfl, by rw [← sv_l c l m t]; exact DGet.k (k := Sum.inr "left") s.d, q _ H G (.d (.int l)) R Fr.refl (.int l) trivial (h l s.l0)⟩⟩
theorem ev_srcM (e : δ[i]? = some (.src a c)) (h : ∀ m : Int, 0 ≤ m → m < 2147483648 → P (.d (.int m))) : Ev K Γ δ (tOp (rIxU K) (tVar i) (tC (.str "mixed"))) P := fun σ H G R Q q => by
  obtain ⟨v, h1, rfl, ga, gc, hs⟩ := R.rd e rfl
  obtain ⟨cells, l, m, t, s⟩ := srcS hs
  exact ⟨_, h1, .inr ⟨a, .int m, rfl, by rw [← sv_m c l m t]; exact DGet.k (k := Sum.inr "mixed") s.d, q _ H G (.d (.int m)) R Fr.refl (.int m) trivial (h m s.m0 s.m1)⟩⟩
theorem ev_srcT (e : δ[i]? = some (.src a c)) (h : ∀ t : Int, P (.d (.int t))) : Ev K Γ δ (tOp (rIxU K) (tVar i) (tC (.str "turn"))) P := fun σ H G R Q q => by
  obtain ⟨v, h1, rfl, ga, gc, hs⟩ := R.rd e rfl
  obtain ⟨cells, l, m, t, s⟩ := srcS hs
  exact ⟨_, h1, .inr ⟨a, .int t, rfl, by rw [← sv_t c l m t]; exact DGet.k (k := Sum.inr "turn") s.d, q _ H G (.d (.int t)) R Fr.refl (.int t) trivial (h t)⟩⟩
/-- source['left'] = e, .. -/
theorem sd_srcL (e : δ[i]? = some (.src a c)) (h : Ev K Γ δ te fun x => ∃ z : Int, x = .d (.int z) ∧ 0 ≤ z ∧ E.nx δ) : SD K Γ δ (sDPut (tVar i) (tC (.str "left")) te) E := fun σ H G R D L =>
  h σ H G R _ fun w H1 G1 x R1 f1 r1 k1 ⟨z, hx, hz, hp⟩ => by
    subst hx
    obtain rfl := Dp.int_inv r1
    obtain ⟨v, h1, rfl, ga, gc, hs⟩ := R1.rd e rfl
    obtain ⟨cells, l, m, t, s⟩ := srcS hs
    have hac : a ≠ c := ne_of s.d s.cl (by intro z; cases z)
    have s' : SrcS (upd H1 a (.dK (sKv c z m t))) a c cells z m t := ⟨upd_same, by rw [upd_ne hac.symm]; exact s.cl, s.c0, hz, s.m0, s.m1⟩
    have hk : ∀ b, b ≠ a → b ≠ c → (upd H1 a (.dK (sKv c z m t))) b = H1 b := fun b hb _ => upd_ne hb
    refine ⟨_, h1, a, _, rfl, by have := DPut.k (k := Sum.inr "left") (v := .int z) s.d (by show 4 < sizeLine; decide); rw [sp_l] at this; exact this, ?_⟩
    exact L.nx _ _ G1 _ (R1.srcW e hk s'.at_) f1.g hp
theorem sd_srcM (e : δ[i]? = some (.src a c)) (h : Ev K Γ δ te fun x => ∃ z : Int, x = .d (.int z) ∧ 0 ≤ z ∧ z < 2147483648 ∧ E.nx δ) : SD K Γ δ (sDPut (tVar i) (tC (.str "mixed")) te) E := fun σ H G R D L =>
  h σ H G R _ fun w H1 G1 x R1 f1 r1 k1 ⟨z, hx, hz, hz2, hp⟩ => by
    subst hx
    obtain rfl := Dp.int_inv r1
    obtain ⟨v, h1, rfl, ga, gc, hs⟩ := R1.rd e rfl
    obtain ⟨cells, l, m, t, s⟩ := srcS hs
    have hac : a ≠ c := ne_of s.d s.cl (by intro z; cases z)
    have s' : SrcS (upd H1 a (.dK (sKv c l z t))) a c cells l z t := ⟨upd_same, by rw [upd_ne hac.symm]; exact s.cl, s.c0, s.l0, hz, hz2⟩
    have hk : ∀ b, b ≠ a → b ≠ c → (upd H1 a (.dK (sKv c l z t))) b = H1 b := fun b hb _ => upd_ne hb
    refine ⟨_, h1, a, _, rfl, by have := DPut.k (k := Sum.inr "mixed") (v := .int z) s.d (by show 4 < sizeLine; decide); rw [sp_m] at this; exact this, ?_⟩
    exact L.nx _ _ G1 _ (R1.srcW e hk s'.at_) f1.g hp
theorem sd_srcT (e : δ[i]? = some (.src a c)) (h : Ev K Γ δ te fun x => ∃ z : Int, x = .d (.int z) ∧ E.nx δ) : SD K Γ δ (sDPut (tVar i) (tC (.str "turn")) te) E := fun σ H G R D L =>
  h σ H G R _ fun w H1 G1 x R1 f1 r1 k1 ⟨z, hx, hp⟩ => by
    subst hx
    obtain rfl := Dp.int_inv r1
    obtain ⟨v, h1, rfl, ga, gc, hs⟩ := R1.rd e rfl
    obtain ⟨cells, l, m, t, s⟩ := srcS hs
    have hac : a ≠ c := ne_of s.d s.cl (by intro z; cases z)
    have s' : SrcS (upd H1 a (.dK (sKv c l m z))) a c cells l m z := ⟨upd_same, by rw [upd_ne hac.symm]; exact s.cl, s.c0, s.l0, s.m0, s.m1⟩
    have hk : ∀ b, b ≠ a → b ≠ c → (upd H1 a (.dK (sKv c l m z))) b = H1 b := fun b hb _ => upd_ne hb
    refine ⟨_, h1, a, _, rfl, by have := DPut.k (k := Sum.inr "turn") (v := .int z) s.d (by show 4 < sizeLine; decide); rw [sp_t] at this; exact this, ?_⟩
    exact L.nx _ _ G1 _ (R1.srcW e hk s'.at_) f1.g hp
/-- while many > 1 and source['left'] < 2 and len(source['cells']) > 0: source['left'] = source['cells'].pop() -/
theorem sd_pick {j : Nat} {n : Int} (e : δ[i]? = some (.src a c)) (ej : δ[j]? = some (.d (.int n))) (h : E.nx δ) :
    SD K Γ δ (tWhile (tAnd (tTest (tOp (rI0 fun i j => .bl (decide (i > j))) (tVar j) (tC (.int 1)))) (tAnd (tTest (tOp (rI0 fun i j => .bl (decide (i < j))) (tOp (rIxU K) (tVar i) (tC (.str "left"))) (tC (.int 2)))) (tTest (tOp (rI0 fun i j => .bl (decide (i > j))) (tCB (rLenU K) (tCons (tOp (rIxU K) (tVar i) (tC (.str "cells"))) tNil)) (tC (.int 0))))))
      (sDPut (tVar i) (tC (.str "left")) (tBM0 K "list" rPop (tOp (rIxU K) (tVar i) (tC (.str "cells")))))) E := fun σ H G R D L => by
  refine ⟨fun k σ' H' => σ' = σ ∧ RelS K Γ σ H' G δ ∧ ∃ cells l m t, SrcS H' a c cells l m t ∧ cells.length = k, ?_, ?_⟩
  · obtain ⟨v, h1, rfl, ga, gc, hs⟩ := R.rd e rfl
    obtain ⟨cells, l, m, t, s⟩ := srcS hs
    exact ⟨cells.length, rfl, R, cells, l, m, t, s, rfl⟩
  · rintro k σ' H' ⟨rfl, R', cells, l, m, t, s, rfl⟩
    obtain ⟨v, h1, hv, ga, gc, hs⟩ := R'.rd e rfl
    subst hv
    obtain ⟨w, h2, h3⟩ := R'.rd ej rfl
    obtain rfl := Dp.int_inv h3
    have stop : D.nx σ' H' := L.nx σ' H' G δ R' (Evl.Ex.refl G) h
    refine ⟨.int n, h2, n, 1, rfl, rfl, _, rfl, ?_⟩
    refine ifB (fun g1 => ?_) (fun g1 => ?_)
    · refine ⟨_, h1, .inr ⟨a, .int l, rfl, by rw [← sv_l c l m t]; exact DGet.k (k := Sum.inr "left") s.d, l, 2, rfl, rfl, _, rfl, ?_⟩⟩
      refine ifB (fun g2 => ?_) (fun g2 => ?_)
      · refine ⟨_, h1, .inr ⟨a, .ref c, rfl, by rw [← sv_c c l m t]; exact DGet.k (k := Sum.inr "cells") s.d, .inl ⟨_, (cells.map V.int).length, rfl, .inl ⟨_, Evl.sq_of s.cl, rfl⟩, _, 0, rfl, rfl, _, rfl, ?_⟩⟩⟩
        refine ifB (fun g3 => ?_) (fun g3 => ?_)
        · have hpos : 0 < cells.length := by
            have := of_decide_eq_true g3
            rw [List.length_map] at this
            omega
          obtain ⟨z, hz⟩ : ∃ z, cells[cells.length - 1]? = some z := ⟨_, List.getElem?_eq_getElem (by omega)⟩
          have hac : a ≠ c := ne_of s.d s.cl (by intro z; cases z)
          have hdl : (cells.map V.int).dropLast = cells.dropLast.map V.int := List.map_dropLast.symm
          refine ⟨fun σ2 H2 => ∃ k', k' < cells.length ∧ σ2 = σ' ∧ RelS K Γ σ' H2 G δ ∧ ∃ cells l m t, SrcS H2 a c cells l m t ∧ cells.length = k', fun σ2 H2 ⟨k', a1, a2, a3⟩ => ⟨k', a1, a2, a3⟩, ?_⟩
          refine ⟨_, h1, .inr ⟨a, .ref c, rfl, by rw [← sv_c c l m t]; exact DGet.k (k := Sum.inr "cells") s.d, tyV_l s.cl, c, _, .int z, rfl, rfl, s.cl, by rw [List.length_map, List.getElem?_map, hz]; rfl, ?_⟩⟩
          rw [hdl]
          have d1 : (upd H' c (.lst (cells.dropLast.map V.int))) a = some (.dK (sKv c l m t)) := by rw [upd_ne hac]; exact s.d
          refine ⟨_, h1, a, _, rfl, by have := DPut.k (k := Sum.inr "left") (v := .int z) d1 (by show 4 < sizeLine; decide); rw [sp_l] at this; exact this, ?_⟩
          have s' : SrcS (upd (upd H' c (.lst (cells.dropLast.map V.int))) a (.dK (sKv c z m t))) a c cells.dropLast z m t :=
            ⟨upd_same, by rw [upd_ne hac.symm, upd_same], fun x hx => s.c0 x (List.dropLast_subset _ hx), s.c0 z (List.mem_of_getElem? hz), s.m0, s.m1⟩
          refine ⟨cells.dropLast.length, by rw [List.length_dropLast]; omega, rfl, R'.srcW e (fun b hb hc => by rw [upd_ne hb, upd_ne hc]) s'.at_, _, _, _, _, s', rfl⟩
        · exact stop
      · exact stop
    · exact stop
end
end Dl

namespace Lw
open PySem PySem.Spec PyProof.Rows L2 Dl
/-! the draws: what each def keeps -/
theorem ret_src {P : D → Prop} {r : List Vl} {δ' : List Sl} {d : D} {a c : Addr} (h : srcs r = []) (h' : δ'.head? = some (.src a c)) (hp : P d) : P d ∧ Kept (.src a c :: r) δ' := ⟨hp, fun a' c' m => by
  rcases List.mem_cons.mp m with e | m
  · cases e
    exact List.mem_of_head? h'
  · have := (srcs_mem m).1
    rw [h] at this
    cases this⟩
def F__law_pick : FS := fun xs P => ∃ (a c : Addr) (n : Int), xs = [.src a c, .d (.int n)] ∧ -(2 ^ 62) < n ∧ n < 2 ^ 62 ∧ ∀ r : Int, 0 ≤ r → r < max 1 n → P (.int r)
abbrev N__law_pick : List Str := ["source", "many", "left", "mixed"]
def t__law_pick (K : Fg) : TS := (tSeq (tWhile (tAnd (tTest (tOp (rI0 fun i j => .bl (decide (i > j))) (tVar 1) (tC (.int 1)))) (tAnd (tTest (tOp (rI0 fun i j => .bl (decide (i < j))) (tOp (rIxU K) (tVar 0) (tC (.str "left"))) (tC (.int 2)))) (tTest (tOp (rI0 fun i j => .bl (decide (i > j))) (tCB (rLenU K) (tCons (tOp (rIxU K) (tVar 0) (tC (.str "cells"))) tNil)) (tC (.int 0)))))) (sDPut (tVar 0) (tC (.str "left")) (tBM0 K "list" rPop (tOp (rIxU K) (tVar 0) (tC (.str "cells"))))))
    (tSeq (tAsg (tOp (rIxU K) (tVar 0) (tC (.str "left"))) (gName 2))
    (tSeq (tIfS (tOr (tTest (tOp (rI0 fun i j => .bl (decide (i < j))) (tVar 1) (tC (.int 2)))) (tTest (tOp (rI0 fun i j => .bl (decide (i > j))) (tVar 2) (tC (.int 1))))) (tSeq (sDPut (tVar 0) (tC (.str "left")) (tOp (rI CDivW fun i j => .int (i / j)) (tVar 2) (tCB (rMaxU K) (tCons (tC (.int 1)) (tCons (tVar 1) tNil)))))
    (tRet (tOp (rI (fun _ j => 0 < j) fun i j => .int (i % j)) (tCB rInt1 (tCons (tVar 2) tNil)) (tCB (rMaxU K) (tCons (tC (.int 1)) (tCons (tVar 1) tNil)))))) tNext)
    (tSeq (sDPut (tVar 0) (tC (.str "turn")) (tOp (rAddU K) (tOp (rIxU K) (tVar 0) (tC (.str "turn"))) (tC (.int 1))))
    (tSeq (tAsg (tOp (rI (fun _ j => 0 < j) fun i j => .int (i % j)) (tCB rInt1 (tCons (tOp (rAddU K) (tOp (rIxU K) (tVar 0) (tC (.str "mixed"))) (tOp (rMulU K) (tOp (rIxU K) (tVar 0) (tC (.str "turn"))) (tC (.int 104729)))) tNil)) (tC (.int 998244353))) (gName 3))
    (tSeq (tAsg (tOp (rI (fun _ j => 0 < j) fun i j => .int (i % j)) (tCB rInt1 (tCons (tOp (rAddU K) (tOp (rMulU K) (tVar 3) (tVar 3)) (tOp (rMulU K) (tOp (rIxU K) (tVar 0) (tC (.str "turn"))) (tC (.int 17)))) tNil)) (tC (.int 2147483647))) (gName 3))
    (tSeq (sDPut (tVar 0) (tC (.str "mixed")) (tVar 3))
    (tRet (tOp (rI (fun _ j => 0 < j) fun i j => .int (i % j)) (tCB rInt1 (tCons (tOp (rI CDivW fun i j => .int (i / j)) (tVar 3) (tC (.int 16))) tNil)) (tVar 1))))))))))
def F__law_of : FS := fun xs P => ∃ (a c : Addr) (ds : List D), xs = [.src a c, .d (.list ds)] ∧ ds ≠ [] ∧ ds.length ≤ 100000 ∧ ∀ d ∈ ds, P d
abbrev N__law_of : List Str := ["source", "some"]
def t__law_of (K : Fg) : TS := (tRet (tOp (rIxU K) (tVar 1) (tCall (liftSp K F__law_pick) [] E0 (tCons (tVar 0) (tCons (tCB (rLenU K) (tCons (tVar 1) tNil)) tNil)))))
def spSrc (K : Fg) : Sp := fun vs H Q _ => ∃ (a : Addr) (ns : List Int), vs = [.ref a] ∧ SqL K H a (ns.map V.int) ∧ ns.length ≤ 63 ∧
  ∀ (d c : Addr) (H' : Hp), H d = none → H c = none → d ≠ c → SrcAt H' d c → Ex H H' → Q (.ref d) H'
abbrev N__law_source : List Str := ["script", "mixed", "cell"]
def t__law_source (K : Fg) : TS := (tSeq (tAsg (tC (.int 11)) (gName 1))
    (tSeq (tFor (iSeqU K (tVar 0)) (gName 2) (tAsg (tOp (rI (fun _ j => 0 < j) fun i j => .int (i % j)) (tCB rInt1 (tCons (tOp (rAddU K) (tOp (rAddU K) (tOp (rMulU K) (tVar 1) (tC (.int 69069))) (tOp (rMulU K) (tVar 2) (tC (.int 31)))) (tC (.int 5))) tNil)) (tC (.int 2147483629))) (gName 1)))
    (tRet (tDisp [((tC (.str "cells")), (tRevL K (tLc (iSeqU K (tVar 0)) (gName 2) tYes (tCB rAbs1 (tCons (tVar 2) tNil)) [2]))), ((tC (.str "left")), (tC (.int 1))), ((tC (.str "mixed")), (tVar 1)), ((tC (.str "turn")), (tC (.int 0)))]))))
section
variable {K : Fg} {Γ : Ga} {xs : List Vl} {P : D → Prop}
theorem d__law_pick (ha : argOk xs = true) (h : F__law_pick xs P) : SD K Γ (slots N__law_pick xs) (t__law_pick K) { nx := fun δ' => P .none ∧ Kept xs δ', rt := fun d δ' => P d ∧ Kept xs δ' } := by
  obtain ⟨a, c, n, rfl, hn0, hn, hP⟩ := h
  show SD K Γ [.src a c, .d (.int n), .un, .un] _ _
  unfold t__law_pick
  repeat' (first|((with_reducible apply ev_srcL);exact rfl)|((with_reducible apply sd_pick);exact rfl;exact rfl)|(with_reducible first|refine sd_seq ?_|refine sd_asg ?_|refine sd_if ?_|refine et_test ?_|refine et_or ?_|refine ev_op ?_|refine ev_ci ?_|refine od_I0b ?_|refine post_b ?_|refine post_sd ?_)|((with_reducible apply ev_v);exact rfl)|(with_reducible first|intro _)|simp only [List.set_cons_zero, List.set_cons_succ, Bool.not_true, Bool.not_false])
  rename_i l hl
  refine ifB (fun h1 => ?_) (fun h1 => ?_)
  · repeat' (first|((with_reducible apply sd_srcL);exact rfl)|(with_reducible first|refine sd_seq ?_|refine ev_op ?_|refine ev_cb1 ?_|refine ea_cons ?_|refine ea_nil ?_|refine ev_ci ?_|refine ifTT ?_|refine cd_max2 ?_)|((with_reducible apply ev_v);exact rfl)|simp only [List.set_cons_zero, List.set_cons_succ, Bool.not_true, Bool.not_false])
    have hmx : 0 < max (1 : Int) n := by omega
    have hml : (max (1 : Int) n).natAbs < 2 ^ 63 := by omega
    refine od_Ii (C := CDivW) (g := fun i j => i / j) (wide_div hmx hml (by decide) (by decide)) ?_
    repeat' (first|(with_reducible first|refine post_i ?_))
    refine ⟨Int.ediv_nonneg hl (by omega), ?_⟩
    repeat' (first|(with_reducible first|refine sd_ret ?_|refine ev_op ?_|refine ev_cb1 ?_|refine ea_cons ?_|refine ea_nil ?_|refine ev_ci ?_|refine cd_inti ?_|refine cd_max2 ?_)|((with_reducible apply ev_v);exact rfl)|simp only [List.set_cons_zero, List.set_cons_succ, Bool.not_true, Bool.not_false])
    refine od_Ii (C := fun _ j => 0 < j) (g := fun i j => i % j) hmx ?_
    repeat' (first|(with_reducible first|refine post_d ?_)|((with_reducible apply ret_src);exact rfl;exact rfl))
    exact hP _ (Int.emod_nonneg _ (by omega)) (Int.emod_lt_of_pos _ hmx)
  repeat' (first|(with_reducible first|refine et_test ?_|refine ev_op ?_|refine ev_ci ?_|refine od_I0b ?_|refine post_b ?_)|((with_reducible apply ev_v);exact rfl))
  refine ifB (fun h2 => ?_) (fun h2 => ?_)
  · repeat' (first|((with_reducible apply sd_srcL);exact rfl)|(with_reducible first|refine sd_seq ?_|refine ev_op ?_|refine ev_cb1 ?_|refine ea_cons ?_|refine ea_nil ?_|refine ev_ci ?_|refine cd_max2 ?_)|((with_reducible apply ev_v);exact rfl)|simp only [List.set_cons_zero, List.set_cons_succ, Bool.not_true, Bool.not_false])
    have hmx : 0 < max (1 : Int) n := by omega
    have hml : (max (1 : Int) n).natAbs < 2 ^ 63 := by omega
    refine od_Ii (C := CDivW) (g := fun i j => i / j) (wide_div hmx hml (by decide) (by decide)) ?_
    repeat' (first|(with_reducible first|refine post_i ?_))
    refine ⟨Int.ediv_nonneg hl (by omega), ?_⟩
    repeat' (first|(with_reducible first|refine sd_ret ?_|refine ev_op ?_|refine ev_cb1 ?_|refine ea_cons ?_|refine ea_nil ?_|refine ev_ci ?_|refine cd_inti ?_|refine cd_max2 ?_)|((with_reducible apply ev_v);exact rfl)|simp only [List.set_cons_zero, List.set_cons_succ, Bool.not_true, Bool.not_false])
    refine od_Ii (C := fun _ j => 0 < j) (g := fun i j => i % j) hmx ?_
    repeat' (first|(with_reducible first|refine post_d ?_)|((with_reducible apply ret_src);exact rfl;exact rfl))
    exact hP _ (Int.emod_nonneg _ (by omega)) (Int.emod_lt_of_pos _ hmx)
  have hn2 : 2 ≤ n := by have := of_decide_eq_false h1; omega
  repeat' (first|((with_reducible apply ev_srcM);exact rfl)|((with_reducible apply ev_srcT);exact rfl)|((with_reducible apply sd_srcT);exact rfl)|(with_reducible first|refine sd_seq ?_|refine sd_asg ?_|refine sd_next ?_|refine ev_op ?_|refine ev_cb1 ?_|refine ea_cons ?_|refine ev_ci ?_|refine od_addi ?_|refine post_i ?_|intro _)|simp only [List.set_cons_zero, List.set_cons_succ, Bool.not_true, Bool.not_false])
  refine od_muli (.inl (.inr ⟨by decide, by decide⟩)) ?_
  repeat' (first|(with_reducible first|refine ea_nil ?_|refine ev_ci ?_|refine od_addi ?_|refine cd_inti ?_))
  refine od_Ii (C := fun _ j => 0 < j) (g := fun i j => i % j) (by decide) ?_
  repeat' (first|(with_reducible first|refine sd_seq ?_|refine sd_asg ?_|refine ev_op ?_|refine ev_cb1 ?_|refine ea_cons ?_|refine post_sd ?_)|((with_reducible apply ev_v);exact rfl)|simp only [List.set_cons_zero, List.set_cons_succ, Bool.not_true, Bool.not_false])
  rename_i t1 m hm0 hm1 t
  generalize hz : (m + t * 104729) % 998244353 = z
  have hz0 : 0 ≤ z := by rw [← hz]; exact Int.emod_nonneg _ (by decide)
  have hz1 : z < 998244353 := by rw [← hz]; exact Int.emod_lt_of_pos _ (by decide)
  refine od_muli (.inl (.inl ⟨by omega, by omega⟩)) ?_
  repeat' (first|((with_reducible apply ev_srcT);exact rfl)|(with_reducible first|refine ev_op ?_|refine ev_ci ?_|intro _))
  refine od_muli (.inl (.inr ⟨by decide, by decide⟩)) ?_
  repeat' (first|(with_reducible first|refine ea_nil ?_|refine ev_ci ?_|refine od_addi ?_|refine cd_inti ?_))
  refine od_Ii (C := fun _ j => 0 < j) (g := fun i j => i % j) (by decide) ?_
  repeat' (first|((with_reducible apply sd_srcM);exact rfl)|(with_reducible first|refine sd_seq ?_|refine post_i ?_|refine post_sd ?_)|((with_reducible apply ev_v);exact rfl)|simp only [List.set_cons_zero, List.set_cons_succ, Bool.not_true, Bool.not_false])
  rename_i t2
  generalize hy : (z * z + t2 * 17) % 2147483647 = y
  have hy0 : 0 ≤ y := by rw [← hy]; exact Int.emod_nonneg _ (by decide)
  have hy1 : y < 2147483648 := Int.lt_of_lt_of_le (by rw [← hy]; exact Int.emod_lt_of_pos _ (by decide)) (by decide)
  refine ⟨hy0, hy1, ?_⟩
  repeat' (first|(with_reducible first|refine sd_ret ?_|refine ev_op ?_|refine ev_cb1 ?_|refine ea_cons ?_|refine ev_ci ?_)|((with_reducible apply ev_v);exact rfl)|simp only [List.set_cons_zero, List.set_cons_succ, Bool.not_true, Bool.not_false])
  refine od_Ii (C := CDivW) (g := fun i j => i / j) (wide_div (b := 8) (by decide) (by decide) (by decide) (by decide)) ?_
  repeat' (first|(with_reducible first|refine ea_nil ?_|refine cd_inti ?_)|((with_reducible apply ev_v);exact rfl))
  refine od_Ii (C := fun _ j => 0 < j) (g := fun i j => i % j) (by omega) ?_
  repeat' (first|(with_reducible first|refine post_d ?_)|((with_reducible apply ret_src);exact rfl;exact rfl))
  exact hP _ (Int.emod_nonneg _ (by omega)) (by have := Int.emod_lt_of_pos (y / 16) (show 0 < n by omega); omega)
theorem d__law_of (ha : argOk xs = true) (h : F__law_of xs P) : SD K Γ (slots N__law_of xs) (t__law_of K) { nx := fun δ' => P .none ∧ Kept xs δ', rt := fun d δ' => P d ∧ Kept xs δ' } := by
  obtain ⟨a, c, ds, rfl, hne, hl, hP⟩ := h
  show SD K Γ [.src a c, .d (.list ds)] _ _
  unfold t__law_of
  repeat' (first|(with_reducible first|refine sd_ret ?_|refine ev_op ?_|refine ev_call ?_|refine ev_cb1 ?_|refine ea_cons ?_|refine ea_nil ?_)|((with_reducible apply ev_v);exact rfl)|((with_reducible apply ev_vs);exact rfl)|((with_reducible apply post_call);exact rfl)|((with_reducible apply cd_lenl);exact rfl)|simp only [List.set_cons_zero, List.set_cons_succ, Bool.not_true, Bool.not_false])
  have hp : 0 < ds.length := List.length_pos_iff.mpr hne
  refine ⟨a, c, _, rfl, by omega, by omega, fun r h0 h1 => ?_⟩
  obtain ⟨k, rfl⟩ : ∃ k : Nat, r = (k : Int) := ⟨r.toNat, by omega⟩
  have hk : k < ds.length := by omega
  skip
  refine od_ixl rfl (atI_nat (List.getElem?_eq_getElem hk)) ?_
  repeat' (first|(with_reducible first|refine post_d ?_)|((with_reducible apply ret_src);exact rfl;exact rfl))
  exact hP _ (List.getElem_mem hk)
end
end Lw

/-! Ke: the source's making, the law's beginning. -/
namespace Lw
open PySem PySem.Spec PyProof.Rows L2 Dl
theorem mg_s (c : Addr) (l m t : Int) : mergeK [] (sKv c l m t) = sKv c l m t := by
  show putK (putK (putK (putK ([] : List (Key × V)) (Sum.inr ("cells" : Str)) (.ref c)) (Sum.inr ("left" : Str)) (.int l)) (Sum.inr ("mixed" : Str)) (.int m)) (Sum.inr ("turn" : Str)) (.int t) = _
  have e1 : putK ([] : List (Key × V)) (Sum.inr ("cells" : Str)) (.ref c) = [(Sum.inr ("cells" : Str), .ref c)] := putK_new _ rfl
  have e2 : putK [((Sum.inr ("cells" : Str) : Key), V.ref c)] (Sum.inr ("left" : Str)) (.int l) = [(Sum.inr ("cells" : Str), .ref c), (Sum.inr ("left" : Str), .int l)] := putK_new _ (by rw [valV_neg k1]; rfl)
  have e3 : putK [((Sum.inr ("cells" : Str) : Key), V.ref c), (Sum.inr ("left" : Str), .int l)] (Sum.inr ("mixed" : Str)) (.int m) = [(Sum.inr ("cells" : Str), .ref c), (Sum.inr ("left" : Str), .int l), (Sum.inr ("mixed" : Str), .int m)] := putK_new _ (by rw [valV_neg k2, valV_neg k4]; rfl)
  have e4 : putK [((Sum.inr ("cells" : Str) : Key), V.ref c), (Sum.inr ("left" : Str), .int l), (Sum.inr ("mixed" : Str), .int m)] (Sum.inr ("turn" : Str)) (.int t) = sKv c l m t := putK_new _ (by rw [valV_neg k3, valV_neg k5, valV_neg k6]; rfl)
  rw [e1, e2, e3, e4]
theorem yes_go {σ : L2.St} {H : Hp} {A : Bool → Hp → Prop} (h : A true H) : tYes σ H A := h
def absI (n : Int) : Int := if n < 0 then -n else n
theorem src_body {K : Fg} {vs : List V} {H : Hp} {Q : VK} {E : XK} (h : spSrc K vs H Q E) : t__law_source K { nx := fun _ H' => Q .non H', rt := Q } (L2.start N__law_source vs) H := by
  obtain ⟨a, ns, rfl, hS, hl, q⟩ := h
  unfold t__law_source
  refine ⟨.ref a, rfl, .l, a, rfl, ⟨_, hS⟩, for_list (K := K) (a := a) (xs := ns.map V.int) (fun i σ H' => H' = H ∧ ∃ (m : Int) (c3 : Option V), σ = [some (.ref a), some (.int m), c3] ∧ 0 ≤ m ∧ m < 2147483629)
    ⟨rfl, 11, none, rfl, by decide, by decide⟩ (fun i σ H' _ ⟨e, _⟩ => by rw [e]; exact hS) ?_ ?_⟩
  · rintro i x σ H' hi ⟨rfl, m, c3, rfl, hm0, hm1⟩
    obtain ⟨z, hz, rfl⟩ : ∃ z, ns[i]? = some z ∧ x = V.int z := by
      rw [List.getElem?_map] at hi
      cases e : ns[i]? with
      | none => rw [e] at hi; cases hi
      | some z => rw [e] at hi; exact ⟨z, rfl, (Option.some.inj hi).symm⟩
    refine ⟨_, rfl, .inl ⟨m, 69069, rfl, rfl, .inl ⟨by omega, by omega⟩, _, rfl, .inl ⟨z, 31, rfl, rfl, .inr ⟨by decide, by decide⟩, .inl ⟨_, _, rfl, rfl, .inl ⟨_, _, rfl, rfl, .inl ⟨_, rfl, _, _, rfl, rfl, (by show (0 : Int) < 2147483629; decide), ?_⟩⟩⟩⟩⟩⟩
    exact ⟨rfl, _, _, rfl, Int.emod_nonneg _ (by decide), Int.emod_lt_of_pos _ (by decide)⟩
  · rintro σ H' ⟨rfl, m, c3, rfl, hm0, hm1⟩
    intro p hp
    have x1 : Ex H' (upd H' p (.dK [])) := Evl.Ex.new hp
    refine ⟨.ref a, rfl, .l, a, rfl, ⟨_, Evl.ex_l x1 hS⟩, fun Dl hD => lc_list (K := K) (a := a) (xs := ns.map V.int) (fun i H2 => H2 = upd (upd H' p (.dK [])) Dl (.lst ((ns.take i).map fun n => V.int (absI n))))
      rfl (fun i H2 _ e => by rw [e]; exact Evl.ex_l (x1.trans (Evl.Ex.new hD)) hS) ?_ ?_⟩
    · rintro i x H2 hi rfl
      obtain ⟨z, hz, rfl⟩ : ∃ z, ns[i]? = some z ∧ x = V.int z := by
        rw [List.getElem?_map] at hi
        cases e : ns[i]? with
        | none => rw [e] at hi; cases hi
        | some z => rw [e] at hi; exact ⟨z, rfl, (Option.some.inj hi).symm⟩
      refine ⟨rfl, ?_⟩
      refine yes_go ?_
      rw [if_pos rfl]
      refine ⟨_, rfl, z, rfl, _, upd_same, ?_, ?_⟩
      · rw [List.length_map, List.length_take]
        exact Nat.lt_of_le_of_lt (Nat.le_trans (Nat.min_le_right _ _) hl) (by decide)
      · show upd (upd (upd H' p (.dK [])) Dl _) Dl (.lst ((ns.take i).map (fun n => V.int (absI n)) ++ [V.int (absI z)])) = _
        have et : (ns.take (i + 1)).map (fun n => V.int (absI n)) = (ns.take i).map (fun n => V.int (absI n)) ++ [V.int (absI z)] := by
          rw [List.take_add_one, hz, List.map_append]
          rfl
        rw [et]
        funext b
        by_cases hb : b = Dl
        · rw [hb, upd_same, upd_same]
        · rw [upd_ne hb, upd_ne hb, upd_ne hb]
    · rintro H2 rfl
      rw [List.length_map, List.take_length]
      refine ⟨Dl, _, rfl, Evl.sq_of upd_same, fun c hc => ?_⟩
      have npD : p ≠ Dl := fun e => by rw [← e, upd_same] at hD; cases hD
      have ncD : c ≠ Dl := fun e => by rw [e, upd_same] at hc; cases hc
      rw [upd_ne ncD] at hc
      have ncp : c ≠ p := fun e => by rw [e, upd_same] at hc; cases hc
      rw [upd_ne ncp] at hc
      refine ⟨_, rfl, by rw [upd_ne ncp.symm, upd_ne npD, upd_same], sKv c 1 m 0, rfl, by show 4 ≤ 15; decide, ?_⟩
      rw [mg_s]
      refine q p c _ hp hc ncp.symm ⟨(ns.map absI).reverse, 1, m, 0, upd_same, by rw [upd_ne ncp, upd_same, ← List.map_reverse, ← List.map_reverse, List.map_map]; rfl, fun x hx => ?_, by decide, hm0, by omega⟩ fun b o e => ?_
      · obtain ⟨z, _, rfl⟩ := List.mem_map.mp (List.mem_reverse.mp hx)
        unfold absI
        split <;> omega
      · have hD' : H' Dl = none := by
          rw [upd_ne (fun e => npD e.symm)] at hD
          exact hD
        rw [upd_ne (ne_of_none e hp), upd_ne (ne_of_none e hc), upd_ne (ne_of_none e hD'), upd_ne (ne_of_none e hp)]
        exact e
theorem len_src {K : Fg} : ∀ vs H Q E, spSrc K vs H Q E → vs.length = 1 := fun vs H Q E ⟨a, ns, h, _⟩ => by rw [h]; rfl
/-- the law's promise -/
def spLaw (K : Fg) : Sp := fun vs H Q _ => ∃ (a : Addr) (ns : List Int), vs = [.ref a] ∧ SqL K H a (ns.map V.int) ∧ ns.length ≤ 63 ∧ ∀ H', Q (.bl true) H'
theorem len_law {K : Fg} : ∀ vs H Q E, spLaw K vs H Q E → vs.length = 1 := fun vs H Q E ⟨a, ns, h, _⟩ => by rw [h]; rfl
/-- the law's frame, the source made -/
def sl0 (N : List Str) (d c : Addr) : List Sl := .un :: .src d c :: List.replicate (N.length - 2) .un
theorem law_body {K : Fg} {N : List Str} {rest : TS} {vs : List V} {H : Hp} {Q : VK} {E : XK} (hN : 2 ≤ N.length) (h : spLaw K vs H Q E) (hb : ∀ (Γ : Ga) (d c : Addr), SD K Γ (sl0 N d c) rest { nx := fun _ => False, rt := fun x _ => x = .bool true }) :
    (tSeq (tAsg (tCall (spSrc K) [] E0 (tCons (tVar 0) tNil)) (gName 1)) rest) { nx := fun _ H' => Q .non H', rt := Q } (L2.start N vs) H := by
  obtain ⟨a, ns, rfl, hS, hl, q⟩ := h
  have e0 : L2.start N [.ref a] = some (.ref a) :: List.replicate (N.length - 1) none := rfl
  rw [e0]
  refine ⟨.ref a, rfl, a, ns, rfl, hS, hl, fun d c H' hd hc hdc hs ex => ?_⟩
  show rest _ ((some (.ref a) :: List.replicate (N.length - 1) none).set 1 (some (.ref d))) H'
  have e1 : (some (V.ref a) :: List.replicate (N.length - 1) none).set 1 (some (.ref d)) = some (.ref a) :: some (.ref d) :: List.replicate (N.length - 2) none := by
    rw [show N.length - 1 = (N.length - 2) + 1 by omega, List.replicate_succ]
    rfl
  rw [e1]
  refine hb ⟨H', fun _ => none, [d, c]⟩ d c _ H' (fun _ => none) ⟨?_, fun i s e => ?_, fun i j s t h1 h2 hij x hx hx' => ?_, fun s hs' => ?_, (fun _ _ z => by cases z), fun _ _ z _ => z, fun _ z => z, fun _ _ z => z, fun _ _ z _ => z⟩ _ ⟨fun _ _ _ _ _ _ z => z.elim, fun v x σ H2 G2 δ' R _ hd' e => ?_, fun _ _ _ _ _ _ z => z.elim, fun _ _ _ _ _ _ z => z.elim⟩
  · unfold sl0
    simp
  · unfold sl0 at e
    match i with
    | 0 => cases e; exact ⟨_, rfl, fun x hx => by cases hx⟩
    | 1 => cases e; exact ⟨_, rfl, fun x hx => by cases hx; exact ⟨_, rfl, rfl, rfl, rfl, hs⟩⟩
    | i + 2 =>
      have e' : (List.replicate (N.length - 2) Sl.un)[i]? = some s := e
      rw [List.getElem?_replicate] at e'
      split at e'
      · rename_i hi
        cases e'
        refine ⟨none, ?_, fun x hx => by cases hx⟩
        show (List.replicate (N.length - 2) none)[i]? = _
        rw [List.getElem?_replicate, if_pos hi]
      · cases e'
  · have key : ∀ (i : Nat) (s : Sl), (sl0 N d c)[i]? = some s → x ∈ s.ads → i = 1 := fun i s e hx => by
      unfold sl0 at e
      match i with
      | 0 => cases e; cases hx
      | 1 => rfl
      | i + 2 =>
        have e' : (List.replicate (N.length - 2) Sl.un)[i]? = some s := e
        rw [List.getElem?_replicate] at e'
        split at e'
        · cases e'; cases hx
        · cases e'
    exact hij ((key i s h1 hx).trans (key j t h2 hx').symm)
  · unfold sl0 at hs'
    rcases List.mem_cons.mp hs' with rfl | hs'
    · trivial
    · rcases List.mem_cons.mp hs' with rfl | hs'
      · exact .inl ⟨by simp, by simp⟩
      · rw [(List.mem_replicate.mp hs').2]
        trivial
  · subst e
    obtain rfl := Dp.bl_inv hd'
    exact q H2
end Lw
namespace L2
open PySem PySem.Spec PyProof.Rows
/-- the rule of a def by its promise -/
theorem Stands.keepsSp {P : Program} {w : World} {K : PySem.W.Frag} {mg : Str → Option Value} {base : Heap} {x : Str} {st : Stmt} {N ps : List Str} {k : Nat} {sp : Sp} {t : TS} (D : Stands K mg x st ps) (S : FnScope N ps (defScope st)) (len : ∀ vs H Q E, sp vs H Q E → vs.length = ps.length)
    (hw : ∀ (f : Addr) (cdv : Value) (A : Around) (outer : List Env) (s : Shared) (H : Hp) (E : XK), A.guards = some [] → Room k (A.deeper (envOfC x (defScope st) s.heap.objs.size f cdv)) →
      PSs (cxOf CX0 P w K mg base N x (defScope st) f cdv A outer s H E) (defBody st) t)
    (hb : ∀ vs H Q E, sp vs H Q E → t { nx := fun _ H' => Q .non H', rt := Q } (start N vs) H) : Keeps P w K mg base x ps (k + 1) sp := by
  obtain ⟨f, fd, Fd, hm, hbn⟩ := D
  exact ⟨f, fd, Fd.okG S len (fun cdv A outer s H vs Q E hgd hr h => ⟨t, hw f cdv A outer s H E hgd hr, hb vs H Q E h⟩), hm, Fd.kp, hbn⟩
end L2

/-! Kf: whole parts of weighted sums, first ones, corners: the mathematics of their machines. -/
namespace Lw
open PySem PySem.Spec PyProof.Rows L2 Dl
/-! ### sums -/
def dot : List Int → List Int → Int
  | w :: ws, x :: xs => w * x + dot ws xs
  | _, _ => 0
theorem dot_add : ∀ {w x v : List Int}, x.length = v.length → dot w (addv x v) = dot w x + dot w v
  | [], [], [], _ => rfl
  | [], _ :: _, _ :: _, _ => rfl
  | _ :: _, [], [], _ => rfl
  | w :: ws, x :: xs, v :: vs, h => by
    show w * (x + v) + dot ws (addv xs vs) = w * x + dot ws xs + (w * v + dot ws vs)
    rw [dot_add (by simpa using h), Int.mul_add]
    omega
theorem dot_nonneg : ∀ {w x : List Int}, (∀ a ∈ w, 0 ≤ a) → (∀ a ∈ x, 0 ≤ a) → 0 ≤ dot w x
  | [], _, _, _ => Int.le_refl _
  | _ :: _, [], _, _ => Int.le_refl _
  | w :: ws, x :: xs, h, h' => by
    have h1 := dot_nonneg (w := ws) (x := xs) (fun a ha => h a (by simp [ha])) fun a ha => h' a (by simp [ha])
    have h2 := Int.mul_nonneg (h w (by simp)) (h' x (by simp))
    show 0 ≤ w * x + dot ws xs
    omega
def bsum : List Int → List Int → List Int → Int
  | f :: fs, b :: bs, x :: xs => (if 0 < f ∧ f ≤ x then b else 0) + bsum fs bs xs
  | _, _, _ => 0
theorem bsum_most {B : Int} (hB : 0 ≤ B) : ∀ {fs bs xs : List Int}, (∀ b ∈ bs, 0 ≤ b ∧ b ≤ B) → 0 ≤ bsum fs bs xs ∧ bsum fs bs xs ≤ B * bs.length
  | [], bs, _, h => ⟨Int.le_refl _, Int.mul_nonneg hB (Int.natCast_nonneg _)⟩
  | _ :: _, [], _, _ => ⟨Int.le_refl _, Int.mul_nonneg hB (Int.natCast_nonneg _)⟩
  | _ :: _, _ :: _, [], _ => ⟨Int.le_refl _, Int.mul_nonneg hB (Int.natCast_nonneg _)⟩
  | f :: fs, b :: bs, x :: xs, h => by
    obtain ⟨h1, h2⟩ := bsum_most hB (fs := fs) (bs := bs) (xs := xs) fun a ha => h a (by simp [ha])
    have hb := h b (by simp)
    have e : B * ((b :: bs).length : Int) = B * (bs.length : Int) + B := by
      rw [List.length_cons, Int.natCast_succ, Int.mul_add, Int.mul_one]
    rw [e]
    show 0 ≤ (if 0 < f ∧ f ≤ x then b else 0) + bsum fs bs xs ∧ (if 0 < f ∧ f ≤ x then b else 0) + bsum fs bs xs ≤ _
    split <;> omega
theorem bsum_mono : ∀ {fs bs xs vs : List Int}, (∀ b ∈ bs, 0 ≤ b) → (∀ v ∈ vs, 0 ≤ v) → xs.length = vs.length → bsum fs bs xs ≤ bsum fs bs (addv xs vs)
  | [], _, _, _, _, _, _ => Int.le_refl _
  | _ :: _, [], _, _, _, _, _ => Int.le_refl _
  | _ :: _, _ :: _, [], [], _, _, _ => Int.le_refl _
  | f :: fs, b :: bs, x :: xs, v :: vs, h, h', hl => by
    have ih := bsum_mono (fs := fs) (bs := bs) (xs := xs) (vs := vs) (fun a ha => h a (by simp [ha])) (fun a ha => h' a (by simp [ha])) (by simpa using hl)
    have hb := h b (by simp)
    have hv := h' v (by simp)
    show (if 0 < f ∧ f ≤ x then b else 0) + bsum fs bs xs ≤ (if 0 < f ∧ f ≤ x + v then b else 0) + bsum fs bs (addv xs vs)
    by_cases h1 : 0 < f ∧ f ≤ x
    · rw [if_pos h1, if_pos ⟨h1.1, by omega⟩]
      omega
    · rw [if_neg h1]
      split <;> omega
/-- each at most each -/
def leB : List Int → List Int → Bool
  | a :: as, b :: bs => decide (a ≤ b) && leB as bs
  | [], [] => true
  | _, _ => false
/-! ### alike from the thresholds on -/
inductive Sim (n : Int) : List Int → List Int → List Int → Prop
  | nil : Sim n [] [] []
  | cons {x y t : Int} {xs ys ts : List Int} : (x = y ∨ (t ≤ x ∧ t ≤ y ∧ ∃ q, y = x + n * q)) → Sim n xs ys ts → Sim n (x :: xs) (y :: ys) (t :: ts)
theorem Sim.len {n : Int} {xs ys ts : List Int} (h : Sim n xs ys ts) : xs.length = ts.length ∧ ys.length = ts.length := by
  induction h with
  | nil => exact ⟨rfl, rfl⟩
  | cons _ _ ih => exact ⟨congrArg (· + 1) ih.1, congrArg (· + 1) ih.2⟩
def atv (n : Int) (xs ts : List Int) : List Int := List.zipWith (fun m t => if m < t + n then m else t + (m - t) % n) xs ts
theorem sim_at {n : Int} (hn : 0 < n) : ∀ {xs ts : List Int}, xs.length = ts.length → Sim n xs (atv n xs ts) ts
  | [], [], _ => .nil
  | x :: xs, t :: ts, h => by
    refine .cons ?_ (sim_at hn (by simpa using h))
    show x = (if x < t + n then x else t + (x - t) % n) ∨ _
    split
    · exact .inl rfl
    · rename_i h1
      have h2 := Int.emod_nonneg (x - t) (show n ≠ 0 by omega)
      have h3 := Int.mul_ediv_add_emod (x - t) n
      refine .inr ⟨by omega, by show t ≤ (if x < t + n then x else t + (x - t) % n); rw [if_neg h1]; omega, -((x - t) / n), ?_⟩
      show (if x < t + n then x else t + (x - t) % n) = _
      rw [if_neg h1, Int.mul_neg]
      omega
theorem Sim.add {n : Int} {xs ys ts : List Int} (h : Sim n xs ys ts) : ∀ {vs : List Int}, vs.length = ts.length → (∀ v ∈ vs, 0 ≤ v) → Sim n (addv xs vs) (addv ys vs) ts := by
  induction h with
  | nil =>
    intro vs hl _
    cases vs with
    | nil => exact .nil
    | cons _ _ => simp at hl
  | @cons x y t xs ys ts hx _ ih =>
    intro vs hl hv
    cases vs with
    | nil => simp at hl
    | cons v vs =>
      have h0 := hv v (by simp)
      refine .cons ?_ (ih (by simpa using hl) fun a ha => hv a (by simp [ha]))
      rcases hx with rfl | ⟨h1, h2, q, rfl⟩
      · exact .inl rfl
      · exact .inr ⟨show t ≤ x + v by omega, show t ≤ x + n * q + v by omega, q, show x + n * q + v = x + v + n * q by omega⟩
theorem Sim.at_eq {n : Int} (hn : 0 < n) {xs ys ts : List Int} (h : Sim n xs ys ts) : atv n xs ts = atv n ys ts := by
  induction h with
  | nil => rfl
  | @cons x y t xs ys ts hx _ ih =>
    show (if x < t + n then x else t + (x - t) % n) :: atv n xs ts = (if y < t + n then y else t + (y - t) % n) :: atv n ys ts
    rw [ih]
    congr 1
    rcases hx with rfl | ⟨h1, h2, q, rfl⟩
    · rfl
    · have key : ∀ z : Int, t ≤ z → (if z < t + n then z else t + (z - t) % n) = t + (z - t) % n := fun z hz => by
        split
        · rw [Int.emod_eq_of_lt (by omega) (by omega)]
          omega
        · rfl
      rw [key x h1, key _ h2, show x + n * q - t = (x - t) + n * q by omega, Int.add_mul_emod_self_left]
theorem Sim.dot {n : Int} {xs ys ts : List Int} (h : Sim n xs ys ts) : ∀ w : List Int, ∃ k, dot w ys = dot w xs + n * k := by
  induction h with
  | nil => intro w; exact ⟨0, by cases w <;> simp [Lw.dot]⟩
  | @cons x y t xs ys ts hx _ ih =>
    intro w
    cases w with
    | nil => exact ⟨0, by simp [Lw.dot]⟩
    | cons w ws =>
      obtain ⟨k, hk⟩ := ih ws
      rcases hx with rfl | ⟨h1, h2, q, rfl⟩
      · exact ⟨k, by show w * x + Lw.dot ws ys = w * x + Lw.dot ws xs + _; omega⟩
      · refine ⟨w * q + k, ?_⟩
        show w * (x + n * q) + Lw.dot ws ys = w * x + Lw.dot ws xs + n * (w * q + k)
        have e1 : w * (x + n * q) = w * x + n * (w * q) := by rw [Int.mul_add, ← Int.mul_assoc, Int.mul_comm w n, Int.mul_assoc]
        rw [e1, hk, Int.mul_add]
        omega
theorem Sim.bsum {n : Int} {xs ys ts : List Int} (h : Sim n xs ys ts) : ∀ {fs : List Int} (bs : List Int), leB fs ts = true → bsum fs bs xs = bsum fs bs ys := by
  induction h with
  | nil => intro fs bs _; cases fs <;> cases bs <;> rfl
  | @cons x y t xs ys ts hx _ ih =>
    intro fs bs hf
    cases fs with
    | nil => rfl
    | cons f fs =>
      cases bs with
      | nil => rfl
      | cons b bs =>
        have hf' : decide (f ≤ t) = true ∧ leB fs ts = true := by
          have : (decide (f ≤ t) && leB fs ts) = true := hf
          rwa [Bool.and_eq_true] at this
        have h1 := of_decide_eq_true hf'.1
        show (if 0 < f ∧ f ≤ x then b else 0) + Lw.bsum fs bs xs = (if 0 < f ∧ f ≤ y then b else 0) + Lw.bsum fs bs ys
        rw [ih bs hf'.2]
        rcases hx with rfl | ⟨h2, h3, q, rfl⟩
        · rfl
        · by_cases h4 : 0 < f
          · rw [if_pos ⟨h4, by omega⟩, if_pos ⟨h4, by omega⟩]
          · rw [if_neg fun z => h4 z.1, if_neg fun z => h4 z.1]
theorem Sim.le {n : Int} {xs ys ts : List Int} (h : Sim n xs ys ts) : ∀ {c : List Int}, leB c ts = true → leB c xs = leB c ys := by
  induction h with
  | nil => intro c _; rfl
  | @cons x y t xs ys ts hx _ ih =>
    intro c hc
    cases c with
    | nil => rfl
    | cons a c =>
      have hc' : decide (a ≤ t) = true ∧ leB c ts = true := by
        have : (decide (a ≤ t) && leB c ts) = true := hc
        rwa [Bool.and_eq_true] at this
      have h1 := of_decide_eq_true hc'.1
      show (decide (a ≤ x) && leB c xs) = (decide (a ≤ y) && leB c ys)
      rw [ih hc'.2]
      rcases hx with rfl | ⟨h2, h3, q, rfl⟩
      · rfl
      · rw [decide_eq_true (show a ≤ x by omega), decide_eq_true (show a ≤ x + n * q by omega)]
theorem leB_add : ∀ {c xs vs : List Int}, xs.length = vs.length → (∀ v ∈ vs, 0 ≤ v) → leB c xs = true → leB c (addv xs vs) = true
  | [], [], [], _, _, h => h
  | [], _ :: _, _ :: _, _, _, h => by cases h
  | _ :: _, [], [], _, _, h => by cases h
  | a :: c, x :: xs, v :: vs, hl, hv, h => by
    have h' : decide (a ≤ x) = true ∧ leB c xs = true := by
      have : (decide (a ≤ x) && leB c xs) = true := h
      rwa [Bool.and_eq_true] at this
    have h1 := of_decide_eq_true h'.1
    have h0 := hv v (by simp)
    show (decide (a ≤ x + v) && leB c (addv xs vs)) = true
    rw [decide_eq_true (show a ≤ x + v by omega), leB_add (by simpa using hl) (fun a ha => hv a (by simp [ha])) h'.2]
    rfl
/-! ### the functions -/
structure Fn where
  ins : Nat
  n : Int
  rows : List (List Int × Int × List Int)
  firsts : List Int
  edges : List (List Int)
  far : List Int
structure FnOk (f : Fn) : Prop where
  ins : 1 ≤ f.ins ∧ f.ins ≤ 2
  outs : 1 ≤ f.rows.length ∧ f.rows.length ≤ 2
  n : 1 ≤ f.n ∧ f.n ≤ 4
  ws : ∀ r ∈ f.rows, r.1.length = f.ins ∧ ∀ x ∈ r.1, 0 ≤ x ∧ x ≤ 7
  ss : ∀ r ∈ f.rows, 0 ≤ r.2.1 ∧ r.2.1 < f.n
  bs : ∀ r ∈ f.rows, r.2.2.length = f.ins ∧ ∀ x ∈ r.2.2, 0 ≤ x ∧ x ≤ 3
  fs : f.firsts.length = f.ins ∧ ∀ x ∈ f.firsts, 0 ≤ x ∧ x ≤ 2
  es : f.edges.length ≤ 2
  ec : ∀ c ∈ f.edges, c.length = f.ins ∧ (∀ x ∈ c, 0 ≤ x ∧ x ≤ 3) ∧ (∃ x ∈ c, 0 < x) ∧ leB c f.far = true
  far : f.far.length = f.ins ∧ ∀ x ∈ f.far, 0 ≤ x ∧ x ≤ 3
  ff : leB f.firsts f.far = true
def Fn.never (f : Fn) (x : List Int) : Bool := f.edges.any fun c => leB c x
def Fn.one (f : Fn) (r : List Int × Int × List Int) (x : List Int) : Int := (dot r.1 x + r.2.1) / f.n + bsum f.firsts r.2.2 x
def Fn.given (f : Fn) (x : List Int) : List Int := f.rows.map fun r => f.one r x
def Fn.at (f : Fn) (x : List Int) : List Int := atv f.n x f.far
theorem subv_map {α : Type} (l : List α) (a b : α → Int) : subv (l.map a) (l.map b) = l.map fun x => a x - b x := by
  induction l with
  | nil => rfl
  | cons x l ih => exact congrArg (_ :: ·) ih
theorem addv_map {α : Type} (l : List α) (a b : α → Int) : addv (l.map a) (l.map b) = l.map fun x => a x + b x := by
  induction l with
  | nil => rfl
  | cons x l ih => exact congrArg (_ :: ·) ih
section
variable {f : Fn} (k : FnOk f)
theorem one_sim {x y v : List Int} (h : Sim f.n x y f.far) (hv : v.length = f.far.length) (h0 : ∀ a ∈ v, 0 ≤ a) {r : List Int × Int × List Int} (k : FnOk f) : f.one r (addv x v) - f.one r x = f.one r (addv y v) - f.one r y := by
  obtain ⟨q, hq⟩ := h.dot r.1
  have hl := h.len
  have hn := k.n.1
  unfold Fn.one
  rw [(h.add hv h0).bsum r.2.2 k.ff, h.bsum r.2.2 k.ff, dot_add (by omega), dot_add (by omega), hq]
  rw [show dot r.1 x + f.n * q + dot r.1 v + r.2.1 = (dot r.1 x + dot r.1 v + r.2.1) + f.n * q by omega, show dot r.1 x + f.n * q + r.2.1 = (dot r.1 x + r.2.1) + f.n * q by omega,
    Int.add_mul_ediv_left _ _ (by omega), Int.add_mul_ediv_left _ _ (by omega)]
  omega
theorem given_sim {x y v : List Int} (k : FnOk f) (h : Sim f.n x y f.far) (hv : v.length = f.far.length) (h0 : ∀ a ∈ v, 0 ≤ a) : subv (f.given (addv x v)) (f.given x) = subv (f.given (addv y v)) (f.given y) := by
  unfold Fn.given
  rw [subv_map, subv_map]
  refine List.map_congr_left fun r _ => one_sim h hv h0 k
theorem never_sim {x y : List Int} (k : FnOk f) (h : Sim f.n x y f.far) : f.never x = f.never y := by
  unfold Fn.never
  have : ∀ {l : List (List Int)}, (∀ c ∈ l, leB c f.far = true) → (l.any fun c => leB c x) = l.any fun c => leB c y := by
    intro l
    induction l with
    | nil => intro _; rfl
    | cons c l ih =>
      intro hl
      rw [List.any_cons, List.any_cons, ih fun c hc => hl c (by simp [hc]), h.le (hl c (by simp))]
  exact this fun c hc => (k.ec c hc).2.2.2
theorem never_add {x v : List Int} (hl : x.length = v.length) (h0 : ∀ a ∈ v, 0 ≤ a) (h : f.never x = true) : f.never (addv x v) = true := by
  unfold Fn.never at h ⊢
  obtain ⟨c, hc, h1⟩ := List.any_eq_true.mp h
  exact List.any_eq_true.mpr ⟨c, hc, leB_add hl h0 h1⟩
theorem one_step {x v : List Int} {r : List Int × Int × List Int} (k : FnOk f) (hr : r ∈ f.rows) (hx : x.length = v.length) (h0 : ∀ a ∈ v, 0 ≤ a) : 0 ≤ f.one r (addv x v) - f.one r x ∧ f.one r (addv x v) - f.one r x ≤ dot r.1 v + 6 := by
  have hn := k.n.1
  have hd := dot_nonneg (fun a ha => ((k.ws r hr).2 a ha).1) h0
  have hb := bsum_mono (fs := f.firsts) (xs := x) (vs := v) (fun b hb => ((k.bs r hr).2 b hb).1) h0 hx
  have h3 := (bsum_most (B := 3) (by decide) (fs := f.firsts) (xs := addv x v) (k.bs r hr).2).2
  have h4 := (bsum_most (B := 3) (by decide) (fs := f.firsts) (xs := x) (k.bs r hr).2).1
  have hi := k.ins.2
  have hbl := (k.bs r hr).1
  unfold Fn.one
  rw [dot_add hx]
  have e1 : (dot r.1 x + r.2.1) / f.n ≤ (dot r.1 x + dot r.1 v + r.2.1) / f.n := Int.ediv_le_ediv (by omega) (by omega)
  have e2 : (dot r.1 x + dot r.1 v + r.2.1) / f.n ≤ (dot r.1 x + r.2.1 + f.n * dot r.1 v) / f.n := Int.ediv_le_ediv (by omega) (by
    have : dot r.1 v ≤ f.n * dot r.1 v := by
      have := Int.mul_le_mul_of_nonneg_right (show 1 ≤ f.n by omega) hd
      omega
    omega)
  rw [Int.add_mul_ediv_left _ _ (by omega)] at e2
  omega
end
/-! ### one wire's tokens -/
def unit (n i : Nat) (k : Int) : List Int := (List.replicate n 0).set i k
theorem unit_len (n i : Nat) (k : Int) : (unit n i k).length = n := by simp [unit]
theorem unit_nonneg {n i : Nat} {k : Int} (hk : 0 ≤ k) : ∀ a ∈ unit n i k, 0 ≤ a := fun a ha => by
  unfold unit at ha
  rcases List.mem_or_eq_of_mem_set ha with h | h
  · rw [(List.mem_replicate.mp h).2]; decide
  · rw [h]; exact hk
theorem addv_get {x v : List Int} {i : Nat} {a b : Int} (h : x[i]? = some a) (h' : v[i]? = some b) : (addv x v)[i]? = some (a + b) := by
  unfold addv
  rw [List.getElem?_zipWith, h, h']
theorem unit_get {n i j : Nat} {k : Int} (hj : j < n) : (unit n i k)[j]? = some (if i = j then k else 0) := by
  unfold unit
  by_cases h : i = j
  · subst h
    rw [if_pos rfl, List.getElem?_set_self (by simpa using hj)]
  · rw [if_neg h, List.getElem?_set_ne h, List.getElem?_replicate, if_pos hj]
theorem ext_n {x y : List Int} {n : Nat} (hx : x.length = n) (hy : y.length = n) (h : ∀ j, j < n → x[j]? = y[j]?) : x = y := List.ext_getElem? fun j => by
  by_cases hj : j < n
  · exact h j hj
  · rw [List.getElem?_eq_none (by omega), List.getElem?_eq_none (by omega)]
theorem unit_add (n i : Nat) (a b : Int) : addv (unit n i a) (unit n i b) = unit n i (a + b) :=
  ext_n (by rw [addv_len (by simp [unit_len]), unit_len]) (unit_len ..) fun j hj => by
    rw [addv_get (unit_get hj) (unit_get hj), unit_get hj]
    split <;> rfl
theorem unit_zero (n i : Nat) : unit n i 0 = List.replicate n 0 :=
  ext_n (unit_len ..) (by simp) fun j hj => by
    rw [unit_get hj, List.getElem?_replicate, if_pos hj]
    split <;> rfl
theorem addv_comm : ∀ a b : List Int, addv a b = addv b a
  | [], [] => rfl
  | [], _ :: _ => rfl
  | _ :: _, [] => rfl
  | x :: a, y :: b => by
    show (x + y) :: addv a b = (y + x) :: addv b a
    rw [addv_comm a b, Int.add_comm]
end Lw

/-! Kg: a function's machine: where its tokens lead, what they give. -/
namespace Lw
open PySem PySem.Spec PyProof.Rows L2 Dl
structure IsM (f : Fn) (m : Mach) (ps : List (List Int)) : Prop where
  ins : m.ins = f.ins
  outs : m.outs = f.rows.length
  len : m.steps.length = ps.length
  wide : ∀ l ∈ m.steps, l.length = f.ins
  nd : ps.Nodup
  zero : ps[0]? = some (List.replicate f.ins 0)
  most : ps.length ≤ 100
  pl : ∀ p ∈ ps, p.length = f.ins ∧ (∀ x ∈ p, 0 ≤ x) ∧ f.at p = p ∧ f.never p = false
  st0 : ∀ a p i, ps[a]? = some p → i < f.ins → f.never (addv p (unit f.ins i 1)) = true → m.st a i = none
  st1 : ∀ a p i, ps[a]? = some p → i < f.ins → f.never (addv p (unit f.ins i 1)) = false → ∃ b, ps[b]? = some (f.at (addv p (unit f.ins i 1))) ∧ m.st a i = some (b, subv (f.given (addv p (unit f.ins i 1))) (f.given p))
theorem dot_zero : ∀ (w : List Int) (n : Nat), dot w (List.replicate n 0) = 0
  | [], n => by cases n <;> rfl
  | _ :: _, 0 => rfl
  | w :: ws, n + 1 => by
    rw [List.replicate_succ]
    show w * 0 + dot ws (List.replicate n 0) = 0
    rw [dot_zero ws n, Int.mul_zero, Int.zero_add]
theorem dot_unit : ∀ {w : List Int} {n i : Nat} {c k : Int}, w.length = n → w[i]? = some c → dot w (unit n i k) = c * k
  | [], _, _, _, _, _, h => by simp at h
  | x :: w, n, 0, c, k, hl, h => by
    subst hl
    have e : x = c := by simpa using h
    subst e
    show dot (x :: w) ((List.replicate (w.length + 1) 0).set 0 k) = x * k
    rw [List.replicate_succ]
    show x * k + dot w (List.replicate w.length 0) = x * k
    rw [dot_zero, Int.add_zero]
  | x :: w, n, i + 1, c, k, hl, h => by
    subst hl
    have h' : w[i]? = some c := by simpa using h
    show dot (x :: w) ((List.replicate (w.length + 1) 0).set (i + 1) k) = c * k
    rw [List.replicate_succ]
    show x * 0 + dot w (unit w.length i k) = c * k
    rw [dot_unit rfl h', Int.mul_zero, Int.zero_add]
theorem subv_self (a : List Int) : subv a a = List.replicate a.length 0 := by
  induction a with
  | nil => rfl
  | cons x a ih =>
    rw [List.length_cons, List.replicate_succ, ← ih]
    show (x - x) :: subv a a = 0 :: subv a a
    rw [Int.sub_self]
theorem subv_tel : ∀ {p a b : List Int}, p.length = a.length → a.length = b.length → addv (subv a p) (subv b a) = subv b p
  | [], [], [], _, _ => rfl
  | x :: p, y :: a, z :: b, h1, h2 => by
    show (y - x + (z - y)) :: addv (subv a p) (subv b a) = (z - x) :: subv b p
    rw [subv_tel (by simpa using h1) (by simpa using h2)]
    congr 1
    omega
theorem nd_ix {α : Type} {l : List α} (h : l.Nodup) {i j : Nat} {x : α} (hi : l[i]? = some x) (hj : l[j]? = some x) : i = j := by
  have e := List.getElem?_eq_some_iff.mp hi
  have e' := List.getElem?_eq_some_iff.mp hj
  have nd := List.pairwise_iff_getElem.mp (List.nodup_iff_pairwise_ne.mp h)
  rcases Nat.lt_trichotomy i j with hlt | heq | hgt
  · exact absurd (e.2.trans e'.2.symm) (nd i j e.1 e'.1 hlt)
  · exact heq
  · exact absurd (e'.2.trans e.2.symm) (nd j i e'.1 e.1 hgt)
section
variable {f : Fn} {m : Mach} {ps : List (List Int)}
theorem given_len (f : Fn) (x : List Int) : (f.given x).length = f.rows.length := by unfold Fn.given; exact List.length_map ..
theorem at_len {f : Fn} {x : List Int} (h : x.length = f.far.length) : (f.at x).length = f.far.length := by unfold Fn.at atv; rw [List.length_zipWith, h, Nat.min_self]
/-- what tokens lead to, added to a place's own -/
def Led (f : Fn) (m : Mach) (ps : List (List Int)) (p q : List Int) (s : Step) : Prop :=
  (f.never q = true → s = none) ∧ (f.never q = false → ∃ b, ps[b]? = some (f.at q) ∧ s = some (b, subv (f.given q) (f.given p)))
theorem IsM.one (I : IsM f m ps) {a i : Nat} {p : List Int} (hp : ps[a]? = some p) (hi : i < f.ins) : Led f m ps p (addv p (unit f.ins i 1)) (m.st a i) :=
  ⟨I.st0 a p i hp hi, I.st1 a p i hp hi⟩
/-- one after another -/
theorem Led.then (k : FnOk f) {p q v : List Int} {s : Step} {g : Nat → Step} (hq : q.length = f.ins) (hv : v.length = f.ins) (h0 : ∀ a ∈ v, 0 ≤ a) (h : Led f m ps p q s)
    (hg : ∀ b, ps[b]? = some (f.at q) → Led f m ps (f.at q) (addv (f.at q) v) (g b)) : Led f m ps p (addv q v) (s.bind fun r => (g r.1).map (plus r.2)) := by
  have hfl := k.far.1
  have hn := k.n.1
  have sm : Sim f.n q (f.at q) f.far := sim_at (by omega) (by omega)
  have sm2 := sm.add (by omega : v.length = f.far.length) h0
  have hqn : f.never (addv (f.at q) v) = f.never (addv q v) := (never_sim k sm2).symm
  cases e : f.never q with
  | true =>
    refine ⟨fun _ => by rw [h.1 e]; rfl, fun z => ?_⟩
    rw [never_add (by omega) h0 e] at z
    cases z
  | false =>
    obtain ⟨b, hb, hs⟩ := h.2 e
    obtain ⟨g0, g1⟩ := hg b hb
    rw [hqn] at g0 g1
    subst hs
    refine ⟨fun z => ?_, fun z => ?_⟩
    · show (g b).map _ = none
      rw [g0 z]
      rfl
    · obtain ⟨c, hc, hgc⟩ := g1 z
      refine ⟨c, by rw [hc]; exact congrArg some (sm2.at_eq (by omega)).symm, ?_⟩
      show (g b).map _ = _
      rw [hgc]
      show some (c, addv (subv (f.given q) (f.given p)) (subv (f.given (addv (f.at q) v)) (f.given (f.at q)))) = _
      rw [← given_sim k sm (by omega) h0, subv_tel (by rw [given_len, given_len]) (by rw [given_len, given_len])]
theorem Led.zero (I : IsM f m ps) {a : Nat} {p : List Int} (hp : ps[a]? = some p) : Led f m ps p p (some (a, List.replicate m.outs 0)) := by
  obtain ⟨h1, h2, h3, h4⟩ := I.pl p (List.mem_of_getElem? hp)
  refine ⟨fun z => (by rw [h4] at z; cases z), fun _ => ⟨a, by rw [h3]; exact hp, ?_⟩⟩
  rw [subv_self, given_len, I.outs]
theorem IsM.ok (I : IsM f m ps) (k : FnOk f) : MachOk m where
  ins := by rw [I.ins]; have := k.ins.2; omega
  outs := by rw [I.outs]; have := k.outs.2; omega
  pos := by
    have := (List.getElem?_eq_some_iff.mp I.zero).1
    rw [I.len]
    omega
  most := by rw [I.len]; have := I.most; omega
  wide := fun l hl => (I.wide l hl).trans I.ins.symm
  step := fun l hl b g hbg => by
    obtain ⟨a, ha⟩ := List.getElem?_of_mem hl
    obtain ⟨i, hi⟩ := List.getElem?_of_mem hbg
    have hal := (List.getElem?_eq_some_iff.mp ha).1
    have hil := (List.getElem?_eq_some_iff.mp hi).1
    rw [I.wide l hl] at hil
    have hst : m.st a i = some (b, g) := by
      unfold Mach.st
      rw [List.getD_eq_getElem?_getD, List.getD_eq_getElem?_getD, ha, Option.getD_some, hi, Option.getD_some]
    have hp : ps[a]? = some (ps[a]'(by rw [← I.len]; exact hal)) := List.getElem?_eq_getElem _
    obtain ⟨h0, h1⟩ := I.one hp hil
    obtain ⟨hpl, hp0, _, _⟩ := I.pl _ (List.mem_of_getElem? hp)
    cases e : f.never (addv (ps[a]'(by rw [← I.len]; exact hal)) (unit f.ins i 1)) with
    | true => rw [h0 e] at hst; cases hst
    | false =>
      obtain ⟨b', hb', hs⟩ := h1 e
      rw [hst] at hs
      cases hs
      refine ⟨by rw [I.len]; exact (List.getElem?_eq_some_iff.mp hb').1, by rw [subv_len (by rw [given_len, given_len]), given_len, I.outs], fun x hx => ?_⟩
      unfold Fn.given at hx
      rw [subv_map] at hx
      obtain ⟨r, hr, rfl⟩ := List.mem_map.mp hx
      have hs := one_step k hr (x := ps[a]'(by rw [← I.len]; exact hal)) (v := unit f.ins i 1) (by rw [hpl, unit_len]) (unit_nonneg (by decide))
      have hw := k.ws r hr
      have hwi : r.1[i]? = some (r.1[i]'(by rw [hw.1]; exact hil)) := List.getElem?_eq_getElem _
      rw [dot_unit hw.1 hwi] at hs
      have := (hw.2 _ (List.mem_of_getElem? hwi)).2
      omega
theorem IsM.goes (I : IsM f m ps) (k : FnOk f) {i : Nat} (hi : i < f.ins) {a : Nat} {p : List Int} (hp : ps[a]? = some p) : ∀ n : Nat, Led f m ps p (addv p (unit f.ins i n)) (go m i n a)
  | 0 => by
    obtain ⟨h1, _⟩ := I.pl p (List.mem_of_getElem? hp)
    have e : addv p (unit f.ins i ((0 : Nat) : Int)) = p := by
      show addv p (unit f.ins i 0) = p
      rw [unit_zero, addv_zero_r h1]
    rw [e]
    exact Led.zero I hp
  | n + 1 => by
    obtain ⟨h1, _⟩ := I.pl p (List.mem_of_getElem? hp)
    have hal : a < m.steps.length := by rw [I.len]; exact (List.getElem?_eq_some_iff.mp hp).1
    rw [go_succ (I.ok k) hal]
    have e : addv p (unit f.ins i ((n + 1 : Nat) : Int)) = addv (addv p (unit f.ins i (n : Nat))) (unit f.ins i 1) := by
      rw [addv_assoc, unit_add]
      rfl
    rw [e]
    exact (IsM.goes I k hi hp n).then k (by rw [addv_len (by rw [h1, unit_len]), unit_len]) (unit_len ..) (unit_nonneg (by decide)) fun b hb => I.one hb hi
theorem IsM.twos (I : IsM f m ps) (k : FnOk f) {i j : Nat} (hi : i < f.ins) (hj : j < f.ins) {a : Nat} {p : List Int} (hp : ps[a]? = some p) : Led f m ps p (addv (addv p (unit f.ins i 1)) (unit f.ins j 1)) (two m a i j) := by
  obtain ⟨h1, _⟩ := I.pl p (List.mem_of_getElem? hp)
  exact (I.one hp hi).then k (by rw [addv_len (by rw [h1, unit_len]), unit_len]) (unit_len ..) (unit_nonneg (by decide)) fun b hb => I.one hb hj
theorem Led.uniq (I : IsM f m ps) {p q : List Int} {s t : Step} (h : Led f m ps p q s) (h' : Led f m ps p q t) : s = t := by
  cases e : f.never q with
  | true => rw [h.1 e, h'.1 e]
  | false =>
    obtain ⟨b, hb, hs⟩ := h.2 e
    obtain ⟨c, hc, ht⟩ := h'.2 e
    rw [hs, ht, nd_ix I.nd hb hc]
theorem IsM.comm (I : IsM f m ps) (k : FnOk f) : Comm m := fun a i j hca hi hj => by
  have hal := hca.lt (I.ok k)
  rw [I.ins] at hi hj
  have hp : ps[a]? = some (ps[a]'(by rw [← I.len]; exact hal)) := List.getElem?_eq_getElem _
  have h1 := I.twos k hi hj hp
  have h2 := I.twos k hj hi hp
  rw [addv_assoc, addv_comm (unit f.ins j 1), ← addv_assoc] at h2
  exact h1.uniq I h2
/-- counts on the wires from w on -/
def vec (w : Nat) (v : List Nat) : List Int := List.replicate w 0 ++ v.map fun (n : Nat) => (n : Int)
theorem vec_len (w : Nat) (v : List Nat) : (vec w v).length = w + v.length := by simp [vec]
theorem vec_nonneg {w : Nat} {v : List Nat} : ∀ a ∈ vec w v, 0 ≤ a := fun a ha => by
  unfold vec at ha
  rcases List.mem_append.mp ha with h | h
  · rw [(List.mem_replicate.mp h).2]; decide
  · obtain ⟨n, _, rfl⟩ := List.mem_map.mp h
    omega
theorem vec_cons (w n : Nat) (r : List Nat) : vec w (n :: r) = addv (unit (w + (r.length + 1)) w n) (vec (w + 1) r) :=
  ext_n (n := w + (r.length + 1)) (by rw [vec_len]; rfl) (by rw [addv_len (by rw [unit_len, vec_len]; omega), vec_len]; omega) fun j hj => by
    have h2 : (vec (w + 1) r)[j]? = some ((vec (w + 1) r)[j]'(by rw [vec_len]; omega)) := List.getElem?_eq_getElem _
    rw [addv_get (unit_get hj) h2]
    unfold vec at h2 ⊢
    by_cases h : j < w
    · rw [List.getElem?_append_left (by rw [List.length_replicate]; exact h), List.getElem?_replicate, if_pos h]
      rw [List.getElem?_append_left (by rw [List.length_replicate]; omega), List.getElem?_replicate, if_pos (by omega)] at h2
      rw [if_neg (by omega), ← Option.some.inj h2]
      rfl
    · rw [List.getElem?_append_right (by rw [List.length_replicate]; omega), List.length_replicate]
      by_cases h' : w = j
      · subst h'
        rw [List.getElem?_append_left (by rw [List.length_replicate]; omega), List.getElem?_replicate, if_pos (by omega)] at h2
        rw [if_pos rfl, ← Option.some.inj h2, Nat.sub_self, Int.add_zero]
        rfl
      · rw [List.getElem?_append_right (by rw [List.length_replicate]; omega), List.length_replicate] at h2
        rw [if_neg h', Int.zero_add, ← h2, show j - w = (j - (w + 1)) + 1 by omega]
        rfl
theorem IsM.goesV (I : IsM f m ps) (k : FnOk f) : ∀ {v : List Nat} {w a : Nat} {p : List Int}, w + v.length = f.ins → ps[a]? = some p → Led f m ps p (addv p (vec w v)) (goV m w a v)
  | [], w, a, p, hw, hp => by
    obtain ⟨h1, _⟩ := I.pl p (List.mem_of_getElem? hp)
    have e : addv p (vec w []) = p := by
      show addv p (List.replicate w 0 ++ []) = p
      rw [List.append_nil]
      exact addv_zero_r (by rw [h1, ← hw]; rfl)
    rw [e]
    exact Led.zero I hp
  | n :: r, w, a, p, hw, hp => by
    obtain ⟨h1, _⟩ := I.pl p (List.mem_of_getElem? hp)
    have hw' : w + (r.length + 1) = f.ins := hw
    rw [vec_cons, hw', ← addv_assoc]
    refine (I.goes k (show w < f.ins by omega) hp n).then k (by rw [addv_len (by rw [h1, unit_len]), unit_len]) (v := vec (w + 1) r) (by rw [vec_len]; omega) vec_nonneg (g := fun b => goV m (w + 1) b r) fun b hb => ?_
    exact IsM.goesV I k (by omega) hb
end
end Lw

/-! Kh: thresholds, periods, slopes, tokens that rest alone: of a function's machine. -/
namespace Lw
open PySem PySem.Spec PyProof.Rows L2 Dl
def oth (n i : Nat) (c : List Int) : Bool := (List.range n).all fun j => decide (j = i) || decide (c.getD j 0 ≤ 0)
def axis (f : Fn) (i : Nat) : List Int := (f.edges.filter (oth f.ins i)).map fun c => c.getD i 0
theorem leB_iff : ∀ {c x : List Int}, c.length = x.length → (leB c x = true ↔ ∀ (j : Nat) (a b : Int), c[j]? = some a → x[j]? = some b → a ≤ b)
  | [], [], _ => ⟨fun _ j a b h => by simp at h, fun _ => rfl⟩
  | a :: c, b :: x, h => by
    have ih := leB_iff (c := c) (x := x) (by simpa using h)
    have e : leB (a :: c) (b :: x) = (decide (a ≤ b) && leB c x) := rfl
    rw [e, Bool.and_eq_true, decide_eq_true_iff, ih]
    constructor
    · rintro ⟨h1, h2⟩ j u v hu hv
      cases j with
      | zero => cases hu; cases hv; exact h1
      | succ j => exact h2 j u v hu hv
    · intro h
      exact ⟨h 0 a b rfl rfl, fun j u v hu hv => h (j + 1) u v hu hv⟩
theorem getD_of {l : List Int} {i : Nat} {a : Int} (h : l[i]? = some a) : l.getD i 0 = a := by
  rw [List.getD_eq_getElem?_getD, h]
  rfl
theorem le_unit {n i : Nat} {c : List Int} {k : Int} (hc : c.length = n) (hi : i < n) : leB c (unit n i k) = true ↔ oth n i c = true ∧ c.getD i 0 ≤ k := by
  rw [leB_iff (by rw [unit_len]; exact hc)]
  unfold oth
  rw [List.all_eq_true]
  constructor
  · intro h
    refine ⟨fun j hj => ?_, ?_⟩
    · have hj' := List.mem_range.mp hj
      have := h j _ _ (List.getElem?_eq_getElem (by omega)) (unit_get hj')
      by_cases e : j = i
      · rw [decide_eq_true e]; rfl
      · rw [if_neg fun z => e z.symm] at this
        rw [getD_of (List.getElem?_eq_getElem (by omega)), decide_eq_true this, Bool.or_true]
    · have := h i _ _ (List.getElem?_eq_getElem (by omega)) (unit_get hi)
      rw [if_pos rfl] at this
      rw [getD_of (List.getElem?_eq_getElem (by omega))]
      exact this
  · rintro ⟨h1, h2⟩ j a b ha hb
    have hj : j < n := by rw [← hc]; exact (List.getElem?_eq_some_iff.mp ha).1
    rw [unit_get hj] at hb
    have hb' := Option.some.inj hb
    by_cases e : i = j
    · subst e
      rw [if_pos rfl] at hb'
      rw [getD_of ha] at h2
      omega
    · rw [if_neg e] at hb'
      have := h1 j (List.mem_range.mpr hj)
      rw [decide_eq_false (fun z => e z.symm), Bool.false_or, decide_eq_true_iff, getD_of ha] at this
      omega
theorem never_unit {f : Fn} (k : FnOk f) {i : Nat} (hi : i < f.ins) {n : Int} : f.never (unit f.ins i n) = true ↔ ∃ c ∈ axis f i, c ≤ n := by
  unfold Fn.never axis
  rw [List.any_eq_true]
  constructor
  · rintro ⟨c, hc, h⟩
    obtain ⟨h1, h2⟩ := (le_unit (k.ec c hc).1 hi).mp h
    exact ⟨_, List.mem_map.mpr ⟨c, List.mem_filter.mpr ⟨hc, h1⟩, rfl⟩, h2⟩
  · rintro ⟨d, hd, h⟩
    obtain ⟨c, hc, rfl⟩ := List.mem_map.mp hd
    obtain ⟨hc1, hc2⟩ := List.mem_filter.mp hc
    exact ⟨c, hc1, (le_unit (k.ec c hc1).1 hi).mpr ⟨hc2, h⟩⟩
/-- a corner on the axis lies at 1 at least, at the threshold at most -/
theorem axis_at {f : Fn} (k : FnOk f) {i : Nat} (hi : i < f.ins) {c : Int} (h : c ∈ axis f i) : 0 < c ∧ c ≤ f.far.getD i 0 := by
  unfold axis at h
  obtain ⟨e, he, rfl⟩ := List.mem_map.mp h
  obtain ⟨he1, he2⟩ := List.mem_filter.mp he
  obtain ⟨h1, h2, ⟨x, hx, hx0⟩, h4⟩ := k.ec e he1
  have hfl := k.far.1
  constructor
  · obtain ⟨j, hj⟩ := List.getElem?_of_mem hx
    have hjl := (List.getElem?_eq_some_iff.mp hj).1
    unfold oth at he2
    have := List.all_eq_true.mp he2 j (List.mem_range.mpr (by omega))
    by_cases e' : j = i
    · subst e'
      rw [getD_of hj]
      exact hx0
    · rw [decide_eq_false e', Bool.false_or, decide_eq_true_iff, getD_of hj] at this
      omega
  · have := (leB_iff (by omega)).mp h4 i _ _ (List.getElem?_eq_getElem (by omega)) (List.getElem?_eq_getElem (by omega))
    rw [getD_of (List.getElem?_eq_getElem (by omega)), getD_of (List.getElem?_eq_getElem (by omega))]
    exact this
theorem unit_inj {n i : Nat} {a b : Int} (hi : i < n) (h : unit n i a = unit n i b) : a = b := by
  have e1 := unit_get (i := i) (k := a) hi
  rw [h, unit_get hi, if_pos rfl, if_pos rfl] at e1
  exact (Option.some.inj e1).symm
theorem at_unit {f : Fn} (k : FnOk f) {i : Nat} (hi : i < f.ins) (n : Int) : f.at (unit f.ins i n) = unit f.ins i (if n < f.far.getD i 0 + f.n then n else f.far.getD i 0 + (n - f.far.getD i 0) % f.n) := by
  have hfl := k.far.1
  have hn := k.n.1
  refine ext_n (n := f.ins) (by rw [at_len (by rw [unit_len]; omega)]; omega) (unit_len ..) fun j hj => ?_
  have ht : f.far[j]? = some (f.far[j]'(by omega)) := List.getElem?_eq_getElem _
  have h0 := (k.far.2 _ (List.mem_of_getElem? ht)).1
  unfold Fn.at atv
  rw [List.getElem?_zipWith, unit_get hj, ht, unit_get hj]
  show some _ = some _
  congr 1
  by_cases e : i = j
  · subst e
    rw [if_pos rfl, if_pos rfl, getD_of ht]
  · rw [if_neg e, if_neg e, if_pos (by omega)]
section
variable {f : Fn} {m : Mach} {ps : List (List Int)} {i : Nat} {ms : List Nat} {gs : List (List Int)} {t : Option Nat}
/-- from no tokens on -/
theorem IsM.goes0 (I : IsM f m ps) (k : FnOk f) (hi : i < f.ins) (n : Nat) : Led f m ps (List.replicate f.ins 0) (unit f.ins i n) (go m i n 0) := by
  have := I.goes k hi I.zero n
  rwa [addv_zero (unit_len ..)] at this
theorem Line.alone (L : Line m 0 i ms gs t) (I : IsM f m ps) (k : FnOk f) (hi : i < f.ins) {c : Int} (hc : c ∈ axis f i) (hm : ∀ y ∈ axis f i, c ≤ y) : t = none ∧ (ms.length : Int) = c := by
  obtain ⟨hc0, hcf⟩ := axis_at k hi hc
  have hn := k.n.1
  have nev : ∀ n : Nat, f.never (unit f.ins i n) = true ↔ c ≤ n := fun n => by
    rw [never_unit k hi]
    exact ⟨fun ⟨y, hy, h⟩ => by have := hm y hy; omega, fun h => ⟨c, hc, h⟩⟩
  have low : ∀ n : Nat, n < ms.length → (n : Int) < c := fun n hn => by
    obtain ⟨b, g, h1, h2, h3⟩ := L.get hn
    have hl := I.goes0 k hi n
    rcases Int.lt_or_le (n : Int) c with h | h
    · exact h
    · rw [hl.1 ((nev n).mpr h)] at h3
      cases h3
  have hp := L.pos
  have htn : t = none := by
    cases t with
    | none => rfl
    | some j =>
      exfalso
      obtain ⟨hj, b, g, h1, h2⟩ := L.some_ j rfl
      have hl := I.goes0 k hi ms.length
      have hnv : f.never (unit f.ins i (ms.length : Nat)) = false := by
        cases e : f.never (unit f.ins i (ms.length : Nat)) with
        | false => rfl
        | true => rw [hl.1 e] at h2; cases h2
      obtain ⟨b', hb', hs⟩ := hl.2 hnv
      rw [h2] at hs
      cases hs
      have hlc : (ms.length : Int) < c := by
        rcases Int.lt_or_le (ms.length : Int) c with h | h
        · exact h
        · rw [(nev _).mpr h] at hnv; cases hnv
      obtain ⟨b2, g2, h4, h5, h6⟩ := L.get hj
      rw [h1] at h4
      cases h4
      have hl2 := I.goes0 k hi j
      have hnv2 : f.never (unit f.ins i (j : Nat)) = false := by
        cases e : f.never (unit f.ins i (j : Nat)) with
        | false => rfl
        | true => rw [hl2.1 e] at h6; cases h6
      obtain ⟨b3, hb3, hs3⟩ := hl2.2 hnv2
      rw [h6] at hs3
      cases hs3
      rw [hb'] at hb3
      have e := Option.some.inj hb3
      rw [at_unit k hi, at_unit k hi, if_pos (by omega), if_pos (by omega)] at e
      have := unit_inj hi e
      omega
  refine ⟨htn, ?_⟩
  subst htn
  have h1 := L.none_ rfl
  have hl := I.goes0 k hi ms.length
  have h2 : c ≤ (ms.length : Int) := by
    rcases Int.lt_or_le (ms.length : Int) c with h | h
    · have hnv : f.never (unit f.ins i (ms.length : Nat)) = false := by
        cases e : f.never (unit f.ins i (ms.length : Nat)) with
        | false => rfl
        | true => have := (nev _).mp e; omega
      obtain ⟨b', _, hs⟩ := hl.2 hnv
      rw [h1] at hs
      cases hs
    · exact h
  have h3 := low (ms.length - 1) (by omega)
  omega
theorem Line.slope (L : Line m 0 i ms gs t) (I : IsM f m ps) (k : FnOk f) (hi : i < f.ins) (hax : axis f i = []) :
    ∃ j : Nat, t = some j ∧ (j : Int) = f.far.getD i 0 ∧ ((ms.length - j : Nat) : Int) = f.n ∧ j < ms.length ∧
      ∀ b g0 g1, gs[j]? = some g0 → go m i ms.length 0 = some (b, g1) → subv g1 g0 = f.rows.map fun r => r.1.getD i 0 := by
  have hn := k.n.1
  have hfl := k.far.1
  have ht : f.far[i]? = some (f.far[i]'(by omega)) := List.getElem?_eq_getElem _
  have hf0 := (k.far.2 _ (List.mem_of_getElem? ht)).1
  have ed := getD_of ht
  have nev : ∀ n : Nat, f.never (unit f.ins i n) = false := fun n => by
    cases e : f.never (unit f.ins i n) with
    | false => rfl
    | true =>
      obtain ⟨y, hy, _⟩ := (never_unit k hi).mp e
      rw [hax] at hy
      cases hy
  have led : ∀ n : Nat, ∃ b, ps[b]? = some (f.at (unit f.ins i n)) ∧ go m i n 0 = some (b, subv (f.given (unit f.ins i n)) (f.given (List.replicate f.ins 0))) := fun n => (I.goes0 k hi n).2 (nev n)
  -- two counts below the length stand at two modes
  have inj : ∀ n n' : Nat, n < ms.length → n' < ms.length → f.at (unit f.ins i n) = f.at (unit f.ins i n') → n = n' := fun n n' h h' e => by
    obtain ⟨b, g, h1, h2, h3⟩ := L.get h
    obtain ⟨b', g', h1', h2', h3'⟩ := L.get h'
    obtain ⟨c, hc, hs⟩ := led n
    obtain ⟨c', hc', hs'⟩ := led n'
    rw [h3] at hs
    rw [h3'] at hs'
    cases hs
    cases hs'
    rw [e, ← hc'] at hc
    have hbb : b = b' := by
      have hb := (List.getElem?_eq_some_iff.mp (hc.trans hc')).1
      exact nd_ix I.nd (hc.trans hc') hc'
    subst hbb
    exact nd_ix L.nd h1 h1'
  cases t with
  | none =>
    obtain ⟨b, _, h⟩ := led ms.length
    rw [L.none_ rfl] at h
    cases h
  | some j =>
    obtain ⟨hj, b, g1, hb, hgo⟩ := L.some_ j rfl
    -- the length's mode is the mode at j
    have same : f.at (unit f.ins i (ms.length : Nat)) = f.at (unit f.ins i (j : Nat)) := by
      obtain ⟨c, hc, hs⟩ := led ms.length
      rw [hgo] at hs
      cases hs
      obtain ⟨b2, g2, h1, h2, h3⟩ := L.get hj
      rw [hb] at h1
      cases h1
      obtain ⟨c', hc', hs'⟩ := led j
      rw [h3] at hs'
      cases hs'
      rw [hc] at hc'
      exact Option.some.inj hc'
    obtain ⟨T, hT⟩ : ∃ T : Nat, (T : Int) = f.far.getD i 0 := ⟨(f.far.getD i 0).toNat, by omega⟩
    obtain ⟨N, hN⟩ : ∃ N : Nat, (N : Int) = f.n := ⟨f.n.toNat, by omega⟩
    have hlow : ¬ ms.length < T + N := fun h => by
      rw [at_unit k hi, at_unit k hi, if_pos (by omega), if_pos (by omega)] at same
      have := unit_inj hi same
      omega
    have atT : f.at (unit f.ins i ((T + N : Nat) : Int)) = unit f.ins i T := by
      rw [at_unit k hi, if_neg (by omega), show ((T + N : Nat) : Int) - f.far.getD i 0 = f.n by omega, Int.emod_self, Int.add_zero, hT]
    have atT0 : f.at (unit f.ins i (T : Int)) = unit f.ins i T := by
      rw [at_unit k hi, if_pos (by omega)]
    have hhigh : ¬ T + N < ms.length := fun h => by
      have := inj (T + N) T h (by omega) (atT.trans atT0.symm)
      omega
    have hlen : ms.length = T + N := by omega
    have hjT : j = T := by
      rw [hlen] at same
      exact inj j T hj (by omega) (same.symm.trans (atT.trans atT0.symm))
    refine ⟨j, rfl, by omega, by omega, hj, fun b' g0 g1' hg0 hgo' => ?_⟩
    rw [hgo] at hgo'
    cases hgo'
    obtain ⟨b2, g2, h1, h2, h3⟩ := L.get hj
    rw [hg0] at h2
    cases h2
    obtain ⟨c, hc, hs⟩ := led ms.length
    obtain ⟨c', hc', hs'⟩ := led j
    rw [hgo] at hs
    rw [h3] at hs'
    cases hs
    cases hs'
    unfold Fn.given
    rw [subv_map, subv_map, subv_map]
    refine List.map_congr_left fun r hr => ?_
    have hw := k.ws r hr
    have hwi : r.1[i]? = some (r.1[i]'(by rw [hw.1]; exact hi)) := List.getElem?_eq_getElem _
    have hsim : Sim f.n (unit f.ins i (j : Nat)) (unit f.ins i (ms.length : Nat)) f.far := by
      have key : ∀ (xs ys ts : List Int), xs.length = ts.length → ys.length = ts.length → (∀ (u : Nat) (x y t : Int), xs[u]? = some x → ys[u]? = some y → ts[u]? = some t → (x = y ∨ (t ≤ x ∧ t ≤ y ∧ ∃ q, y = x + f.n * q))) → Sim f.n xs ys ts := by
        intro xs
        induction xs with
        | nil =>
          intro ys ts h1 h2 _
          cases ts with
          | nil => cases ys with
            | nil => exact .nil
            | cons _ _ => simp at h2
          | cons _ _ => simp at h1
        | cons x xs ih =>
          intro ys ts h1 h2 h
          cases ts with
          | nil => simp at h1
          | cons t ts =>
            cases ys with
            | nil => simp at h2
            | cons y ys => exact .cons (h 0 x y t rfl rfl rfl) (ih ys ts (by simpa using h1) (by simpa using h2) fun u => h (u + 1))
      refine key _ _ _ (by rw [unit_len]; omega) (by rw [unit_len]; omega) fun u x y t hx hy htt => ?_
      have hu : u < f.ins := by have := (List.getElem?_eq_some_iff.mp hx).1; rwa [unit_len] at this
      rw [unit_get hu] at hx hy
      by_cases e : i = u
      · subst e
        rw [if_pos rfl] at hx hy
        have hx' := Option.some.inj hx
        have hy' := Option.some.inj hy
        rw [ht] at htt
        have ht' := Option.some.inj htt
        refine .inr ⟨by omega, by omega, 1, by omega⟩
      · rw [if_neg e] at hx hy
        exact .inl (Option.some.inj (hx.symm.trans hy))
    unfold Fn.one
    rw [hsim.bsum r.2.2 k.ff, dot_unit hw.1 hwi, dot_unit hw.1 hwi, dot_zero, getD_of hwi]
    have e2 : r.1[i]'(by rw [hw.1]; exact hi) * ((ms.length : Nat) : Int) + r.2.1 = r.1[i]'(by rw [hw.1]; exact hi) * ((j : Nat) : Int) + r.2.1 + f.n * r.1[i]'(by rw [hw.1]; exact hi) := by
      rw [show ((ms.length : Nat) : Int) = (j : Int) + f.n by omega, Int.mul_add, Int.mul_comm f.n]
      omega
    rw [e2, Int.add_mul_ediv_left _ _ (by omega)]
    omega
end
end Lw

/-! Dj: comprehensions over mapped lists, slices, lists that are empty. -/
namespace Dl
open PySem L2
section
variable {K : Fg} {Γ : Ga} {δ : List Sl} {P : Vl → Prop} {te : TE} {t : TT} {g : TG} {vs : List Nat} {ti : TI} {E : DE}
/-- [e for x in xs if t], xs the items of l as hh tells them -/
theorem ev_lcFm {α : Type} (l : List α) (hh : α → D) (f : α → Option D) (hv : NoA vs δ) (h : EvI K Γ δ ti fun xs => xs = l.map hh ∧ l.length ≤ 100000 ∧
      (∀ (i : Nat) (a : α), l[i]? = some a → GDv K Γ vs (wipeD δ vs) g (hh a) fun δ2 => EvT K Γ δ2 t fun b => if b = true then Ev K Γ δ2 te fun z => ∃ y, z = .d y ∧ f a = some y else f a = none) ∧ ∀ p, P (.own p (l.filterMap f))) : Ev K Γ δ (tLc ti g t te vs) P :=
  ev_lc hv (fun σ H G R Q q => h σ H G R Q fun J H' G' xs R' fr w ⟨he, hl, hs, hp⟩ => q J H' G' xs R' fr w ⟨fun i acc => acc = (l.take i).filterMap f, by rw [he, List.length_map]; exact hl, by simp, fun i x acc hx hacc => by
    subst hacc
    rw [he, List.getElem?_map] at hx
    cases ha : l[i]? with
    | none => rw [ha] at hx; cases hx
    | some a =>
      rw [ha] at hx
      obtain rfl : hh a = x := Option.some.inj hx
      have et : l.take (i + 1) = l.take i ++ [a] := by
        rw [List.take_add_one, ha]
        rfl
      intro v σ H G R r Q q
      refine hs i a ha v σ H G R r Q fun σ' δ' R1 hl ho hod hn p => q σ' δ' R1 hl ho hod hn (p.imp fun b hb => ?_)
      cases b with
      | true =>
        rw [if_pos rfl] at hb ⊢
        refine hb.imp fun z ⟨y, hz, hf⟩ => ⟨y, hz, ?_⟩
        show (l.take i).filterMap f ++ [y] = (l.take (i + 1)).filterMap f
        rw [et, List.filterMap_append]
        simp [hf]
      | false =>
        rw [if_neg Bool.false_ne_true] at hb ⊢
        show (l.take i).filterMap f = (l.take (i + 1)).filterMap f
        rw [et, List.filterMap_append]
        simp [hb], fun acc hacc p => by
      subst hacc
      rw [he, List.length_map, List.take_length]
      exact hp p⟩)
/-- [e for x in xs], xs the items of l as hh tells them -/
theorem ev_lcMm {α : Type} (l : List α) (hh : α → D) (f : α → D) (hv : NoA vs δ) (h : EvI K Γ δ ti fun xs => xs = l.map hh ∧ l.length ≤ 100000 ∧
      (∀ (i : Nat) (a : α), l[i]? = some a → GDv K Γ vs (wipeD δ vs) g (hh a) fun δ2 => Ev K Γ δ2 te fun z => z = .d (f a)) ∧ ∀ p, P (.own p (l.map f))) : Ev K Γ δ (tLc ti g tYes te vs) P :=
  ev_lcM hv (fun σ H G R Q q => h σ H G R Q fun J H' G' xs R' fr w ⟨he, hl, hs, hp⟩ => q J H' G' xs R' fr w ⟨by rw [he, List.length_map]; exact hl, l.map f, by rw [he, List.length_map, List.length_map], fun i x y hx hy => by
    rw [he, List.getElem?_map] at hx
    rw [List.getElem?_map] at hy
    cases ha : l[i]? with
    | none => rw [ha] at hx; cases hx
    | some a =>
      rw [ha] at hx hy
      obtain rfl : hh a = x := Option.some.inj hx
      obtain rfl : f a = y := Option.some.inj hy
      exact hs i a ha, hp⟩)
/-- a new list, taken as a datum at once -/
theorem sd_asgF {i : Nat} (h : Ev K Γ δ te fun x => ∃ p ys, x = .own p ys ∧ E.nx (δ.set i (.d (.list ys)))) : SD K Γ δ (tAsg te (gName i)) E :=
  sd_asg (ev_frz (h.imp fun x ⟨p, ys, e, q⟩ => ⟨p, ys, e, _, rfl, q⟩))
theorem zipD_map {α β : Type} (f : α → D) (g : β → D) : ∀ (a : List α) (b : List β), zipD (a.map f) (b.map g) = (a.zip b).map fun p => .tuple [f p.1, g p.2]
  | [], _ => rfl
  | _ :: _, [] => rfl
  | x :: a, y :: b => congrArg (_ :: ·) (zipD_map f g a b)
theorem eqv_isNil (ys : List D) : PyData.eqv (.list ys) (.list []) = ys.isEmpty := by
  rw [PyData.eqv]
  cases ys with
  | nil => rw [PyData.eqvAll]; rfl
  | cons y ys => rw [PyData.eqvAll]; rfl
theorem shp_nil : Shp 1 (.list []) := shp_lst fun _ h => by cases h
/-- xs == [], xs != [] -/
theorem od_eqN {x y : Vl} {ys : List D} (hx : x.lst = some ys) (hy : y.lst = some []) (hs : ∀ d ∈ ys, Shp 60 d) (h : P (.d (.bool ys.isEmpty))) : OpD K (rEqU K) x y P := by
  have e : ∀ {x : Vl} {ys : List D}, x.lst = some ys → x.dat = some (.list ys) := fun {x ys} h => by
    cases x with
    | d d => cases d with
      | list _ => cases h; rfl
      | _ => cases h
    | vw _ _ => cases h; rfl
    | own _ _ => cases h; rfl
    | _ => cases h
  refine od_eqD (e hx) (e hy) ((shp_lst hs).ok (by decide)) (shp_nil.ok (by decide)) ?_
  rw [eqv_isNil]
  exact h
theorem od_neN {x y : Vl} {ys : List D} (hx : x.lst = some ys) (hy : y.lst = some []) (hs : ∀ d ∈ ys, Shp 60 d) (h : P (.d (.bool (!ys.isEmpty)))) : OpD K (rNeU K) x y P := by
  have e : ∀ {x : Vl} {ys : List D}, x.lst = some ys → x.dat = some (.list ys) := fun {x ys} h => by
    cases x with
    | d d => cases d with
      | list _ => cases h; rfl
      | _ => cases h
    | vw _ _ => cases h; rfl
    | own _ _ => cases h; rfl
    | _ => cases h
  refine od_neD (e hx) (e hy) ((shp_lst hs).ok (by decide)) (shp_nil.ok (by decide)) ?_
  rw [eqv_isNil]
  exact h
theorem cut_lo (xs : List D) (i : Nat) : cutD xs none (some (i : Int)) = xs.take i := by
  unfold cutD
  rw [show HT.sIx xs.length xs.length (some (i : Int)) = min i xs.length from HT.sIx_nat xs.length xs.length i, HT.sIx_none, List.drop_zero, Nat.sub_zero]
  by_cases h : i ≤ xs.length
  · rw [Nat.min_eq_left h]
  · rw [Nat.min_eq_right (by omega), List.take_length, List.take_of_length_le (by omega)]
theorem cut_hi (xs : List D) (i : Nat) : cutD xs (some (i : Int)) none = xs.drop i := by
  unfold cutD
  rw [show HT.sIx xs.length 0 (some (i : Int)) = min i xs.length from HT.sIx_nat xs.length 0 i, HT.sIx_none]
  by_cases h : i ≤ xs.length
  · rw [Nat.min_eq_left h, List.take_of_length_le (by rw [List.length_drop]; omega)]
  · rw [Nat.min_eq_right (by omega), List.drop_length, List.drop_of_length_le (by omega), List.take_nil]
end
end Dl

namespace Lw
open PySem PySem.Spec PyProof.Rows L2 Dl
/-! k13's own defs: the functions, what each def keeps -/
def fnD (f : Fn) : D := .tuple [.int f.ins, .int f.rows.length, .int f.n, .list (f.rows.map fun r => lI r.1), lI (f.rows.map fun r => r.2.1), lI f.firsts, .list (f.rows.map fun r => lI r.2.2), .list (f.edges.map tI), lI f.far]
def F__law_is_never : FS := fun xs P => ∃ (f : Fn) (x : List Int), xs = [.d (fnD f), .d (tI x)] ∧ FnOk f ∧ x.length = f.ins ∧ P (.bool (f.never x))
abbrev N__law_is_never : List Str := ["function", "x", "corner", "c", "many"]
def t__law_is_never (K : Fg) : TS := (tRet (tOp (rNeU K) (tLc (iSeqU K (tOp (rIxU K) (tVar 0) (tC (.int 7)))) (gName 2) (tTest (tOp (rEqU K) (tLc (iZipK K false (tCons (tVar 2) (tCons (tVar 1) tNil))) (gTup K 2 (gCons (gName 3) (gCons (gName 4) gNil))) (tTest (tOp (rI0 fun i j => .bl (decide (i < j))) (tVar 4) (tVar 3))) (tC (.int 1)) [3, 4]) (tLst tNil))) (tC (.int 1)) [2]) (tLst tNil)))
def F__law_given : FS := fun xs P => ∃ (f : Fn) (x : List Int), xs = [.d (fnD f), .d (tI x)] ∧ FnOk f ∧ x.length = f.ins ∧ P (tI (f.given x))
abbrev N__law_given : List Str := ["function", "x", "ins", "outs", "n", "weights", "starts", "firsts", "bumps", "edges", "far", "found", "out", "whole", "i", "some"]
def t__law_given (K : Fg) : TS := (tSeq (tAsg (tVar 0) (gTup K 9 (gCons (gName 2) (gCons (gName 3) (gCons (gName 4) (gCons (gName 5) (gCons (gName 6) (gCons (gName 7) (gCons (gName 8) (gCons (gName 9) (gCons (gName 10) gNil)))))))))))
    (tSeq (tAsg (tLst tNil) (gName 11))
    (tSeq (tFor (iRng1 (tCons (tVar 3) tNil)) (gName 12) (tSeq (tAsg (tOp (rI CDivW fun i j => .int (i / j)) (tOp (rAddU K) (tCB (rSum K) (tCons (tLc (iRng1 (tCons (tVar 2) tNil)) (gName 14) tYes (tOp (rMulU K) (tOp (rIxU K) (tOp (rIxU K) (tVar 5) (tVar 12)) (tVar 14)) (tOp (rIxU K) (tVar 1) (tVar 14))) [14]) tNil)) (tOp (rIxU K) (tVar 6) (tVar 12))) (tVar 4)) (gName 13))
    (tSeq (tAsg (tLc (iRng1 (tCons (tVar 2) tNil)) (gName 14) (tAnd (tTest (tOp (rI0 fun i j => .bl (decide (i > j))) (tOp (rIxU K) (tVar 7) (tVar 14)) (tC (.int 0)))) (tTest (tOp (rI0 fun i j => .bl (decide (i ≥ j))) (tOp (rIxU K) (tVar 1) (tVar 14)) (tOp (rIxU K) (tVar 7) (tVar 14))))) (tOp (rIxU K) (tOp (rIxU K) (tVar 8) (tVar 12)) (tVar 14)) [14]) (gName 15))
    (tDrop (tBM K "list" rAppend (tVar 11) (tCons (tOp (rAddU K) (tVar 13) (tCB (rSum K) (tCons (tVar 15) tNil))) tNil))))))
    (tRet (tCB (rTup1 K) (tCons (tVar 11) tNil))))))
def F__law_at : FS := fun xs P => ∃ (f : Fn) (x : List Int), xs = [.d (fnD f), .d (tI x)] ∧ FnOk f ∧ x.length = f.ins ∧ P (tI (f.at x))
abbrev N__law_at : List Str := ["function", "x", "n", "far", "many", "t"]
def t__law_at (K : Fg) : TS := (tSeq (tAsg (tTup (tCons (tOp (rIxU K) (tVar 0) (tC (.int 2))) (tCons (tOp (rIxU K) (tVar 0) (tC (.int 8))) tNil))) (gTup K 2 (gCons (gName 2) (gCons (gName 3) gNil))))
    (tRet (tCB (rTup1 K) (tCons (tLc (iZipK K false (tCons (tVar 1) (tCons (tVar 3) tNil))) (gTup K 2 (gCons (gName 4) (gCons (gName 5) gNil))) tYes (tIf (tTest (tOp (rI0 fun i j => .bl (decide (i < j))) (tVar 4) (tOp (rAddU K) (tVar 5) (tVar 2)))) (tVar 4) (tOp (rAddU K) (tVar 5) (tOp (rI (fun _ j => 0 < j) fun i j => .int (i % j)) (tCB rInt1 (tCons (tOp (rI0 fun i j => .int (i - j)) (tVar 4) (tVar 5)) tNil)) (tVar 2)))) [4, 5]) tNil))))
def F__law_one_more : FS := fun xs P => ∃ (x : List Int) (i : Nat), xs = [.d (tI x), .d (.int i)] ∧ i < x.length ∧ x.length ≤ 1000 ∧ P (tI (addv x (unit x.length i 1)))
abbrev N__law_one_more : List Str := ["x", "i"]
def t__law_one_more (K : Fg) : TS := (tRet (tOp (rAddU K) (tOp (rAddU K) (tSl (rSlU K) (tVar 0) tNoPart (tPart (tVar 1))) (tTup (tCons (tOp (rAddU K) (tOp (rIxU K) (tVar 0) (tVar 1)) (tC (.int 1))) tNil))) (tSl (rSlU K) (tVar 0) (tPart (tOp (rAddU K) (tVar 1) (tC (.int 1)))) tNoPart)))
theorem leB_zip : ∀ {c x : List Int}, c.length = x.length → (leB c x = true ↔ (c.zip x).filterMap (fun p : Int × Int => if p.2 < p.1 then some (PyData.int 1) else none) = [])
  | [], [], _ => ⟨fun _ => rfl, fun _ => rfl⟩
  | a :: c, b :: x, h => by
    have ih := leB_zip (c := c) (x := x) (by simpa using h)
    have e : leB (a :: c) (b :: x) = (decide (a ≤ b) && leB c x) := rfl
    rw [e, Bool.and_eq_true, decide_eq_true_iff, ih, List.zip_cons_cons, List.filterMap_cons]
    by_cases hab : b < a
    · have : ¬ a ≤ b := by omega
      simp [hab, this]
    · have : a ≤ b := by omega
      simp [hab, this]
section
variable {K : Fg} {Γ : Ga} {xs : List Vl} {P : D → Prop} {δ : List Sl}
theorem d__law_is_never (ha : argOk xs = true) (h : F__law_is_never xs P) : SD K Γ (slots N__law_is_never xs) (t__law_is_never K) { nx := fun δ' => P .none ∧ Kept xs δ', rt := fun d δ' => P d ∧ Kept xs δ' } := by
  obtain ⟨f, x, rfl, k, hx, hP⟩ := h
  show SD K Γ [.d (fnD f), .d (tI x), .un, .un, .un] _ _
  unfold t__law_is_never fnD
  have hes := k.es
  repeat' (first|(with_reducible first|refine sd_ret ?_|refine ev_op ?_)|simp only [List.set_cons_zero, List.set_cons_succ, Bool.not_true, Bool.not_false])
  refine ev_lcFm f.edges tI (fun c => if leB c x then some (.int 1) else none) (noA1 rfl rfl) (ei_Ul ?_)
  repeat' (first|(with_reducible first|refine ev_op ?_|refine ev_ci ?_|refine post_l ?_)|((with_reducible apply ev_v);exact rfl)|((with_reducible apply od_ixt);exact rfl)|simp only [List.set_cons_zero, List.set_cons_succ, Bool.not_true, Bool.not_false])
  refine ⟨by trivial, by omega, fun i c hc => ?_, fun p => ?_⟩
  · have hcl := (k.ec c (List.mem_of_getElem? hc)).1
    repeat' (first|(with_reducible first|refine et_test ?_|refine ev_op ?_)|((with_reducible apply gv_name);exact (by simp)))
    refine ev_lcFm (c.zip x) (fun p => .tuple [.int p.1, .int p.2]) (fun p : Int × Int => if p.2 < p.1 then some (PyData.int 1) else none) (noA2 rfl rfl rfl rfl) (ei_zipK ?_)
    repeat' (first|(with_reducible first|refine ea_cons ?_|refine ea_nil ?_)|((with_reducible apply ev_v);exact rfl))
    refine ⟨_, _, _, _, _, _, rfl, rfl, rfl, (fun z => by cases z), zipD_map _ _ _ _, by have := k.ins.2; rw [List.length_zip]; omega, fun j q hq => ?_, fun p => ?_⟩
    · repeat' (first|(with_reducible first|refine et_test ?_|refine ev_op ?_|refine gvs_cons ?_|refine gvs_nil ?_|refine od_I0b ?_|refine post_b ?_)|((with_reducible apply ev_v);exact rfl)|((with_reducible apply gv_tup);exact rfl)|((with_reducible apply gv_name);exact (by simp)))
      refine ifB (fun h1 => ?_) (fun h1 => ?_)
      · repeat' (first|(with_reducible first|refine ev_ci ?_|refine post_d ?_))
        rw [if_pos (of_decide_eq_true h1)]
      · rw [if_neg (of_decide_eq_false h1)]
    · repeat' (first|(with_reducible first|refine ev_lst ?_|refine ea_nil ?_)|((with_reducible apply post_all);exact rfl;exact Nat.le_of_ble_eq_true rfl)|(with_reducible first|intro _))
      refine od_eqN rfl rfl (fun d hd => ?_) ?_
      · obtain ⟨q, _, hq⟩ := List.mem_filterMap.mp hd
        split at hq
        · cases hq; exact shp_int 60 1
        · cases hq
      · have e : ((c.zip x).filterMap (fun p : Int × Int => if p.2 < p.1 then some (PyData.int 1) else none)).isEmpty = leB c x := by
          rw [Bool.eq_iff_iff, List.isEmpty_iff, leB_zip (by omega)]
        rw [e]
        repeat' (first|(with_reducible first|refine post_b ?_))
        refine ifB (fun h1 => ?_) (fun h1 => ?_)
        · repeat' (first|(with_reducible first|refine ev_ci ?_|refine post_d ?_))
          rw [if_pos h1]
        · rw [h1]
          rfl
  · repeat' (first|(with_reducible first|refine ev_lst ?_|refine ea_nil ?_)|((with_reducible apply post_all);exact rfl;exact Nat.le_of_ble_eq_true rfl)|(with_reducible first|intro _))
    refine od_neN rfl rfl (fun d hd => ?_) ?_
    · obtain ⟨q, _, hq⟩ := List.mem_filterMap.mp hd
      split at hq
      · cases hq; exact shp_int 60 1
      · cases hq
    · repeat' (first|(with_reducible first|refine post_d ?_)|((with_reducible apply ret_ok);exact rfl))
      have e : (!(f.edges.filterMap (fun c => if leB c x then some (PyData.int 1) else none)).isEmpty) = f.never x := by
        unfold Fn.never
        induction f.edges with
        | nil => rfl
        | cons c l ih =>
          rw [List.filterMap_cons, List.any_cons, ← ih]
          cases leB c x <;> simp
      rw [e]
      exact hP
theorem d__law_at (ha : argOk xs = true) (h : F__law_at xs P) : SD K Γ (slots N__law_at xs) (t__law_at K) { nx := fun δ' => P .none ∧ Kept xs δ', rt := fun d δ' => P d ∧ Kept xs δ' } := by
  obtain ⟨f, x, rfl, k, hx, hP⟩ := h
  show SD K Γ [.d (fnD f), .d (tI x), .un, .un, .un, .un] _ _
  unfold t__law_at fnD
  have hfl := k.far.1
  have hn := k.n
  repeat' (first|(with_reducible first|refine sd_seq ?_|refine sd_ret ?_|refine sd_asgG ?_|refine ev_op ?_|refine ev_tup ?_|refine ev_cb1 ?_|refine ea_cons ?_|refine ea_nil ?_|refine ev_ci ?_|refine gd_name ?_|refine gds_cons ?_|refine gds_nil ?_|refine post_d ?_)|((with_reducible apply ev_v);exact rfl)|((with_reducible apply gd_tup);exact rfl)|((with_reducible apply od_ixt);exact rfl)|((with_reducible apply post_all);exact rfl;exact Nat.le_of_ble_eq_true rfl)|simp only [List.set_cons_zero, List.set_cons_succ, Bool.not_true, Bool.not_false])
  refine ev_lcMm (x.zip f.far) (fun p => .tuple [.int p.1, .int p.2]) (fun p : Int × Int => .int (if p.1 < p.2 + f.n then p.1 else p.2 + (p.1 - p.2) % f.n)) (noA2 rfl rfl rfl rfl) (ei_zipK ?_)
  repeat' (first|(with_reducible first|refine ea_cons ?_|refine ea_nil ?_)|((with_reducible apply ev_v);exact rfl))
  refine ⟨_, _, _, _, _, _, rfl, rfl, rfl, (fun z => by cases z), zipD_map _ _ _ _, by have := k.ins.2; rw [List.length_zip]; omega, fun j q hq => ?_, fun p => ?_⟩
  · repeat' (first|(with_reducible first|refine ev_if ?_|refine et_test ?_|refine ev_op ?_|refine gvs_cons ?_|refine gvs_nil ?_|refine od_addi ?_|refine od_I0b ?_|refine post_b ?_)|((with_reducible apply ev_v);exact rfl)|((with_reducible apply gv_tup);exact rfl)|((with_reducible apply gv_name);exact (by simp)))
    refine ifB (fun h1 => ?_) (fun h1 => ?_)
    · repeat' (first|((with_reducible apply ev_v);exact rfl))
      rw [if_pos (of_decide_eq_true h1)]
    · repeat' (first|(with_reducible first|refine ev_op ?_|refine ev_cb1 ?_|refine ea_cons ?_|refine ea_nil ?_|refine od_I0i ?_|refine cd_inti ?_)|((with_reducible apply ev_v);exact rfl))
      refine od_Ii (C := fun _ j => 0 < j) (g := fun i j => i % j) (by omega) ?_
      repeat' (first|(with_reducible first|refine od_addi ?_))
      rw [if_neg (of_decide_eq_false h1)]
  · repeat' (first|(with_reducible first|refine ea_nil ?_|refine post_d ?_)|((with_reducible apply cd_tupl);exact rfl)|((with_reducible apply ret_ok);exact rfl))
    have e : (x.zip f.far).map (fun p : Int × Int => PyData.int (if p.1 < p.2 + f.n then p.1 else p.2 + (p.1 - p.2) % f.n)) = (f.at x).map .int := by
      unfold Fn.at atv
      rw [List.map_zipWith, List.zip_eq_zipWith, List.map_zipWith]
    rw [e]
    exact hP
theorem d__law_one_more (ha : argOk xs = true) (h : F__law_one_more xs P) : SD K Γ (slots N__law_one_more xs) (t__law_one_more K) { nx := fun δ' => P .none ∧ Kept xs δ', rt := fun d δ' => P d ∧ Kept xs δ' } := by
  obtain ⟨x, i, rfl, hi, hl, hP⟩ := h
  show SD K Γ [.d (tI x), .d (.int i)] _ _
  unfold t__law_one_more
  repeat' (first|(with_reducible first|refine sd_ret ?_|refine ev_op ?_|refine ev_sl ?_|refine eo_n ?_|refine eo_s ?_|refine post_i ?_)|((with_reducible apply ev_v);exact rfl)|simp only [List.set_cons_zero, List.set_cons_succ, Bool.not_true, Bool.not_false])
  refine sd_slt ?_
  repeat' (first|(with_reducible first|refine ev_op ?_|refine ev_tup ?_|refine ea_cons ?_)|((with_reducible apply ev_v);exact rfl))
  have hxi : x[i]? = some x[i] := List.getElem?_eq_getElem hi
  refine od_ixt (atI_nat (by rw [List.getElem?_map, hxi]; rfl)) ?_
  repeat' (first|(with_reducible first|refine ea_nil ?_|refine ev_ci ?_|refine od_addi ?_)|((with_reducible apply post_all);exact rfl;exact Nat.le_of_ble_eq_true rfl)|simp only [List.set_cons_zero, List.set_cons_succ, Bool.not_true, Bool.not_false])
  rw [cut_lo]
  refine od_addt (by rw [List.length_take, List.length_map]; show _ + 1 ≤ _; omega) ?_
  repeat' (first|(with_reducible first|refine ev_op ?_|refine ev_sl ?_|refine eo_n ?_|refine eo_s ?_|refine ev_ci ?_|refine od_addi ?_|refine post_i ?_)|((with_reducible apply ev_v);exact rfl))
  refine sd_slt ?_
  skip
  rw [show (i : Int) + 1 = ((i + 1 : Nat) : Int) by omega, cut_hi]
  refine od_addt (by rw [List.length_append, List.length_take, List.length_drop, List.length_map]; show _ + 1 + _ ≤ _; omega) ?_
  repeat' (first|(with_reducible first|refine post_d ?_)|((with_reducible apply ret_ok);exact rfl))
  have e : (x.map PyData.int).take i ++ [PyData.int (x[i] + 1)] ++ (x.map PyData.int).drop (i + 1) = (addv x (unit x.length i 1)).map .int := by
    rw [← List.map_take, ← List.map_drop]
    have e2 : addv x (unit x.length i 1) = x.take i ++ [x[i] + 1] ++ x.drop (i + 1) := ext_n (n := x.length) (by rw [addv_len (by rw [unit_len]), unit_len]) (by simp; omega) fun j hj => by
      rw [addv_get (List.getElem?_eq_getElem hj) (unit_get hj)]
      by_cases h : j < i
      · rw [if_neg (by omega), Int.add_zero, List.append_assoc, List.getElem?_append_left (by rw [List.length_take]; omega), List.getElem?_take, if_pos h, List.getElem?_eq_getElem hj]
      · by_cases h' : i = j
        · subst h'
          rw [if_pos rfl, List.append_assoc, List.getElem?_append_right (by rw [List.length_take]; omega), List.length_take, show i - min i x.length = 0 by omega]
          rfl
        · rw [if_neg h', Int.add_zero, List.getElem?_append_right (by rw [List.length_append, List.length_take, List.length_singleton]; omega), List.length_append, List.length_take, List.length_singleton, List.getElem?_drop,
            show i + 1 + (j - (min i x.length + 1)) = j by omega, List.getElem?_eq_getElem hj]
    rw [e2, List.map_append, List.map_append]
    rfl
  rw [e]
  exact hP
theorem rng0 (n : Nat) : rngD 0 n = (List.range n).map fun (i : Nat) => PyData.int (i : Int) := by
  unfold rngD
  refine List.map_congr_left fun i _ => ?_
  rw [Int.zero_add]
theorem sum_dot : ∀ (n : Nat) (w x : List Int), w.length = n → x.length = n → ((List.range n).map fun i => w.getD i 0 * x.getD i 0).sum = dot w x
  | 0, [], [], _, _ => rfl
  | n + 1, w :: ws, x :: xs, h, h' => by
    rw [List.range_succ_eq_map, List.map_cons, List.sum_cons, List.map_map]
    show w * x + ((List.range n).map fun i => ws.getD i 0 * xs.getD i 0).sum = w * x + dot ws xs
    rw [sum_dot n ws xs (by simpa using h) (by simpa using h')]
theorem fm_if {α β : Type} (p : α → Bool) (g : α → β) (l : List α) : l.filterMap (fun c => if p c then some (g c) else none) = (l.filter p).map g := by
  induction l with
  | nil => rfl
  | cons c l ih =>
    rw [List.filterMap_cons, List.filter_cons]
    cases h : p c <;> simp [h, ih]
theorem fm_cons (F : Nat → Option Int) (a : Nat) (l : List Nat) : ((a :: l).filterMap F).sum = (F a).getD 0 + (l.filterMap F).sum := by
  cases h : F a with
  | none => rw [List.filterMap_cons_none h]; exact (Int.zero_add _).symm
  | some b => rw [List.filterMap_cons_some h, List.sum_cons]; rfl
theorem sum_bsum : ∀ (n : Nat) (fs bs x : List Int), fs.length = n → bs.length = n → x.length = n → ((List.range n).filterMap fun i => if 0 < fs.getD i 0 ∧ fs.getD i 0 ≤ x.getD i 0 then some (bs.getD i 0) else none).sum = bsum fs bs x
  | 0, [], [], [], _, _, _ => rfl
  | n + 1, f :: fs, b :: bs, x :: xs, h, h', h'' => by
    have ih := sum_bsum n fs bs xs (by simpa using h) (by simpa using h') (by simpa using h'')
    have e : ((List.range n).map Nat.succ).filterMap (fun i => if 0 < (f :: fs).getD i 0 ∧ (f :: fs).getD i 0 ≤ (x :: xs).getD i 0 then some ((b :: bs).getD i 0) else none) = (List.range n).filterMap fun i => if 0 < fs.getD i 0 ∧ fs.getD i 0 ≤ xs.getD i 0 then some (bs.getD i 0) else none := by
      rw [List.filterMap_map]
      rfl
    show _ = (if 0 < f ∧ f ≤ x then b else 0) + bsum fs bs xs
    rw [List.range_succ_eq_map]
    rw [fm_cons, e, ih]
    show (if 0 < f ∧ f ≤ x then some b else none : Option Int).getD 0 + _ = _
    by_cases hc : 0 < f ∧ f ≤ x
    · rw [if_pos hc, if_pos hc]
      rfl
    · rw [if_neg hc, if_neg hc]
      rfl
theorem d__law_given (ha : argOk xs = true) (h : F__law_given xs P) : SD K Γ (slots N__law_given xs) (t__law_given K) { nx := fun δ' => P .none ∧ Kept xs δ', rt := fun d δ' => P d ∧ Kept xs δ' } := by
  obtain ⟨f, x, rfl, k, hx, hP⟩ := h
  show SD K Γ [.d (fnD f), .d (tI x), .un, .un, .un, .un, .un, .un, .un, .un, .un, .un, .un, .un, .un, .un] _ _
  unfold t__law_given fnD
  have hn := k.n
  have hin := k.ins
  have hou := k.outs
  repeat' (first|(with_reducible first|refine sd_seq ?_|refine sd_asg ?_|refine sd_asgG ?_|refine ev_lst ?_|refine ea_nil ?_|refine gd_name ?_|refine gds_cons ?_|refine gds_nil ?_|refine post_d ?_|refine post_so ?_)|((with_reducible apply ev_v);exact rfl)|((with_reducible apply gd_tup);exact rfl)|((with_reducible apply post_all);exact rfl;exact Nat.le_of_ble_eq_true rfl)|(with_reducible first|intro _)|simp only [List.set_cons_zero, List.set_cons_succ, Bool.not_true, Bool.not_false])
  refine sd_for (ei_rng1 ?_)
  repeat' (first|(with_reducible first|refine ea_cons ?_|refine ea_nil ?_)|((with_reducible apply ev_v);exact rfl)|simp only [List.set_cons_zero, List.set_cons_succ, Bool.not_true, Bool.not_false])
  refine ⟨f.rows.length, rfl, by omega, by omega, fun o δ' => ∃ p s12 s13 s15, δ' = [.d (fnD f), .d (tI x), .d (.int f.ins), .d (.int f.rows.length), .d (.int f.n), .d (.list (f.rows.map fun r => lI r.1)), .d (lI (f.rows.map fun r => r.2.1)), .d (lI f.firsts), .d (.list (f.rows.map fun r => lI r.2.2)), .d (.list (f.edges.map tI)), .d (lI f.far), .own p (((f.given x).take o).map .int), s12, s13, .un, s15],
    ⟨_, _, _, _, rfl⟩, fun o z δ' hz hI => ?_, fun δ' hI => ?_⟩
  · obtain ⟨p, s12, s13, s15, rfl⟩ := hI
    obtain ⟨ho, rfl⟩ := rng_inv hz
    rw [Int.toNat_natCast] at ho
    rw [Int.zero_add]
    have hr : f.rows[o]? = some f.rows[o] := List.getElem?_eq_getElem ho
    have hrm := List.mem_of_getElem? hr
    obtain ⟨hw, hw7⟩ := k.ws _ hrm
    obtain ⟨hb, hb3⟩ := k.bs _ hrm
    obtain ⟨hfl, hf2⟩ := k.fs
    repeat' (first|(with_reducible first|refine sd_seq ?_|refine sd_asg ?_|refine ev_op ?_|refine ev_cb1 ?_|refine ea_cons ?_|refine gd_name ?_)|simp only [List.set_cons_zero, List.set_cons_succ, Bool.not_true, Bool.not_false])
    refine ev_lcMm (List.range f.ins) (fun i => .int (i : Int)) (fun i => .int (f.rows[o].1.getD i 0 * x.getD i 0)) (noA1 rfl rfl) (ei_rng1 ?_)
    repeat' (first|(with_reducible first|refine ea_cons ?_|refine ea_nil ?_)|((with_reducible apply ev_v);exact rfl))
    refine ⟨f.ins, rfl, by omega, by omega, by rw [Int.toNat_natCast, rng0], by rw [List.length_range]; omega, fun j i hi => ?_, fun p => ?_⟩
    · have hi' : i < f.ins := List.mem_range.mp (List.mem_of_getElem? hi)
      repeat' (first|(with_reducible first|refine ev_op ?_)|((with_reducible apply ev_v);exact rfl)|((with_reducible apply gv_name);exact (by simp)))
      refine od_ixl rfl (atI_nat (by rw [List.getElem?_map, hr]; rfl)) ?_
      repeat' (first|((with_reducible apply ev_v);exact rfl)|simp only [List.set_cons_zero, List.set_cons_succ, Bool.not_true, Bool.not_false])
      have hwi : f.rows[o].1[i]? = some (f.rows[o].1.getD i 0) := by rw [List.getD_eq_getElem?_getD, List.getElem?_eq_getElem (by omega)]; rfl
      have hxi : x[i]? = some (x.getD i 0) := by rw [List.getD_eq_getElem?_getD, List.getElem?_eq_getElem (by omega)]; rfl
      refine od_ixl rfl (atI_nat (by rw [List.getElem?_map, hwi]; rfl)) ?_
      repeat' (first|(with_reducible first|refine ev_op ?_)|((with_reducible apply ev_v);exact rfl))
      refine od_ixt (atI_nat (by rw [List.getElem?_map, hxi]; rfl)) ?_
      skip
      have := hw7 _ (List.mem_of_getElem? hwi)
      refine od_muli (.inl (.inl ⟨by omega, by omega⟩)) ?_
      repeat' (first|simp only [List.set_cons_zero, List.set_cons_succ, Bool.not_true, Bool.not_false])
    · repeat' (first|(with_reducible first|refine ea_nil ?_))
      refine cd_sum (ns := (List.range f.ins).map fun i => f.rows[o].1.getD i 0 * x.getD i 0) (by rw [List.map_map]; rfl) ?_
      rw [sum_dot f.ins _ _ hw hx]
      repeat' (first|(with_reducible first|refine ev_op ?_)|((with_reducible apply ev_v);exact rfl))
      refine od_ixl rfl (atI_nat (by rw [List.getElem?_map, List.getElem?_map, hr]; rfl)) ?_
      repeat' (first|(with_reducible first|refine od_addi ?_)|((with_reducible apply ev_v);exact rfl)|simp only [List.set_cons_zero, List.set_cons_succ, Bool.not_true, Bool.not_false])
      refine od_Ii (C := CDivW) (g := fun i j => i / j) (wide_div (b := 8) (by omega) (by omega) (by decide) (by decide)) ?_
      repeat' (first|(with_reducible first|refine sd_seq ?_|refine sd_asg ?_|refine post_sd ?_)|simp only [List.set_cons_zero, List.set_cons_succ, Bool.not_true, Bool.not_false])
      refine ev_lcFm (List.range f.ins) (fun i => .int (i : Int)) (fun i => if 0 < f.firsts.getD i 0 ∧ f.firsts.getD i 0 ≤ x.getD i 0 then some (PyData.int (f.rows[o].2.2.getD i 0)) else none) (noA1 rfl rfl) (ei_rng1 ?_)
      repeat' (first|(with_reducible first|refine ea_cons ?_|refine ea_nil ?_)|((with_reducible apply ev_v);exact rfl))
      refine ⟨f.ins, rfl, by omega, by omega, by rw [Int.toNat_natCast, rng0], by rw [List.length_range]; omega, fun j i hi => ?_, fun p => ?_⟩
      · have hi' : i < f.ins := List.mem_range.mp (List.mem_of_getElem? hi)
        have hxi : x[i]? = some (x.getD i 0) := by rw [List.getD_eq_getElem?_getD, List.getElem?_eq_getElem (by omega)]; rfl
        have hfi : f.firsts[i]? = some (f.firsts.getD i 0) := by rw [List.getD_eq_getElem?_getD, List.getElem?_eq_getElem (by omega)]; rfl
        have hbi : f.rows[o].2.2[i]? = some (f.rows[o].2.2.getD i 0) := by rw [List.getD_eq_getElem?_getD, List.getElem?_eq_getElem (by omega)]; rfl
        repeat' (first|(with_reducible first|refine et_test ?_|refine et_and ?_|refine ev_op ?_)|((with_reducible apply ev_v);exact rfl)|((with_reducible apply gv_name);exact (by simp)))
        refine od_ixl rfl (atI_nat (by rw [List.getElem?_map, hfi]; rfl)) ?_
        repeat' (first|(with_reducible first|refine ev_ci ?_|refine od_I0b ?_|refine post_b ?_))
        refine ifB (fun h1 => ?_) (fun h1 => ?_)
        · repeat' (first|(with_reducible first|refine et_test ?_|refine ev_op ?_)|((with_reducible apply ev_v);exact rfl))
          refine od_ixt (atI_nat (by rw [List.getElem?_map, hxi]; rfl)) ?_
          repeat' (first|(with_reducible first|refine ev_op ?_)|((with_reducible apply ev_v);exact rfl))
          refine od_ixl rfl (atI_nat (by rw [List.getElem?_map, hfi]; rfl)) ?_
          repeat' (first|(with_reducible first|refine od_I0b ?_|refine post_b ?_))
          refine ifB (fun h2 => ?_) (fun h2 => ?_)
          · repeat' (first|(with_reducible first|refine ev_op ?_)|((with_reducible apply ev_v);exact rfl))
            refine od_ixl rfl (atI_nat (by rw [List.getElem?_map, hr]; rfl)) ?_
            repeat' (first|((with_reducible apply ev_v);exact rfl)|simp only [List.set_cons_zero, List.set_cons_succ, Bool.not_true, Bool.not_false])
            refine od_ixl rfl (atI_nat (by rw [List.getElem?_map, hbi]; rfl)) ?_
            repeat' (first|(with_reducible first|refine post_d ?_))
            rw [if_pos ⟨of_decide_eq_true h1, of_decide_eq_true h2⟩]
          · skip
            rw [if_neg fun z => (of_decide_eq_false h2) z.2]
        · repeat' (first|(with_reducible first|refine ifF ?_))
          rw [if_neg fun z => (of_decide_eq_false h1) z.1]
      · repeat' (first|(with_reducible first|refine post_so ?_))
        have hgl : (f.given x).length = f.rows.length := given_len f x
        refine sd_app rfl (by rw [List.length_map, List.length_take]; omega) ?_
        repeat' (first|(with_reducible first|refine ev_op ?_|refine ev_cb1 ?_|refine ea_cons ?_|refine ea_nil ?_)|((with_reducible apply ev_v);exact rfl)|((with_reducible apply ev_vo);exact rfl)|simp only [List.set_cons_zero, List.set_cons_succ, Bool.not_true, Bool.not_false])
        have ef : (List.range f.ins).filterMap (fun i => if 0 < f.firsts.getD i 0 ∧ f.firsts.getD i 0 ≤ x.getD i 0 then some (PyData.int (f.rows[o].2.2.getD i 0)) else none) =
            ((List.range f.ins).filterMap fun i => if 0 < f.firsts.getD i 0 ∧ f.firsts.getD i 0 ≤ x.getD i 0 then some (f.rows[o].2.2.getD i 0) else none).map .int := by
          rw [List.map_filterMap]
          congr 1
          funext i
          split <;> rfl
        rw [ef]
        refine cd_sum rfl ?_
        rw [sum_bsum f.ins _ _ _ hfl hb hx]
        repeat' (first|(with_reducible first|refine od_addi ?_|refine post_d ?_))
        have eg : (f.given x)[o]? = some (f.one f.rows[o] x) := by
          unfold Fn.given
          rw [List.getElem?_map, hr]
          rfl
        have et : ((f.given x).take o).map PyData.int ++ [PyData.int ((dot f.rows[o].1 x + f.rows[o].2.1) / f.n + bsum f.firsts f.rows[o].2.2 x)] = ((f.given x).take (o + 1)).map .int := by
          rw [List.take_add_one, eg, List.map_append]
          rfl
        rw [et]
        exact ⟨_, _, _, _, rfl⟩
  · obtain ⟨p, s12, s13, s15, rfl⟩ := hI
    rw [rngD_len, Int.toNat_natCast, List.take_of_length_le (by rw [given_len]; exact Nat.le_refl _)]
    repeat' (first|(with_reducible first|refine sd_ret ?_|refine ev_cb1 ?_|refine ea_cons ?_|refine ea_nil ?_|refine post_d ?_)|((with_reducible apply ev_vo);exact rfl)|((with_reducible apply cd_tupl);exact rfl)|((with_reducible apply ret_ok);exact rfl))
    exact hP
def F__law_alone : FS := fun xs P => ∃ (f : Fn) (i : Nat), xs = [.d (fnD f), .d (.int i)] ∧ FnOk f ∧ i < f.ins ∧ (axis f i = [] → P .none) ∧ ∀ c ∈ axis f i, (∀ y ∈ axis f i, c ≤ y) → P (.int (c - 1))
abbrev N__law_alone : List Str := ["function", "i", "some", "corner", "j"]
def t__law_alone (K : Fg) : TS := (tSeq (tAsg (tLc (iSeqU K (tOp (rIxU K) (tVar 0) (tC (.int 7)))) (gName 3) (tTest (tOp (rEqU K) (tLc (iRng1 (tCons (tOp (rIxU K) (tVar 0) (tC (.int 0))) tNil)) (gName 4) (tAnd (tTest (tOp (rNeU K) (tVar 4) (tVar 1))) (tTest (tOp (rI0 fun i j => .bl (decide (i > j))) (tOp (rIxU K) (tVar 3) (tVar 4)) (tC (.int 0))))) (tC (.int 1)) [4]) (tLst tNil))) (tOp (rIxU K) (tVar 3) (tVar 1)) [3]) (gName 2))
    (tRet (tIf (tTest (tOp (rNeU K) (tVar 2) (tLst tNil))) (tOp (rI0 fun i j => .int (i - j)) (tCB (rMinU K) (tCons (tVar 2) tNil)) (tC (.int 1))) (tC .non))))
theorem oth_list (n i : Nat) (c : List Int) : ((List.range n).filterMap (fun j => if j ≠ i ∧ 0 < c.getD j 0 then some (PyData.int 1) else none)).isEmpty = oth n i c := by
  rw [Bool.eq_iff_iff, List.isEmpty_iff, List.filterMap_eq_nil_iff]
  unfold oth
  rw [List.all_eq_true]
  refine forall_congr' fun j => forall_congr' fun _ => ?_
  by_cases h : j = i
  · simp [h]
  · by_cases h' : 0 < c.getD j 0
    · have : ¬ c.getD j 0 ≤ 0 := by omega
      simp [h, h', this]
    · have : c.getD j 0 ≤ 0 := by omega
      simp [h, h', this]
theorem d__law_alone (ha : argOk xs = true) (h : F__law_alone xs P) : SD K Γ (slots N__law_alone xs) (t__law_alone K) { nx := fun δ' => P .none ∧ Kept xs δ', rt := fun d δ' => P d ∧ Kept xs δ' } := by
  obtain ⟨f, i, rfl, k, hi, hP1, hP2⟩ := h
  show SD K Γ [.d (fnD f), .d (.int i), .un, .un, .un] _ _
  unfold t__law_alone fnD
  have hes := k.es
  have hin := k.ins
  repeat' (first|(with_reducible first|refine sd_seq ?_|refine sd_asg ?_)|simp only [List.set_cons_zero, List.set_cons_succ, Bool.not_true, Bool.not_false])
  refine ev_lcFm f.edges tI (fun c => if oth f.ins i c then some (PyData.int (c.getD i 0)) else none) (noA1 rfl rfl) (ei_Ul ?_)
  repeat' (first|(with_reducible first|refine ev_op ?_|refine ev_ci ?_|refine post_l ?_)|((with_reducible apply ev_v);exact rfl)|((with_reducible apply od_ixt);exact rfl)|simp only [List.set_cons_zero, List.set_cons_succ, Bool.not_true, Bool.not_false])
  refine ⟨by trivial, by omega, fun u c hc => ?_, fun p => ?_⟩
  · have hcl := (k.ec c (List.mem_of_getElem? hc)).1
    repeat' (first|(with_reducible first|refine et_test ?_|refine ev_op ?_)|((with_reducible apply gv_name);exact (by simp)))
    refine ev_lcFm (List.range f.ins) (fun j => .int (j : Int)) (fun j => if j ≠ i ∧ 0 < c.getD j 0 then some (PyData.int 1) else none) (noA1 rfl rfl) (ei_rng1 ?_)
    repeat' (first|(with_reducible first|refine ev_op ?_|refine ea_cons ?_|refine ea_nil ?_|refine ev_ci ?_)|((with_reducible apply ev_v);exact rfl)|((with_reducible apply od_ixt);exact rfl))
    refine ⟨f.ins, rfl, by omega, by omega, by rw [Int.toNat_natCast, rng0], by rw [List.length_range]; omega, fun v j hj => ?_, fun p => ?_⟩
    · have hj' : j < f.ins := List.mem_range.mp (List.mem_of_getElem? hj)
      have hcj : c[j]? = some (c.getD j 0) := by rw [List.getD_eq_getElem?_getD, List.getElem?_eq_getElem (by omega)]; rfl
      repeat' (first|(with_reducible first|refine et_test ?_|refine et_and ?_|refine ev_op ?_|refine od_nei ?_|refine post_b ?_)|((with_reducible apply ev_v);exact rfl)|((with_reducible apply gv_name);exact (by simp)))
      by_cases hji : j = i
      · rw [decide_eq_true (show (j : Int) = (i : Int) by omega)]
        repeat' (first|(with_reducible first|refine ifF ?_)|simp only [List.set_cons_zero, List.set_cons_succ, Bool.not_true, Bool.not_false])
        rw [if_neg fun z => z.1 hji]
      · rw [decide_eq_false (show ¬ (j : Int) = (i : Int) by omega)]
        repeat' (first|(with_reducible first|refine et_test ?_|refine ev_op ?_|refine ifTT ?_)|((with_reducible apply ev_v);exact rfl)|simp only [List.set_cons_zero, List.set_cons_succ, Bool.not_true, Bool.not_false])
        refine od_ixt (atI_nat (by rw [List.getElem?_map, hcj]; rfl)) ?_
        repeat' (first|(with_reducible first|refine ev_ci ?_|refine od_I0b ?_|refine post_b ?_))
        refine ifB (fun h1 => ?_) (fun h1 => ?_)
        · repeat' (first|(with_reducible first|refine ev_ci ?_|refine post_d ?_))
          rw [if_pos ⟨hji, of_decide_eq_true h1⟩]
        · skip
          rw [if_neg fun z => (of_decide_eq_false h1) z.2]
    · repeat' (first|(with_reducible first|refine ev_lst ?_|refine ea_nil ?_)|((with_reducible apply post_all);exact rfl;exact Nat.le_of_ble_eq_true rfl)|(with_reducible first|intro _))
      refine od_eqN rfl rfl (fun d hd => ?_) ?_
      · obtain ⟨q, _, hq⟩ := List.mem_filterMap.mp hd
        split at hq
        · cases hq; exact shp_int 60 1
        · cases hq
      · rw [oth_list]
        repeat' (first|(with_reducible first|refine post_b ?_))
        refine ifB (fun h1 => ?_) (fun h1 => ?_)
        · repeat' (first|(with_reducible first|refine ev_op ?_)|((with_reducible apply ev_v);exact rfl))
          have hci : c[i]? = some (c.getD i 0) := by rw [List.getD_eq_getElem?_getD, List.getElem?_eq_getElem (by omega)]; rfl
          refine od_ixt (atI_nat (by rw [List.getElem?_map, hci]; rfl)) ?_
          repeat' (first|(with_reducible first|refine post_d ?_))
          rw [if_pos h1]
        · skip
          rw [h1]
          rfl
  · have ex : f.edges.filterMap (fun c => if oth f.ins i c then some (PyData.int (c.getD i 0)) else none) = (axis f i).map .int := by
      unfold axis
      rw [fm_if, List.map_map]
      rfl
    rw [ex]
    repeat' (first|(with_reducible first|refine sd_ret ?_|refine ev_if ?_|refine et_test ?_|refine ev_op ?_|refine ev_lst ?_|refine ea_nil ?_|refine post_so ?_)|((with_reducible apply ev_vo);exact rfl)|((with_reducible apply post_all);exact rfl;exact Nat.le_of_ble_eq_true rfl)|(with_reducible first|intro _)|simp only [List.set_cons_zero, List.set_cons_succ, Bool.not_true, Bool.not_false])
    refine od_neN rfl rfl (fun d hd => ?_) ?_
    · obtain ⟨q, _, rfl⟩ := List.mem_map.mp hd
      exact shp_int 60 _
    · cases hax : axis f i with
      | nil =>
        repeat' (first|(with_reducible first|refine post_b ?_))
        refine ifF ?_
        repeat' (first|(with_reducible first|refine ev_cn ?_|refine post_d ?_)|((with_reducible apply ret_ok);exact rfl))
        exact hP1 hax
      | cons c l =>
        repeat' (first|(with_reducible first|refine post_b ?_))
        refine ifT ?_
        repeat' (first|(with_reducible first|refine ev_op ?_|refine ev_cb1 ?_|refine ea_cons ?_|refine ea_nil ?_)|((with_reducible apply ev_vo);exact rfl))
        refine cd_minl (ns := c :: l) rfl (by simp) fun m hm hle => ?_
        repeat' (first|(with_reducible first|refine ev_ci ?_|refine od_I0i ?_|refine post_d ?_)|((with_reducible apply ret_ok);exact rfl))
        rw [hax] at hP2
        exact hP2 m hm hle
/-- a wire's threshold, period, slope, by the function; none if it rests not for ever -/
def slopeD (f : Fn) (i : Nat) : D := if axis f i = [] then .tuple [.int (f.far.getD i 0), .int f.n, tI (f.rows.map fun r => r.1.getD i 0)] else .none
def F__law_slopes : FS := fun xs P => ∃ (f : Fn), xs = [.d (fnD f)] ∧ FnOk f ∧ P (.tuple ((List.range f.ins).map (slopeD f)))
abbrev N__law_slopes : List Str := ["function", "found", "i", "line", "weights"]
def t__law_slopes (K : Fg) : TS := (tSeq (tAsg (tLst tNil) (gName 1))
    (tSeq (tFor (iRng1 (tCons (tOp (rIxU K) (tVar 0) (tC (.int 0))) tNil)) (gName 2) (tSeq (tAsg (tCB (rTup1 K) (tCons (tLc (iSeqU K (tOp (rIxU K) (tVar 0) (tC (.int 3)))) (gName 4) tYes (tOp (rIxU K) (tVar 4) (tVar 2)) [4]) tNil)) (gName 3))
    (tDrop (tBM K "list" rAppend (tVar 1) (tCons (tIf (tTest (tOp rIsN (tCall (liftSp K F__law_alone) [] E0 (tCons (tVar 0) (tCons (tVar 2) tNil))) (tC .non))) (tTup (tCons (tOp (rIxU K) (tOp (rIxU K) (tVar 0) (tC (.int 8))) (tVar 2)) (tCons (tOp (rIxU K) (tVar 0) (tC (.int 2))) (tCons (tVar 3) tNil)))) (tC .non)) tNil)))))
    (tRet (tCB (rTup1 K) (tCons (tVar 1) tNil)))))
theorem d__law_slopes (ha : argOk xs = true) (h : F__law_slopes xs P) : SD K Γ (slots N__law_slopes xs) (t__law_slopes K) { nx := fun δ' => P .none ∧ Kept xs δ', rt := fun d δ' => P d ∧ Kept xs δ' } := by
  obtain ⟨f, rfl, k, hP⟩ := h
  show SD K Γ [.d (fnD f), .un, .un, .un, .un] _ _
  unfold t__law_slopes
  have e : fnD f = .tuple [.int f.ins, .int f.rows.length, .int f.n, .list (f.rows.map fun r => lI r.1), lI (f.rows.map fun r => r.2.1), lI f.firsts, .list (f.rows.map fun r => lI r.2.2), .list (f.edges.map tI), lI f.far] := rfl
  rw [e]
  have hin := k.ins
  have hou := k.outs
  have hfl := k.far.1
  repeat' (first|(with_reducible first|refine sd_seq ?_|refine sd_asg ?_|refine ev_lst ?_|refine ea_nil ?_|refine post_so ?_)|((with_reducible apply post_all);exact rfl;exact Nat.le_of_ble_eq_true rfl)|(with_reducible first|intro _)|simp only [List.set_cons_zero, List.set_cons_succ, Bool.not_true, Bool.not_false])
  refine sd_for (ei_rng1 ?_)
  repeat' (first|(with_reducible first|refine ev_op ?_|refine ea_cons ?_|refine ea_nil ?_|refine ev_ci ?_)|((with_reducible apply ev_v);exact rfl)|((with_reducible apply od_ixt);exact rfl)|simp only [List.set_cons_zero, List.set_cons_succ, Bool.not_true, Bool.not_false])
  refine ⟨f.ins, rfl, by omega, by omega, fun i δ' => ∃ p s2 s3, δ' = [.d (.tuple [.int f.ins, .int f.rows.length, .int f.n, .list (f.rows.map fun r => lI r.1), lI (f.rows.map fun r => r.2.1), lI f.firsts, .list (f.rows.map fun r => lI r.2.2), .list (f.edges.map tI), lI f.far]), .own p ((List.range i).map (slopeD f)), s2, s3, .un],
    ⟨_, _, _, rfl⟩, fun i z δ' hz hI => ?_, fun δ' hI => ?_⟩
  · obtain ⟨p, s2, s3, rfl⟩ := hI
    obtain ⟨hi, rfl⟩ := rng_inv hz
    rw [Int.toNat_natCast] at hi
    rw [Int.zero_add]
    repeat' (first|(with_reducible first|refine sd_seq ?_|refine sd_asg ?_|refine ev_cb1 ?_|refine ea_cons ?_|refine gd_name ?_)|simp only [List.set_cons_zero, List.set_cons_succ, Bool.not_true, Bool.not_false])
    refine ev_lcMm f.rows (fun r => lI r.1) (fun r => .int (r.1.getD i 0)) (noA1 rfl rfl) (ei_Ul ?_)
    repeat' (first|(with_reducible first|refine ev_op ?_|refine ev_ci ?_|refine post_l ?_)|((with_reducible apply ev_v);exact rfl)|((with_reducible apply od_ixt);exact rfl)|simp only [List.set_cons_zero, List.set_cons_succ, Bool.not_true, Bool.not_false])
    refine ⟨by trivial, by omega, fun u r hr => ?_, fun p => ?_⟩
    · have hw := (k.ws r (List.mem_of_getElem? hr)).1
      have hwi : r.1[i]? = some (r.1.getD i 0) := by rw [List.getD_eq_getElem?_getD, List.getElem?_eq_getElem (by omega)]; rfl
      repeat' (first|(with_reducible first|refine ev_op ?_)|((with_reducible apply ev_v);exact rfl)|((with_reducible apply gv_name);exact (by simp)))
      refine od_ixl rfl (atI_nat (by rw [List.getElem?_map, hwi]; rfl)) ?_
      repeat' (first|simp only [List.set_cons_zero, List.set_cons_succ, Bool.not_true, Bool.not_false])
    · repeat' (first|(with_reducible first|refine ea_nil ?_|refine post_sd ?_)|((with_reducible apply cd_tupl);exact rfl))
      refine sd_app rfl (by rw [List.length_map, List.length_range]; omega) ?_
      repeat' (first|(with_reducible first|refine ev_if ?_|refine et_test ?_|refine ev_op ?_|refine ev_call ?_|refine ea_cons ?_|refine ea_nil ?_)|((with_reducible apply ev_v);exact rfl)|((with_reducible apply post_call);exact rfl)|simp only [List.set_cons_zero, List.set_cons_succ, Bool.not_true, Bool.not_false])
      have er : (List.range (i + 1)).map (slopeD f) = (List.range i).map (slopeD f) ++ [slopeD f i] := by rw [List.range_succ, List.map_append]; rfl
      have hti : f.far[i]? = some (f.far.getD i 0) := by rw [List.getD_eq_getElem?_getD, List.getElem?_eq_getElem (by omega)]; rfl
      refine ⟨f, i, rfl, k, hi, fun hax => ?_, fun c hc hm => ?_⟩
      · repeat' (first|(with_reducible first|refine ev_op ?_|refine ev_tup ?_|refine ea_cons ?_|refine ev_ci ?_|refine ev_cn ?_|refine ifT ?_|refine od_isN_n ?_|refine post_b ?_)|((with_reducible apply ev_v);exact rfl)|((with_reducible apply od_ixt);exact rfl))
        refine od_ixl rfl (atI_nat (by rw [List.getElem?_map, hti]; rfl)) ?_
        repeat' (first|(with_reducible first|refine ev_op ?_|refine ea_cons ?_|refine ea_nil ?_|refine ev_ci ?_|refine post_d ?_)|((with_reducible apply ev_v);exact rfl)|((with_reducible apply od_ixt);exact rfl)|((with_reducible apply post_all);exact rfl;exact Nat.le_of_ble_eq_true rfl)|simp only [List.set_cons_zero, List.set_cons_succ, Bool.not_true, Bool.not_false])
        have es : slopeD f i = .tuple [.int (f.far.getD i 0), .int f.n, .tuple (f.rows.map fun r => .int (r.1.getD i 0))] := by
          have e1 : slopeD f i = .tuple [.int (f.far.getD i 0), .int f.n, tI (f.rows.map fun r => r.1.getD i 0)] := if_pos hax
          rw [e1]
          unfold tI
          rw [List.map_map]
          rfl
        rw [er, es]
        exact ⟨_, _, _, rfl⟩
      · repeat' (first|(with_reducible first|refine ev_cn ?_|refine ifF ?_|refine od_isN_i ?_|refine post_d ?_|refine post_b ?_))
        have es : slopeD f i = .none := if_neg fun z => by rw [z] at hc; cases hc
        rw [er, es]
        exact ⟨_, _, _, rfl⟩
  · obtain ⟨p, s2, s3, rfl⟩ := hI
    rw [rngD_len, Int.toNat_natCast]
    repeat' (first|(with_reducible first|refine sd_ret ?_|refine ev_cb1 ?_|refine ea_cons ?_|refine ea_nil ?_|refine post_d ?_)|((with_reducible apply ev_vo);exact rfl)|((with_reducible apply cd_tupl);exact rfl)|((with_reducible apply ret_ok);exact rfl))
    exact hP
def F__law_inputs : FS := fun xs P => ∃ (a c : Addr) (ins : Nat), xs = [.src a c, .d (.int ins)] ∧ ins ≤ 40 ∧ ∀ vs : List (List Nat), vs.length = 7 → (∀ v ∈ vs, v.length = ins ∧ ∀ n ∈ v, n ≤ 10 ^ 12) → P (.list (vs.map tN))
abbrev N__law_inputs : List Str := ["source", "ins", "found", "turn", "way", "x", "i"]
def t__law_inputs (K : Fg) : TS := (tSeq (tAsg (tLst tNil) (gName 2))
    (tSeq (tFor (iRng1 (tCons (tC (.int 7)) tNil)) (gName 3) (tSeq (tAsg (tOp (rIxU K) (tLst (tCons (tC (.int 4)) (tCons (tC (.int 9)) (tCons (tC (.int 9)) (tCons (tC (.int 30)) (tCons (tOp (rI CPow fun i j => .int (i ^ j.toNat)) (tC (.int 10)) (tC (.int 4))) (tCons (tOp (rI CPow fun i j => .int (i ^ j.toNat)) (tC (.int 10)) (tC (.int 12))) (tCons (tOp (rI CPow fun i j => .int (i ^ j.toNat)) (tC (.int 10)) (tC (.int 12))) tNil)))))))) (tVar 3)) (gName 4))
    (tSeq (tAsg (tLc (iRng1 (tCons (tVar 1) tNil)) (gName 6) tYes (tCall (liftSp K F__law_of) [] E0 (tCons (tVar 0) (tCons (tLst (tCons (tC (.int 0)) (tCons (tCall (liftSp K F__law_pick) [] E0 (tCons (tVar 0) (tCons (tOp (rAddU K) (tVar 4) (tC (.int 1))) tNil))) (tCons (tVar 4) (tCons (tCall (liftSp K F__law_pick) [] E0 (tCons (tVar 0) (tCons (tC (.int 4)) tNil))) tNil))))) tNil))) [6]) (gName 5))
    (tDrop (tBM K "list" rAppend (tVar 2) (tCons (tCB (rTup1 K) (tCons (tVar 5) tNil)) tNil))))))
    (tRet (tVar 2))))
theorem nats_of {B : Nat} : ∀ {ys : List D}, (∀ y ∈ ys, ∃ n : Nat, y = .int n ∧ n ≤ B) → ∃ v : List Nat, ys = v.map (fun (n : Nat) => PyData.int (n : Int)) ∧ ∀ n ∈ v, n ≤ B
  | [], _ => ⟨[], rfl, fun _ h => by cases h⟩
  | y :: ys, h => by
    obtain ⟨v, h1, h2⟩ := nats_of (ys := ys) fun z hz => h z (by simp [hz])
    obtain ⟨n, hn, hB⟩ := h y (by simp)
    refine ⟨n :: v, by rw [hn, h1]; rfl, fun m hm => ?_⟩
    rcases List.mem_cons.mp hm with rfl | hm
    · exact hB
    · exact h2 m hm
theorem d__law_inputs (ha : argOk xs = true) (h : F__law_inputs xs P) : SD K Γ (slots N__law_inputs xs) (t__law_inputs K) { nx := fun δ' => P .none ∧ Kept xs δ', rt := fun d δ' => P d ∧ Kept xs δ' } := by
  obtain ⟨a, c, ins, rfl, hin, hP⟩ := h
  show SD K Γ [.src a c, .d (.int ins), .un, .un, .un, .un, .un] _ _
  unfold t__law_inputs
  repeat' (first|(with_reducible first|refine sd_seq ?_|refine sd_asg ?_|refine ev_lst ?_|refine ea_nil ?_|refine post_so ?_)|((with_reducible apply post_all);exact rfl;exact Nat.le_of_ble_eq_true rfl)|(with_reducible first|intro _)|simp only [List.set_cons_zero, List.set_cons_succ, Bool.not_true, Bool.not_false])
  refine sd_for (ei_rng1 ?_)
  repeat' (first|(with_reducible first|refine ea_cons ?_|refine ea_nil ?_|refine ev_ci ?_)|simp only [List.set_cons_zero, List.set_cons_succ, Bool.not_true, Bool.not_false])
  refine ⟨7, rfl, by decide, by decide, fun t δ' => ∃ p s3 s4 s5, ∃ vs : List (List Nat), δ' = [.src a c, .d (.int ins), .own p (vs.map tN), s3, s4, s5, .un] ∧ vs.length = t ∧ ∀ v ∈ vs, v.length = ins ∧ ∀ n ∈ v, n ≤ 10 ^ 12,
    ⟨_, _, _, _, [], rfl, rfl, fun _ h => by cases h⟩, fun t z δ' hz hI => ?_, fun δ' hI => ?_⟩
  · obtain ⟨p, s3, s4, s5, vs, rfl, hvl, hv⟩ := hI
    obtain ⟨ht, rfl⟩ := rng_inv hz
    have ht7 : t < 7 := ht
    rw [Int.zero_add]
    repeat' (first|(with_reducible first|refine sd_seq ?_|refine sd_asg ?_|refine ev_op ?_|refine ev_lst ?_|refine ea_cons ?_|refine ev_ci ?_|refine gd_name ?_)|simp only [List.set_cons_zero, List.set_cons_succ, Bool.not_true, Bool.not_false])
    refine od_Ii (C := CPow) (g := fun i j => i ^ j.toNat) ⟨by decide, by decide, by decide⟩ ?_
    repeat' (first|(with_reducible first|refine ev_op ?_|refine ea_cons ?_|refine ev_ci ?_))
    refine od_Ii (C := CPow) (g := fun i j => i ^ j.toNat) ⟨by decide, by decide, by decide⟩ ?_
    repeat' (first|(with_reducible first|refine ev_op ?_|refine ea_cons ?_|refine ev_ci ?_))
    refine od_Ii (C := CPow) (g := fun i j => i ^ j.toNat) ⟨by decide, by decide, by decide⟩ ?_
    repeat' (first|(with_reducible first|refine ea_nil ?_)|((with_reducible apply ev_v);exact rfl)|((with_reducible apply post_all);exact rfl;exact Nat.le_of_ble_eq_true rfl)|(with_reducible first|intro _)|simp only [List.set_cons_zero, List.set_cons_succ, Bool.not_true, Bool.not_false])
    obtain ⟨w, hw4, hwB, hix⟩ : ∃ w : Nat, 4 ≤ w ∧ w ≤ 10 ^ 12 ∧ atI [PyData.int 4, PyData.int 9, PyData.int 9, PyData.int 30, PyData.int ((10:Int) ^ (4:Int).toNat), PyData.int ((10:Int) ^ (12:Int).toNat), PyData.int ((10:Int) ^ (12:Int).toNat)] (t : Int) = some (.int (w : Int)) := by
      rcases t with _ | _ | _ | _ | _ | _ | _ | t
      · exact ⟨4, by decide, by decide, rfl⟩
      · exact ⟨9, by decide, by decide, rfl⟩
      · exact ⟨9, by decide, by decide, rfl⟩
      · exact ⟨30, by decide, by decide, rfl⟩
      · exact ⟨10 ^ 4, by decide, by decide, rfl⟩
      · exact ⟨10 ^ 12, by decide, by decide, rfl⟩
      · exact ⟨10 ^ 12, by decide, by decide, rfl⟩
      · omega
    refine od_ixl rfl hix ?_
    repeat' (first|(with_reducible first|refine sd_seq ?_|refine sd_asg ?_|refine post_sd ?_)|simp only [List.set_cons_zero, List.set_cons_succ, Bool.not_true, Bool.not_false])
    refine ev_lcR (noA1 rfl rfl) (ei_rng1 ?_)
    repeat' (first|(with_reducible first|refine ea_cons ?_|refine ea_nil ?_)|((with_reducible apply ev_v);exact rfl))
    refine ⟨_, rfl, by omega, by omega, ?_⟩
    rw [rngD_len, Int.toNat_natCast]
    refine ⟨by omega, fun _ y => ∃ n : Nat, y = .int n ∧ n ≤ 10 ^ 12, fun i x hx => ?_, fun q ys hyl hys => ?_⟩
    · obtain ⟨hi, rfl⟩ := rng_inv hx
      repeat' (first|(with_reducible first|refine ev_callB (F := F__law_of) ?_|refine ev_op ?_|refine ev_lst ?_|refine ev_call ?_|refine ea_cons ?_|refine ea_nil ?_|refine ev_ci ?_|refine od_addi ?_)|((with_reducible apply ev_v);exact rfl)|((with_reducible apply ev_vs);exact rfl)|((with_reducible apply post_call);exact rfl)|((with_reducible apply gv_name);exact (by simp))|simp only [List.set_cons_zero, List.set_cons_succ, Bool.not_true, Bool.not_false])
      refine ⟨_, _, _, rfl, by omega, by omega, fun r1 hr1 hr1' => ?_⟩
      repeat' (first|(with_reducible first|refine ev_call ?_|refine ea_cons ?_|refine ea_nil ?_|refine ev_ci ?_)|((with_reducible apply ev_v);exact rfl)|((with_reducible apply ev_vs);exact rfl)|((with_reducible apply post_call);exact rfl))
      refine ⟨_, _, _, rfl, by omega, by omega, fun r2 hr2 hr2' => ?_⟩
      repeat' (first|(with_reducible first|refine ea_nil ?_)|((with_reducible apply post_call);exact rfl)|((with_reducible apply post_all);exact rfl;exact Nat.le_of_ble_eq_true rfl)|(with_reducible first|intro _)|simp only [List.set_cons_zero, List.set_cons_succ, Bool.not_true, Bool.not_false])
      refine ⟨_, _, _, rfl, by simp, by simp, fun d hd => ?_⟩
      have hB : (w : Int) ≤ 10 ^ 12 := by exact_mod_cast hwB
      simp only [List.mem_cons, List.not_mem_nil, or_false] at hd
      rcases hd with rfl | rfl | rfl | rfl
      · exact ⟨rfl, _, rfl, 0, rfl, by decide⟩
      · exact ⟨rfl, _, rfl, r1.toNat, by rw [Int.toNat_of_nonneg hr1], by omega⟩
      · exact ⟨rfl, _, rfl, w, rfl, hwB⟩
      · exact ⟨rfl, _, rfl, r2.toNat, by rw [Int.toNat_of_nonneg hr2], by omega⟩
    · obtain ⟨v, rfl, hv'⟩ := nats_of (B := 10 ^ 12) (ys := ys) fun y hy => by
        obtain ⟨i, hi⟩ := List.getElem?_of_mem hy
        exact hys i y hi
      repeat' (first|(with_reducible first|refine post_so ?_))
      refine sd_app rfl (by rw [List.length_map]; omega) ?_
      repeat' (first|(with_reducible first|refine ev_cb1 ?_|refine ea_cons ?_|refine ea_nil ?_|refine post_d ?_)|((with_reducible apply ev_vo);exact rfl)|((with_reducible apply cd_tupl);exact rfl)|simp only [List.set_cons_zero, List.set_cons_succ, Bool.not_true, Bool.not_false])
      refine ⟨_, _, _, _, vs ++ [v], by rw [List.map_append]; rfl, by rw [List.length_append, hvl]; rfl, fun v2 hv2 => ?_⟩
      rcases List.mem_append.mp hv2 with h | h
      · exact hv v2 h
      · rw [List.mem_singleton.mp h]
        exact ⟨by rw [List.length_map] at hyl; exact hyl, hv'⟩
  · obtain ⟨p, s3, s4, s5, vs, rfl, hvl, hv⟩ := hI
    refine sd_frz 2 rfl ?_
    repeat' (first|(with_reducible first|refine sd_ret ?_|refine post_d ?_)|((with_reducible apply ev_v);exact rfl)|((with_reducible apply ret_src);exact rfl;exact rfl))
    exact hP vs hvl hv
end
end Lw

/-! Kn: the drawn functions. -/
namespace Lw
open PySem PySem.Spec PyProof.Rows L2 Dl
theorem repr_of {α : Type} {g : α → D} {p : α → Prop} : ∀ {ys : List D}, (∀ y ∈ ys, ∃ a, y = g a ∧ p a) → ∃ v : List α, ys = v.map g ∧ ∀ a ∈ v, p a
  | [], _ => ⟨[], rfl, fun _ h => by cases h⟩
  | y :: ys, h => by
    obtain ⟨v, h1, h2⟩ := repr_of (ys := ys) fun z hz => h z (by simp [hz])
    obtain ⟨a, ha, hp⟩ := h y (by simp)
    refine ⟨a :: v, by rw [ha, h1]; rfl, fun m hm => ?_⟩
    rcases List.mem_cons.mp hm with rfl | hm
    · exact hp
    · exact h2 m hm
theorem repr_at {α : Type} {g : α → D} {p : α → Prop} {ys : List D} (h : ∀ (i : Nat) (y : D), ys[i]? = some y → ∃ a, y = g a ∧ p a) : ∃ v : List α, ys = v.map g ∧ v.length = ys.length ∧ ∀ a ∈ v, p a := by
  obtain ⟨v, hv, hp⟩ := repr_of (g := g) (p := p) (ys := ys) fun y hy => by
    obtain ⟨i, hi⟩ := List.getElem?_of_mem hy
    exact h i y hi
  exact ⟨v, hv, by rw [hv, List.length_map], hp⟩
theorem repr_ati {α : Type} {g : α → D} : ∀ {ys : List D} {p : Nat → α → Prop}, (∀ (i : Nat) (y : D), ys[i]? = some y → ∃ a, y = g a ∧ p i a) → ∃ v : List α, ys = v.map g ∧ v.length = ys.length ∧ ∀ (i : Nat) (a : α), v[i]? = some a → p i a
  | [], _, _ => ⟨[], rfl, rfl, fun _ _ h => by simp at h⟩
  | y :: ys, p, h => by
    obtain ⟨v, h1, h2, h3⟩ := repr_ati (g := g) (ys := ys) (p := fun i => p (i + 1)) fun i z hz => h (i + 1) z (by simpa using hz)
    obtain ⟨a, ha, hp⟩ := h 0 y rfl
    refine ⟨a :: v, by rw [ha, h1]; rfl, by rw [List.length_cons, h2]; rfl, fun i b hb => ?_⟩
    cases i with
    | zero => cases hb; exact hp
    | succ i => exact h3 i b (by simpa using hb)
def F__law_function : FS := fun xs P => ∃ (a c : Addr), xs = [.src a c] ∧ ∀ f : Fn, FnOk f → P (fnD f)
abbrev N__law_function : List Str := ["source", "ins", "outs", "n", "weights", "i", "out", "starts", "firsts", "bumps", "edges", "k", "corner", "far"]
def t__law_function (K : Fg) : TS := (tSeq (tAsg (tTup (tCons (tOp (rAddU K) (tC (.int 1)) (tCall (liftSp K F__law_pick) [] E0 (tCons (tVar 0) (tCons (tC (.int 2)) tNil)))) (tCons (tOp (rAddU K) (tC (.int 1)) (tCall (liftSp K F__law_pick) [] E0 (tCons (tVar 0) (tCons (tC (.int 2)) tNil)))) (tCons (tCall (liftSp K F__law_of) [] E0 (tCons (tVar 0) (tCons (tLst (tCons (tC (.int 1)) (tCons (tC (.int 2)) (tCons (tC (.int 2)) (tCons (tC (.int 3)) (tCons (tC (.int 4)) tNil)))))) tNil))) tNil)))) (gTup K 3 (gCons (gName 1) (gCons (gName 2) (gCons (gName 3) gNil)))))
    (tSeq (tAsg (tLc (iRng1 (tCons (tVar 2) tNil)) (gName 6) tYes (tLc (iRng1 (tCons (tVar 1) tNil)) (gName 5) tYes (tCall (liftSp K F__law_of) [] E0 (tCons (tVar 0) (tCons (tLst (tCons (tC (.int 0)) (tCons (tC (.int 1)) (tCons (tC (.int 1)) (tCons (tC (.int 2)) (tCons (tC (.int 7)) tNil)))))) tNil))) [5]) [6]) (gName 4))
    (tSeq (tAsg (tLc (iRng1 (tCons (tVar 2) tNil)) (gName 6) tYes (tCall (liftSp K F__law_pick) [] E0 (tCons (tVar 0) (tCons (tVar 3) tNil))) [6]) (gName 7))
    (tSeq (tAsg (tLc (iRng1 (tCons (tVar 1) tNil)) (gName 5) tYes (tCall (liftSp K F__law_pick) [] E0 (tCons (tVar 0) (tCons (tC (.int 3)) tNil))) [5]) (gName 8))
    (tSeq (tAsg (tLc (iRng1 (tCons (tVar 2) tNil)) (gName 6) tYes (tLc (iRng1 (tCons (tVar 1) tNil)) (gName 5) tYes (tCall (liftSp K F__law_of) [] E0 (tCons (tVar 0) (tCons (tLst (tCons (tC (.int 0)) (tCons (tC (.int 1)) (tCons (tC (.int 3)) tNil)))) tNil))) [5]) [6]) (gName 9))
    (tSeq (tAsg (tLc (iRng1 (tCons (tCall (liftSp K F__law_of) [] E0 (tCons (tVar 0) (tCons (tLst (tCons (tC (.int 0)) (tCons (tC (.int 1)) (tCons (tC (.int 1)) (tCons (tC (.int 2)) tNil))))) tNil))) tNil)) (gName 11) tYes (tCB (rTup1 K) (tCons (tLc (iRng1 (tCons (tVar 1) tNil)) (gName 5) tYes (tCall (liftSp K F__law_pick) [] E0 (tCons (tVar 0) (tCons (tC (.int 4)) tNil))) [5]) tNil)) [11]) (gName 10))
    (tSeq (tAsg (tLc (iSeqU K (tVar 10)) (gName 12) (tTest (tOp (rI0 fun i j => .bl (decide (i > j))) (tCB (rMaxU K) (tCons (tVar 12) tNil)) (tC (.int 0)))) (tVar 12) [12]) (gName 10))
    (tSeq (tAsg (tLc (iRng1 (tCons (tVar 1) tNil)) (gName 5) tYes (tCB (rMaxU K) (tCons (tOp (rAddU K) (tLst (tCons (tOp (rIxU K) (tVar 8) (tVar 5)) tNil)) (tLc (iSeqU K (tVar 10)) (gName 12) tYes (tOp (rIxU K) (tVar 12) (tVar 5)) [12])) tNil)) [5]) (gName 13))
    (tRet (tTup (tCons (tVar 1) (tCons (tVar 2) (tCons (tVar 3) (tCons (tVar 4) (tCons (tVar 7) (tCons (tVar 8) (tCons (tVar 9) (tCons (tVar 10) (tCons (tVar 13) tNil)))))))))))))))))))
section
variable {K : Fg} {Γ : Ga} {xs : List Vl} {P : D → Prop}
theorem d__law_function (ha : argOk xs = true) (h : F__law_function xs P) : SD K Γ (slots N__law_function xs) (t__law_function K) { nx := fun δ' => P .none ∧ Kept xs δ', rt := fun d δ' => P d ∧ Kept xs δ' } := by
  obtain ⟨a, c, rfl, hP⟩ := h
  show SD K Γ [.src a c, .un, .un, .un, .un, .un, .un, .un, .un, .un, .un, .un, .un, .un] _ _
  unfold t__law_function
  repeat' (first|(with_reducible first|refine sd_seq ?_|refine sd_asgG ?_|refine ev_op ?_|refine ev_tup ?_|refine ev_call ?_|refine ea_cons ?_|refine ea_nil ?_|refine ev_ci ?_)|((with_reducible apply ev_vs);exact rfl)|((with_reducible apply post_call);exact rfl)|simp only [List.set_cons_zero, List.set_cons_succ, Bool.not_true, Bool.not_false])
  refine ⟨_, _, _, rfl, by decide, by decide, fun r1 h1 h1' => ?_⟩
  repeat' (first|(with_reducible first|refine ev_op ?_|refine ev_call ?_|refine ea_cons ?_|refine ea_nil ?_|refine ev_ci ?_|refine od_addi ?_)|((with_reducible apply ev_vs);exact rfl)|((with_reducible apply post_call);exact rfl))
  refine ⟨_, _, _, rfl, by decide, by decide, fun r2 h2 h2' => ?_⟩
  repeat' (first|(with_reducible first|refine ev_callB (F := F__law_of) ?_|refine ev_lst ?_|refine ea_cons ?_|refine ea_nil ?_|refine ev_ci ?_|refine od_addi ?_)|((with_reducible apply ev_vs);exact rfl)|((with_reducible apply post_call);exact rfl)|((with_reducible apply post_all);exact rfl;exact Nat.le_of_ble_eq_true rfl)|(with_reducible first|intro _)|simp only [List.set_cons_zero, List.set_cons_succ, Bool.not_true, Bool.not_false])
  refine ⟨_, _, _, rfl, by decide, by decide, fun d hd => ?_⟩
  obtain ⟨n, rfl, hn1, hn4⟩ : ∃ n : Int, d = .int n ∧ 1 ≤ n ∧ n ≤ 4 := by
    simp only [List.mem_cons, List.not_mem_nil, or_false] at hd
    rcases hd with rfl | rfl | rfl | rfl | rfl <;> exact ⟨_, rfl, by decide, by decide⟩
  obtain ⟨ins, hins⟩ : ∃ n : Nat, (1 + r1 : Int) = n := ⟨(1 + r1).toNat, by omega⟩
  obtain ⟨outs, houts⟩ : ∃ n : Nat, (1 + r2 : Int) = n := ⟨(1 + r2).toNat, by omega⟩
  rw [hins, houts]
  have hi1 : 1 ≤ ins ∧ ins ≤ 2 := by omega
  have ho1 : 1 ≤ outs ∧ outs ≤ 2 := by omega
  refine ⟨rfl, ?_⟩
  repeat' (first|(with_reducible first|refine sd_seq ?_|refine sd_asg ?_|refine ea_nil ?_|refine gd_name ?_|refine gds_cons ?_|refine gds_nil ?_|refine post_d ?_)|((with_reducible apply gd_tup);exact rfl)|((with_reducible apply post_all);exact rfl;exact Nat.le_of_ble_eq_true rfl)|simp only [List.set_cons_zero, List.set_cons_succ, Bool.not_true, Bool.not_false])
  refine ev_lcR (noA1 rfl rfl) (ei_rng1 ?_)
  repeat' (first|(with_reducible first|refine ea_cons ?_|refine ea_nil ?_)|((with_reducible apply ev_v);exact rfl))
  refine ⟨_, rfl, by omega, by omega, ?_⟩
  rw [rngD_len, Int.toNat_natCast]
  refine ⟨by omega, fun _ y => ∃ v : List Int, y = lI v ∧ v.length = ins ∧ ∀ x ∈ v, 0 ≤ x ∧ x ≤ 7, fun i x hx => ?_, fun qws ys hyl hys => ?_⟩
  · obtain ⟨hi, rfl⟩ := rng_inv hx
    repeat' (first|((with_reducible apply gv_name);exact (by simp))|simp only [List.set_cons_zero, List.set_cons_succ, Bool.not_true, Bool.not_false])
    refine ev_frz (ev_lcR (noA1 rfl rfl) (ei_rng1 ?_))
    repeat' (first|(with_reducible first|refine ea_cons ?_|refine ea_nil ?_)|((with_reducible apply ev_v);exact rfl))
    refine ⟨_, rfl, by omega, by omega, ?_⟩
    rw [rngD_len, Int.toNat_natCast]
    refine ⟨by omega, fun _ y => ∃ x : Int, y = .int x ∧ 0 ≤ x ∧ x ≤ 7, fun i x hx => ?_, fun q ys hyl hys => ?_⟩
    · obtain ⟨hi, rfl⟩ := rng_inv hx
      repeat' (first|(with_reducible first|refine ev_callB (F := F__law_of) ?_|refine ev_lst ?_|refine ea_cons ?_|refine ea_nil ?_|refine ev_ci ?_)|((with_reducible apply ev_vs);exact rfl)|((with_reducible apply post_call);exact rfl)|((with_reducible apply post_all);exact rfl;exact Nat.le_of_ble_eq_true rfl)|((with_reducible apply gv_name);exact (by simp))|(with_reducible first|intro _)|simp only [List.set_cons_zero, List.set_cons_succ, Bool.not_true, Bool.not_false])
      refine ⟨_, _, _, rfl, by decide, by decide, fun d hd => ⟨?_, ?_⟩⟩
      · simp only [List.mem_cons, List.not_mem_nil, or_false] at hd
        rcases hd with rfl | rfl | rfl | rfl | rfl <;> rfl
      · simp only [List.mem_cons, List.not_mem_nil, or_false] at hd
        rcases hd with rfl | rfl | rfl | rfl | rfl <;> exact ⟨_, rfl, _, rfl, by decide, by decide⟩
    · obtain ⟨v, rfl, hvl, hv⟩ := repr_at hys
      exact ⟨_, _, rfl, _, rfl, _, rfl, by omega, hv⟩
  obtain ⟨ws, rfl, wsl, wsp⟩ := repr_at hys
  rw [hyl] at wsl
  clear hyl hys
  repeat' (first|(with_reducible first|refine sd_seq ?_|refine sd_asg ?_|refine post_so ?_)|simp only [List.set_cons_zero, List.set_cons_succ, Bool.not_true, Bool.not_false])
  refine ev_lcR (noA1 rfl rfl) (ei_rng1 ?_)
  repeat' (first|(with_reducible first|refine ea_cons ?_|refine ea_nil ?_)|((with_reducible apply ev_v);exact rfl))
  refine ⟨_, rfl, by omega, by omega, ?_⟩
  rw [rngD_len, Int.toNat_natCast]
  refine ⟨by omega, fun _ y => ∃ x : Int, y = .int x ∧ 0 ≤ x ∧ x < n, fun i x hx => ?_, fun qss ys hyl hys => ?_⟩
  · obtain ⟨hi, rfl⟩ := rng_inv hx
    repeat' (first|(with_reducible first|refine ev_call ?_|refine ea_cons ?_|refine ea_nil ?_)|((with_reducible apply ev_v);exact rfl)|((with_reducible apply ev_vs);exact rfl)|((with_reducible apply post_call);exact rfl)|((with_reducible apply gv_name);exact (by simp))|simp only [List.set_cons_zero, List.set_cons_succ, Bool.not_true, Bool.not_false])
    refine ⟨_, _, _, rfl, by omega, by omega, fun r hr hr' => ?_⟩
    exact ⟨_, rfl, _, rfl, hr, by omega⟩
  obtain ⟨ss, rfl, ssl, ssp⟩ := repr_at hys
  rw [hyl] at ssl
  clear hyl hys
  repeat' (first|(with_reducible first|refine sd_seq ?_|refine sd_asg ?_|refine post_so ?_)|simp only [List.set_cons_zero, List.set_cons_succ, Bool.not_true, Bool.not_false])
  refine ev_lcR (noA1 rfl rfl) (ei_rng1 ?_)
  repeat' (first|(with_reducible first|refine ea_cons ?_|refine ea_nil ?_)|((with_reducible apply ev_v);exact rfl))
  refine ⟨_, rfl, by omega, by omega, ?_⟩
  rw [rngD_len, Int.toNat_natCast]
  refine ⟨by omega, fun _ y => ∃ x : Int, y = .int x ∧ 0 ≤ x ∧ x < 3, fun i x hx => ?_, fun qfs ys hyl hys => ?_⟩
  · obtain ⟨hi, rfl⟩ := rng_inv hx
    repeat' (first|(with_reducible first|refine ev_call ?_|refine ea_cons ?_|refine ea_nil ?_|refine ev_ci ?_)|((with_reducible apply ev_vs);exact rfl)|((with_reducible apply post_call);exact rfl)|((with_reducible apply gv_name);exact (by simp))|simp only [List.set_cons_zero, List.set_cons_succ, Bool.not_true, Bool.not_false])
    refine ⟨_, _, _, rfl, by omega, by omega, fun r hr hr' => ?_⟩
    exact ⟨_, rfl, _, rfl, hr, by omega⟩
  obtain ⟨fs, rfl, fsl, fsp⟩ := repr_at hys
  rw [hyl] at fsl
  clear hyl hys
  repeat' (first|(with_reducible first|refine sd_seq ?_|refine sd_asg ?_|refine post_so ?_)|simp only [List.set_cons_zero, List.set_cons_succ, Bool.not_true, Bool.not_false])
  refine ev_lcR (noA1 rfl rfl) (ei_rng1 ?_)
  repeat' (first|(with_reducible first|refine ea_cons ?_|refine ea_nil ?_)|((with_reducible apply ev_v);exact rfl))
  refine ⟨_, rfl, by omega, by omega, ?_⟩
  rw [rngD_len, Int.toNat_natCast]
  refine ⟨by omega, fun _ y => ∃ v : List Int, y = lI v ∧ v.length = ins ∧ ∀ x ∈ v, 0 ≤ x ∧ x ≤ 3, fun i x hx => ?_, fun qbs ys hyl hys => ?_⟩
  · obtain ⟨hi, rfl⟩ := rng_inv hx
    repeat' (first|((with_reducible apply gv_name);exact (by simp))|simp only [List.set_cons_zero, List.set_cons_succ, Bool.not_true, Bool.not_false])
    refine ev_frz (ev_lcR (noA1 rfl rfl) (ei_rng1 ?_))
    repeat' (first|(with_reducible first|refine ea_cons ?_|refine ea_nil ?_)|((with_reducible apply ev_v);exact rfl))
    refine ⟨_, rfl, by omega, by omega, ?_⟩
    rw [rngD_len, Int.toNat_natCast]
    refine ⟨by omega, fun _ y => ∃ x : Int, y = .int x ∧ 0 ≤ x ∧ x ≤ 3, fun i x hx => ?_, fun q ys hyl hys => ?_⟩
    · obtain ⟨hi, rfl⟩ := rng_inv hx
      repeat' (first|(with_reducible first|refine ev_callB (F := F__law_of) ?_|refine ev_lst ?_|refine ea_cons ?_|refine ea_nil ?_|refine ev_ci ?_)|((with_reducible apply ev_vs);exact rfl)|((with_reducible apply post_call);exact rfl)|((with_reducible apply post_all);exact rfl;exact Nat.le_of_ble_eq_true rfl)|((with_reducible apply gv_name);exact (by simp))|(with_reducible first|intro _)|simp only [List.set_cons_zero, List.set_cons_succ, Bool.not_true, Bool.not_false])
      refine ⟨_, _, _, rfl, by decide, by decide, fun d hd => ⟨?_, ?_⟩⟩
      · simp only [List.mem_cons, List.not_mem_nil, or_false] at hd
        rcases hd with rfl | rfl | rfl <;> rfl
      · simp only [List.mem_cons, List.not_mem_nil, or_false] at hd
        rcases hd with rfl | rfl | rfl <;> exact ⟨_, rfl, _, rfl, by decide, by decide⟩
    · obtain ⟨v, rfl, hvl, hv⟩ := repr_at hys
      exact ⟨_, _, rfl, _, rfl, _, rfl, by omega, hv⟩
  obtain ⟨bs, rfl, bsl, bsp⟩ := repr_at hys
  rw [hyl] at bsl
  clear hyl hys
  repeat' (first|(with_reducible first|refine sd_seq ?_|refine sd_asg ?_|refine post_so ?_)|simp only [List.set_cons_zero, List.set_cons_succ, Bool.not_true, Bool.not_false])
  refine ev_lcR (noA1 rfl rfl) (ei_rng1 ?_)
  repeat' (first|(with_reducible first|refine ev_callB (F := F__law_of) ?_|refine ev_lst ?_|refine ea_cons ?_|refine ea_nil ?_|refine ev_ci ?_)|((with_reducible apply ev_vs);exact rfl)|((with_reducible apply post_call);exact rfl)|((with_reducible apply post_all);exact rfl;exact Nat.le_of_ble_eq_true rfl)|(with_reducible first|intro _)|simp only [List.set_cons_zero, List.set_cons_succ, Bool.not_true, Bool.not_false])
  refine ⟨_, _, _, rfl, by decide, by decide, fun d hd => ?_⟩
  obtain ⟨ne, rfl, hne⟩ : ∃ n : Nat, d = .int n ∧ n ≤ 2 := by
    simp only [List.mem_cons, List.not_mem_nil, or_false] at hd
    rcases hd with rfl | rfl | rfl | rfl
    · exact ⟨0, rfl, by decide⟩
    · exact ⟨1, rfl, by decide⟩
    · exact ⟨1, rfl, by decide⟩
    · exact ⟨2, rfl, by decide⟩
  refine ⟨rfl, ?_⟩
  repeat' (first|(with_reducible first|refine ea_nil ?_))
  refine ⟨_, rfl, by omega, by omega, ?_⟩
  rw [rngD_len, Int.toNat_natCast]
  refine ⟨by omega, fun _ y => ∃ v : List Int, y = tI v ∧ v.length = ins ∧ ∀ x ∈ v, 0 ≤ x ∧ x ≤ 3, fun i x hx => ?_, fun qes ys hyl hys => ?_⟩
  · obtain ⟨hi, rfl⟩ := rng_inv hx
    repeat' (first|(with_reducible first|refine ev_cb1 ?_|refine ea_cons ?_)|((with_reducible apply gv_name);exact (by simp))|simp only [List.set_cons_zero, List.set_cons_succ, Bool.not_true, Bool.not_false])
    refine ev_lcR (noA1 rfl rfl) (ei_rng1 ?_)
    repeat' (first|(with_reducible first|refine ea_cons ?_|refine ea_nil ?_)|((with_reducible apply ev_v);exact rfl))
    refine ⟨_, rfl, by omega, by omega, ?_⟩
    rw [rngD_len, Int.toNat_natCast]
    refine ⟨by omega, fun _ y => ∃ x : Int, y = .int x ∧ 0 ≤ x ∧ x ≤ 3, fun i x hx => ?_, fun q ys hyl hys => ?_⟩
    · obtain ⟨hi, rfl⟩ := rng_inv hx
      repeat' (first|(with_reducible first|refine ev_call ?_|refine ea_cons ?_|refine ea_nil ?_|refine ev_ci ?_)|((with_reducible apply ev_vs);exact rfl)|((with_reducible apply post_call);exact rfl)|((with_reducible apply gv_name);exact (by simp))|simp only [List.set_cons_zero, List.set_cons_succ, Bool.not_true, Bool.not_false])
      refine ⟨_, _, _, rfl, by omega, by omega, fun r hr hr' => ?_⟩
      exact ⟨_, rfl, _, rfl, hr, by omega⟩
    · obtain ⟨v, rfl, hvl, hv⟩ := repr_at hys
      repeat' (first|(with_reducible first|refine ea_nil ?_|refine post_d ?_)|((with_reducible apply cd_tupl);exact rfl))
      exact ⟨_, rfl, by omega, hv⟩
  obtain ⟨es, rfl, esl, esp⟩ := repr_at hys
  rw [hyl] at esl
  clear hyl hys
  refine ⟨_, rfl, ?_⟩
  refine sd_frz 10 rfl ?_
  repeat' (first|(with_reducible first|refine sd_seq ?_|refine sd_asg ?_)|simp only [List.set_cons_zero, List.set_cons_succ, Bool.not_true, Bool.not_false])
  refine ev_lcFm es tI (fun c => if c.any (fun x => decide (0 < x)) then some (tI c) else none) (noA1 rfl rfl) (ei_Ul ?_)
  repeat' (first|(with_reducible first|refine post_l ?_)|((with_reducible apply ev_v);exact rfl)|simp only [List.set_cons_zero, List.set_cons_succ, Bool.not_true, Bool.not_false])
  refine ⟨by trivial, by omega, fun u c hc => ?_, fun qfe => ?_⟩
  · obtain ⟨hcl, hcb⟩ := esp c (List.mem_of_getElem? hc)
    repeat' (first|(with_reducible first|refine et_test ?_|refine ev_op ?_|refine ev_cb1 ?_|refine ea_cons ?_|refine ea_nil ?_)|((with_reducible apply ev_v);exact rfl)|((with_reducible apply gv_name);exact (by simp)))
    refine cd_maxt (by intro z; rw [z] at hcl; simp at hcl; omega) fun m hm hmx => ?_
    repeat' (first|(with_reducible first|refine ev_ci ?_|refine od_I0b ?_|refine post_b ?_))
    refine ifB (fun h => ?_) (fun h => ?_)
    · repeat' (first|(with_reducible first|refine post_d ?_)|((with_reducible apply ev_v);exact rfl))
      rw [if_pos (List.any_eq_true.mpr ⟨m, hm, by have := of_decide_eq_true h; exact decide_eq_true this⟩)]
    · rw [if_neg fun z => by
        obtain ⟨x, hx, hx0⟩ := List.any_eq_true.mp z
        have h1 := of_decide_eq_false h
        have h2 := of_decide_eq_true hx0
        have h3 := hmx x hx
        omega]
  rw [fm_if]
  generalize hes : es.filter (fun c => c.any fun x => decide (0 < x)) = es'
  have hes' : ∀ c ∈ es', (c.length = ins ∧ ∀ x ∈ c, 0 ≤ x ∧ x ≤ 3) ∧ ∃ x ∈ c, 0 < x := fun c hc => by
    rw [← hes] at hc
    obtain ⟨h1, h2⟩ := List.mem_filter.mp hc
    obtain ⟨x, hx, hx0⟩ := List.any_eq_true.mp h2
    exact ⟨esp c h1, x, hx, of_decide_eq_true hx0⟩
  have hesl : es'.length ≤ 2 := by
    rw [← hes]
    exact Nat.le_trans (List.length_filter_le _ _) (by omega)
  refine ⟨_, rfl, ?_⟩
  refine sd_frz 10 rfl ?_
  repeat' (first|(with_reducible first|refine sd_seq ?_|refine sd_asg ?_)|simp only [List.set_cons_zero, List.set_cons_succ, Bool.not_true, Bool.not_false])
  refine ev_lcR (noA1 rfl rfl) (ei_rng1 ?_)
  repeat' (first|(with_reducible first|refine ea_cons ?_|refine ea_nil ?_)|((with_reducible apply ev_v);exact rfl))
  refine ⟨_, rfl, by omega, by omega, ?_⟩
  rw [rngD_len, Int.toNat_natCast]
  refine ⟨by omega, fun i y => ∃ x : Int, y = .int x ∧ (0 ≤ x ∧ x ≤ 3) ∧ fs.getD i 0 ≤ x ∧ ∀ c ∈ es', c.getD i 0 ≤ x, fun i x hx => ?_, fun q ys hyl hys => ?_⟩
  · obtain ⟨hi, rfl⟩ := rng_inv hx
    rw [Int.zero_add]
    have hfi : fs[i]? = some (fs.getD i 0) := by rw [List.getD_eq_getElem?_getD, List.getElem?_eq_getElem (by omega)]; rfl
    have hfm := fsp _ (List.mem_of_getElem? hfi)
    repeat' (first|(with_reducible first|refine ev_op ?_|refine ev_lst ?_|refine ev_cb1 ?_|refine ea_cons ?_)|((with_reducible apply ev_v);exact rfl)|((with_reducible apply ev_vo);exact rfl)|((with_reducible apply gv_name);exact (by simp))|simp only [List.set_cons_zero, List.set_cons_succ, Bool.not_true, Bool.not_false])
    refine od_ixl rfl (atI_nat (by rw [List.getElem?_map, hfi]; rfl)) ?_
    repeat' (first|(with_reducible first|refine ea_nil ?_)|((with_reducible apply post_all);exact rfl;exact Nat.le_of_ble_eq_true rfl)|(with_reducible first|intro _)|simp only [List.set_cons_zero, List.set_cons_succ, Bool.not_true, Bool.not_false])
    refine ev_lcMm es' tI (fun c => .int (c.getD i 0)) (noA1 rfl rfl) (ei_Ul ?_)
    repeat' (first|(with_reducible first|refine post_l ?_)|((with_reducible apply ev_v);exact rfl)|simp only [List.set_cons_zero, List.set_cons_succ, Bool.not_true, Bool.not_false])
    refine ⟨by trivial, by omega, fun u c hc => ?_, fun p => ?_⟩
    · have hcl := (hes' c (List.mem_of_getElem? hc)).1.1
      have hci : c[i]? = some (c.getD i 0) := by rw [List.getD_eq_getElem?_getD, List.getElem?_eq_getElem (by omega)]; rfl
      repeat' (first|(with_reducible first|refine ev_op ?_)|((with_reducible apply ev_v);exact rfl)|((with_reducible apply gv_name);exact (by simp)))
      refine od_ixt (atI_nat (by rw [List.getElem?_map, hci]; rfl)) ?_
      repeat' (first|simp only [List.set_cons_zero, List.set_cons_succ, Bool.not_true, Bool.not_false])
    · skip
      refine od_addl rfl rfl (by rw [List.length_map]; show 1 + _ ≤ _; omega) fun p2 => ?_
      repeat' (first|(with_reducible first|refine ea_nil ?_))
      refine cd_maxl (ns := fs.getD i 0 :: es'.map fun c => c.getD i 0) (by rw [List.map_cons, List.map_map]; rfl) (by simp) fun m hm hmx => ?_
      refine ⟨_, rfl, _, rfl, ?_, hmx _ (by simp), fun c hc => hmx _ (List.mem_cons_of_mem _ (List.mem_map.mpr ⟨c, hc, rfl⟩))⟩
      rcases List.mem_cons.mp hm with rfl | hm
      · omega
      · obtain ⟨c, hc, rfl⟩ := List.mem_map.mp hm
        obtain ⟨⟨hcl, hcb⟩, _⟩ := hes' c hc
        have hci : c[i]? = some (c.getD i 0) := by rw [List.getD_eq_getElem?_getD, List.getElem?_eq_getElem (by omega)]; rfl
        exact hcb _ (List.mem_of_getElem? hci)
  obtain ⟨far, rfl, farl, farp⟩ := repr_ati (g := PyData.int) (p := fun i x => (0 ≤ x ∧ x ≤ 3) ∧ fs.getD i 0 ≤ x ∧ ∀ c ∈ es', c.getD i 0 ≤ x) hys
  rw [hyl] at farl
  clear hyl hys
  refine ⟨_, rfl, ?_⟩
  refine sd_frz 4 rfl ?_
  refine sd_frz 7 rfl ?_
  refine sd_frz 8 rfl ?_
  refine sd_frz 9 rfl ?_
  refine sd_frz 13 rfl ?_
  repeat' (first|(with_reducible first|refine sd_ret ?_|refine ev_tup ?_|refine ea_cons ?_|refine ea_nil ?_|refine post_d ?_)|((with_reducible apply ev_v);exact rfl)|((with_reducible apply post_all);exact rfl;exact Nat.le_of_ble_eq_true rfl)|((with_reducible apply ret_src);exact rfl;exact rfl)|simp only [List.set_cons_zero, List.set_cons_succ, Bool.not_true, Bool.not_false])
  have hfP := hP ⟨ins, n, ws.zip (ss.zip bs), fs, es', far⟩ {
    ins := hi1
    outs := by show 1 ≤ (ws.zip (ss.zip bs)).length ∧ (ws.zip (ss.zip bs)).length ≤ 2; rw [List.length_zip, List.length_zip]; omega
    n := ⟨hn1, hn4⟩
    ws := fun r hr => wsp r.1 (List.of_mem_zip hr).1
    ss := fun r hr => ssp r.2.1 (List.of_mem_zip (List.of_mem_zip hr).2).1
    bs := fun r hr => bsp r.2.2 (List.of_mem_zip (List.of_mem_zip hr).2).2
    fs := ⟨fsl, fun x hx => by have := fsp x hx; show 0 ≤ x ∧ x ≤ 2; omega⟩
    es := hesl
    ec := fun c hc => by
      obtain ⟨⟨h1, h2⟩, h3⟩ := hes' c hc
      refine ⟨h1, h2, h3, (leB_iff (by show c.length = far.length; omega)).mpr fun j a b ha hb => ?_⟩
      have := (farp j b hb).2.2 c hc
      rwa [getD_of ha] at this
    far := ⟨farl, fun x hx => by
      obtain ⟨j, hj⟩ := List.getElem?_of_mem hx
      exact (farp j x hj).1⟩
    ff := (leB_iff (by show fs.length = far.length; omega)).mpr fun j a b ha hb => by
      have := (farp j b hb).2.1
      rwa [getD_of ha] at this }
  have e1 : (ws.zip (ss.zip bs)).map (fun r => lI r.1) = ws.map lI := by
    rw [show (fun r : List Int × Int × List Int => lI r.1) = lI ∘ Prod.fst from rfl, ← List.map_map, List.map_fst_zip (by rw [List.length_zip]; omega)]
  have e2 : (ws.zip (ss.zip bs)).map (fun r => r.2.1) = ss := by
    rw [show (fun r : List Int × Int × List Int => r.2.1) = Prod.fst ∘ Prod.snd from rfl, ← List.map_map, List.map_snd_zip (by rw [List.length_zip]; omega), List.map_fst_zip (by omega)]
  have e3 : (ws.zip (ss.zip bs)).map (fun r => lI r.2.2) = bs.map lI := by
    rw [show (fun r : List Int × Int × List Int => lI r.2.2) = lI ∘ (Prod.snd ∘ Prod.snd) from rfl, ← List.map_map, ← List.map_map, List.map_snd_zip (by rw [List.length_zip]; omega), List.map_snd_zip (by omega)]
  have e4 : (ws.zip (ss.zip bs)).length = outs := by rw [List.length_zip, List.length_zip]; omega
  unfold fnD at hfP
  dsimp only at hfP
  rw [e1, e2, e3, e4] at hfP
  exact hfP
end
end Lw

/-! Kp: a machine being built: places so far, lines so far. -/
namespace Lw
open PySem PySem.Spec PyProof.Rows L2 Dl
def StepAt (f : Fn) (ps : List (List Int)) (p : List Int) (i : Nat) (s : Step) : Prop :=
  (f.never (addv p (unit f.ins i 1)) = true → s = none) ∧
  (f.never (addv p (unit f.ins i 1)) = false → ∃ b, ps[b]? = some (f.at (addv p (unit f.ins i 1))) ∧ s = some (b, subv (f.given (addv p (unit f.ins i 1))) (f.given p)))
theorem get_more {α : Type} {l l' : List α} {i : Nat} {x : α} (h : l[i]? = some x) : (l ++ l')[i]? = some x := by
  rw [List.getElem?_append_left (List.getElem?_eq_some_iff.mp h).1]
  exact h
theorem StepAt.more {f : Fn} {ps : List (List Int)} {p : List Int} {i : Nat} {s : Step} (h : StepAt f ps p i s) (qs : List (List Int)) : StepAt f (ps ++ qs) p i s :=
  ⟨h.1, fun z => by
    obtain ⟨b, h1, h2⟩ := h.2 z
    exact ⟨b, get_more h1, h2⟩⟩
structure Pls (f : Fn) (ps : List (List Int)) : Prop where
  nd : ps.Nodup
  zero : ps[0]? = some (List.replicate f.ins 0)
  pl : ∀ p ∈ ps, p.length = f.ins ∧ (∀ x ∈ p, 0 ≤ x) ∧ f.at p = p ∧ f.never p = false
/-- all of length n, entries below b -/
def box (b : Nat) : Nat → List (List Int)
  | 0 => [[]]
  | n + 1 => ((List.range b).map fun (x : Nat) => (box b n).map fun r => (x : Int) :: r).flatten
theorem box_len (b : Nat) : ∀ n, (box b n).length = b ^ n
  | 0 => rfl
  | n + 1 => by
    show (((List.range b).map fun (x : Nat) => (box b n).map fun r => (x : Int) :: r).flatten).length = _
    rw [List.length_flatten, List.map_map]
    have e : (List.length ∘ fun (x : Nat) => (box b n).map fun r => (x : Int) :: r) = fun _ => b ^ n := by
      funext x
      show ((box b n).map _).length = _
      rw [List.length_map, box_len b n]
    rw [e, List.map_const', List.sum_replicate_nat, List.length_range, Nat.pow_succ, Nat.mul_comm]
theorem box_mem {b : Nat} : ∀ {p : List Int}, (∀ x ∈ p, 0 ≤ x ∧ x < b) → p ∈ box b p.length
  | [], _ => by exact List.mem_singleton.mpr rfl
  | x :: p, h => by
    have hx := h x (by simp)
    show x :: p ∈ ((List.range b).map fun (x : Nat) => (box b p.length).map fun r => (x : Int) :: r).flatten
    refine List.mem_flatten.mpr ⟨_, List.mem_map.mpr ⟨x.toNat, List.mem_range.mpr (by omega), rfl⟩, List.mem_map.mpr ⟨p, box_mem fun y hy => h y (by simp [hy]), ?_⟩⟩
    rw [Int.toNat_of_nonneg hx.1]
theorem at_low {n : Int} (hn : 0 < n) : ∀ {xs ts : List Int}, xs.length = ts.length → (∀ t ∈ ts, t ≤ 3) → n ≤ 4 → atv n xs ts = xs → ∀ x ∈ xs, x < 7
  | [], _, _, _, _, _ => fun _ h => by cases h
  | _ :: _, [], h, _, _, _ => by simp at h
  | x :: xs, t :: ts, hl, ht, h4, h => fun y hy => by
    have h' : (if x < t + n then x else t + (x - t) % n) :: atv n xs ts = x :: xs := h
    obtain ⟨h1, h2⟩ := List.cons.inj h'
    rcases List.mem_cons.mp hy with rfl | hy
    · have := ht t (by simp)
      have h3 := Int.emod_lt_of_pos (y - t) hn
      split at h1 <;> omega
    · exact at_low hn (by simpa using hl) (fun a ha => ht a (by simp [ha])) h4 h2 y hy
theorem at_nonneg {n : Int} (hn : 0 < n) : ∀ {xs ts : List Int}, (∀ t ∈ ts, 0 ≤ t) → (∀ x ∈ xs, 0 ≤ x) → ∀ x ∈ atv n xs ts, 0 ≤ x
  | [], _, _, _ => fun _ h => by simp [atv] at h
  | _ :: _, [], _, _ => fun _ h => by simp [atv] at h
  | x :: xs, t :: ts, ht, hx => fun y hy => by
    have hy' : y ∈ (if x < t + n then x else t + (x - t) % n) :: atv n xs ts := hy
    rcases List.mem_cons.mp hy' with rfl | hy
    · have h0 := ht t (by simp)
      have h1 := hx x (by simp)
      have h3 := Int.emod_nonneg (x - t) (show n ≠ 0 by omega)
      split <;> omega
    · exact at_nonneg hn (fun a ha => ht a (by simp [ha])) (fun a ha => hx a (by simp [ha])) y hy
section
variable {f : Fn} {ps : List (List Int)}
theorem Pls.most (h : Pls f ps) (k : FnOk f) : ps.length ≤ 49 := by
  have hb : ∀ p ∈ ps, p ∈ box 7 f.ins := fun p hp => by
    obtain ⟨h1, h2, h3, h4⟩ := h.pl p hp
    have hlow := at_low (n := f.n) (by have := k.n.1; omega) (xs := p) (ts := f.far) (by rw [h1, k.far.1]) (fun t ht => (k.far.2 t ht).2) k.n.2 h3
    rw [← h1]
    exact box_mem fun x hx => ⟨h2 x hx, hlow x hx⟩
  have h1 := nodup_sub_len h.nd hb
  rw [box_len] at h1
  have h2 : 7 ^ f.ins ≤ 7 ^ 2 := Nat.pow_le_pow_right (by decide) k.ins.2
  omega
theorem Pls.start (k : FnOk f) : Pls f [List.replicate f.ins 0] where
  nd := by simp
  zero := rfl
  pl := fun p hp => by
    rw [List.mem_singleton.mp hp]
    refine ⟨List.length_replicate, fun x hx => by rw [(List.mem_replicate.mp hx).2]; exact Int.le_refl _, ?_, ?_⟩
    · have hi := k.ins.1
      have hfl := k.far.1
      have e := at_unit k (i := 0) (by omega) 0
      rw [unit_zero] at e
      rw [e]
      have ht : f.far[0]? = some (f.far[0]'(by omega)) := List.getElem?_eq_getElem _
      have ht0 := (k.far.2 _ (List.mem_of_getElem? ht)).1
      rw [getD_of ht, if_pos (by have := k.n.1; omega), unit_zero]
    · rw [Bool.eq_false_iff]
      intro h
      rw [← unit_zero f.ins 0, never_unit k (by have := k.ins.1; omega)] at h
      obtain ⟨c, hc, hc0⟩ := h
      have := (axis_at k (by have := k.ins.1; omega) hc).1
      omega
theorem Pls.more (h : Pls f ps) (k : FnOk f) {p : List Int} {i : Nat} (hp : p ∈ ps) (hn : f.never (addv p (unit f.ins i 1)) = false) (hni : f.at (addv p (unit f.ins i 1)) ∉ ps) : Pls f (ps ++ [f.at (addv p (unit f.ins i 1))]) where
  nd := by
    rw [List.nodup_append]
    refine ⟨h.nd, by simp, fun a ha b hb e => ?_⟩
    rw [List.mem_singleton.mp hb] at e
    exact hni (e ▸ ha)
  zero := get_more h.zero
  pl := fun q hq => by
    rcases List.mem_append.mp hq with hq | hq
    · exact h.pl q hq
    · rw [List.mem_singleton.mp hq]
      obtain ⟨h1, h2, h3, h4⟩ := h.pl p hp
      have hn1 := k.n.1
      have hfl := k.far.1
      have hl : (addv p (unit f.ins i 1)).length = f.far.length := by rw [addv_len (by rw [h1, unit_len]), unit_len, hfl]
      have hs := sim_at (n := f.n) (by omega) hl
      refine ⟨by rw [at_len hl, hfl], at_nonneg (by omega) (fun t ht => (k.far.2 t ht).1) fun x hx => ?_, (hs.at_eq (by omega)).symm, by rw [← hn]; exact (never_sim k hs).symm⟩
      obtain ⟨j, hj⟩ := List.getElem?_of_mem hx
      have hjl := (List.getElem?_eq_some_iff.mp hj).1
      rw [hl, hfl] at hjl
      have hpj : p[j]? = some (p[j]'(by omega)) := List.getElem?_eq_getElem _
      have hp0 := h2 _ (List.mem_of_getElem? hpj)
      rw [addv_get hpj (unit_get hjl)] at hj
      have := Option.some.inj hj
      split at this <;> omega
def RowsM (f : Fn) (ps : List (List Int)) (ls : List (List Step)) : Prop :=
  ∀ (a : Nat) (l : List Step), ls[a]? = some l → l.length = f.ins ∧ ∃ p, ps[a]? = some p ∧ ∀ (i : Nat) (s : Step), l[i]? = some s → StepAt f ps p i s
theorem RowsM.more {ls : List (List Step)} (h : RowsM f ps ls) (qs : List (List Int)) : RowsM f (ps ++ qs) ls := fun a l hl => by
  obtain ⟨h1, p, hp, h2⟩ := h a l hl
  exact ⟨h1, p, get_more hp, fun i s hs => (h2 i s hs).more qs⟩
theorem RowsM.next {ls : List (List Step)} (h : RowsM f ps ls) {l : List Step} {p : List Int} (hl : l.length = f.ins) (hp : ps[ls.length]? = some p) (hs : ∀ (i : Nat) (s : Step), l[i]? = some s → StepAt f ps p i s) : RowsM f ps (ls ++ [l]) := fun a l' ha => by
  by_cases h1 : a < ls.length
  · rw [List.getElem?_append_left h1] at ha
    exact h a l' ha
  · have hlt := (List.getElem?_eq_some_iff.mp ha).1
    rw [List.length_append, List.length_singleton] at hlt
    obtain rfl : a = ls.length := by omega
    rw [List.getElem?_append_right (Nat.le_refl _), Nat.sub_self] at ha
    obtain rfl := Option.some.inj ha
    exact ⟨hl, p, hp, hs⟩
theorem isM_of (P : Pls f ps) (k : FnOk f) {ls : List (List Step)} (R : RowsM f ps ls) (hl : ls.length = ps.length) : IsM f ⟨f.ins, f.rows.length, ls⟩ ps where
  ins := rfl
  outs := rfl
  len := hl
  wide := fun l h => by
    obtain ⟨a, ha⟩ := List.getElem?_of_mem h
    exact (R a l ha).1
  nd := P.nd
  zero := P.zero
  most := by have := P.most k; omega
  pl := P.pl
  st0 := fun a p i hp hi hn => by
    have ha := (List.getElem?_eq_some_iff.mp hp).1
    have hla : ls[a]? = some (ls[a]'(by omega)) := List.getElem?_eq_getElem _
    obtain ⟨h1, q, hq, h2⟩ := R a _ hla
    obtain rfl := Option.some.inj (hp.symm.trans hq)
    have hli := List.getElem?_eq_getElem (l := ls[a]'(by omega)) (i := i) (by omega)
    have h3 := (h2 i _ hli).1 hn
    show (ls.getD a []).getD i none = none
    rw [List.getD_eq_getElem?_getD, List.getD_eq_getElem?_getD, hla, Option.getD_some, hli, Option.getD_some]
    exact h3
  st1 := fun a p i hp hi hn => by
    have ha := (List.getElem?_eq_some_iff.mp hp).1
    have hla : ls[a]? = some (ls[a]'(by omega)) := List.getElem?_eq_getElem _
    obtain ⟨h1, q, hq, h2⟩ := R a _ hla
    obtain rfl := Option.some.inj (hp.symm.trans hq)
    have hli := List.getElem?_eq_getElem (l := ls[a]'(by omega)) (i := i) (by omega)
    obtain ⟨b, hb, h3⟩ := (h2 i _ hli).2 hn
    refine ⟨b, hb, ?_⟩
    show (ls.getD a []).getD i none = _
    rw [List.getD_eq_getElem?_getD, List.getD_eq_getElem?_getD, hla, Option.getD_some, hli, Option.getD_some]
    exact h3
end
end Lw

/-! Ko: _law_machine. -/
namespace Lw
open PySem PySem.Spec PyProof.Rows L2 Dl
def F__law_machine : FS := fun xs P => ∃ (f : Fn), xs = [.d (fnD f)] ∧ FnOk f ∧ ∀ (m : Mach) (ps : List (List Int)), IsM f m ps → P (.tuple [machD m, .list (ps.map tI)])
abbrev N__law_machine : List Str := ["function", "places", "steps", "k", "line", "i", "late", "given", "a", "b"]
def t__law_machine (K : Fg) : TS := (tSeq (tPar3 1 2 3 (tCons (tLst (tCons (tOp (rMulU K) (tTup (tCons (tC (.int 0)) tNil)) (tOp (rIxU K) (tVar 0) (tC (.int 0)))) tNil)) (tCons (tLst tNil) (tCons (tC (.int 0)) tNil))))
    (tSeq (tWhile (tTest (tOp (rI0 fun i j => .bl (decide (i < j))) (tVar 3) (tCB (rLenU K) (tCons (tVar 1) tNil)))) (tSeq (tAsg (tLst tNil) (gName 4))
    (tSeq (tFor (iRng1 (tCons (tOp (rIxU K) (tVar 0) (tC (.int 0))) tNil)) (gName 5) (tSeq (tAsg (tCall (liftSp K F__law_one_more) [] E0 (tCons (tOp (rIxU K) (tVar 1) (tVar 3)) (tCons (tVar 5) tNil))) (gName 6))
    (tIfS (tB (tCall (liftSp K F__law_is_never) [] E0 (tCons (tVar 0) (tCons (tVar 6) tNil)))) (tDrop (tBM K "list" rAppend (tVar 4) (tCons (tC .non) tNil))) (tSeq (tAsg (tLc (iZipK K false (tCons (tCall (liftSp K F__law_given) [] E0 (tCons (tVar 0) (tCons (tOp (rIxU K) (tVar 1) (tVar 3)) tNil))) (tCons (tCall (liftSp K F__law_given) [] E0 (tCons (tVar 0) (tCons (tVar 6) tNil))) tNil))) (gTup K 2 (gCons (gName 8) (gCons (gName 9) gNil))) tYes (tOp (rI0 fun i j => .int (i - j)) (tVar 9) (tVar 8)) [8, 9]) (gName 7))
    (tSeq (tAsg (tCall (liftSp K F__law_at) [] E0 (tCons (tVar 0) (tCons (tVar 6) tNil))) (gName 6))
    (tSeq (tAsg (tOp (rAddU K) (tVar 1) (tOp (rMulU K) (tLst (tCons (tVar 6) tNil)) (tCB rInt1 (tCons (tOp (rNotInU K) (tVar 6) (tVar 1)) tNil)))) (gName 1))
    (tDrop (tBM K "list" rAppend (tVar 4) (tCons (tTup (tCons (tBM K "list" (rIndexD K) (tVar 1) (tCons (tVar 6) tNil)) (tCons (tCB (rTup1 K) (tCons (tVar 7) tNil)) tNil))) tNil)))))))))
    (tSeq (tDrop (tBM K "list" rAppend (tVar 2) (tCons (tCB (rTup1 K) (tCons (tVar 4) tNil)) tNil)))
    (tAsg (tOp (rAddU K) (tVar 3) (tC (.int 1))) (gName 3))))))
    (tRet (tTup (tCons (tTup (tCons (tOp (rIxU K) (tVar 0) (tC (.int 0))) (tCons (tOp (rIxU K) (tVar 0) (tC (.int 1))) (tCons (tCB (rTup1 K) (tCons (tVar 2) tNil)) tNil)))) (tCons (tVar 1) tNil))))))
theorem zip_sub : ∀ a b : List Int, (a.zip b).map (fun p : Int × Int => PyData.int (p.2 - p.1)) = (subv b a).map .int
  | [], [] => rfl
  | [], _ :: _ => rfl
  | _ :: _, [] => rfl
  | x :: a, y :: b => congrArg (_ :: ·) (zip_sub a b)
theorem inD_tI (q : List Int) (ps : List (List Int)) : inD (tI q) (ps.map tI) = decide (q ∈ ps) := by
  unfold inD
  rw [List.any_map, Bool.eq_iff_iff, List.any_eq_true, decide_eq_true_iff]
  constructor
  · rintro ⟨p, hp, h⟩
    have h' : PyData.eqv (tI p) (tI q) = true := h
    rw [eqv_tI] at h'
    exact of_decide_eq_true h' ▸ hp
  · intro h
    exact ⟨q, h, by show PyData.eqv (tI q) (tI q) = true; rw [eqv_tI]; exact decide_eq_true rfl⟩
theorem get_app {α : Type} {Q : Nat → α → Prop} {l : List α} {x : α} {n : Nat} (hl : l.length = n) (h : ∀ (i : Nat) (s : α), l[i]? = some s → Q i s) (hx : Q n x) : ∀ (i : Nat) (s : α), (l ++ [x])[i]? = some s → Q i s := fun i s hs => by
  subst hl
  by_cases h1 : i < l.length
  · rw [List.getElem?_append_left h1] at hs
    exact h i s hs
  · have hlt := (List.getElem?_eq_some_iff.mp hs).1
    rw [List.length_append, List.length_singleton] at hlt
    obtain rfl : i = l.length := by omega
    rw [List.getElem?_append_right (Nat.le_refl _), Nat.sub_self] at hs
    cases hs
    exact hx
theorem shp_ps (ps : List (List Int)) : SeqAt.shaped (.list (ps.map tI)) = true := (shp_lst (n := 1) fun d hd => by
  obtain ⟨p, _, rfl⟩ := List.mem_map.mp hd
  exact shp_tI p).ok (by decide)
theorem ps_next {f : Fn} (k : FnOk f) {ps : List (List Int)} {ls : List (List Step)} {p : List Int} {l : List Step} {t : Nat} (P : Pls f ps) (R : RowsM f ps ls) (hp : ps[ls.length]? = some p) (hs : ∀ (i : Nat) (s : Step), l[i]? = some s → StepAt f ps p i s)
    (hn : f.never (addv p (unit f.ins t 1)) = false) : ∃ (ps2 : List (List Int)) (b : Nat), Pls f ps2 ∧ RowsM f ps2 ls ∧ ps2[ls.length]? = some p ∧ (∀ (i : Nat) (s : Step), l[i]? = some s → StepAt f ps2 p i s) ∧ ps2[b]? = some (f.at (addv p (unit f.ins t 1))) ∧
      ps.map tI ++ (List.replicate (if (!decide (f.at (addv p (unit f.ins t 1)) ∈ ps)) = true then (1 : Int) else 0).toNat [tI (f.at (addv p (unit f.ins t 1)))]).flatten = ps2.map tI := by
  by_cases hm : f.at (addv p (unit f.ins t 1)) ∈ ps
  · obtain ⟨b, hb⟩ := List.getElem?_of_mem hm
    refine ⟨ps, b, P, R, hp, hs, hb, ?_⟩
    rw [decide_eq_true hm]
    exact List.append_nil _
  · refine ⟨_, ps.length, P.more k (List.mem_of_getElem? hp) hn hm, R.more _, get_more hp, fun i s h => (hs i s h).more _, by rw [List.getElem?_append_right (Nat.le_refl _), Nat.sub_self]; rfl, ?_⟩
    rw [decide_eq_false hm, List.map_append]
    rfl
section
variable {K : Fg} {Γ : Ga} {xs : List Vl} {P : D → Prop}
theorem d__law_machine (ha : argOk xs = true) (h : F__law_machine xs P) : SD K Γ (slots N__law_machine xs) (t__law_machine K) { nx := fun δ' => P .none ∧ Kept xs δ', rt := fun d δ' => P d ∧ Kept xs δ' } := by
  obtain ⟨f, rfl, k, hP⟩ := h
  show SD K Γ [.d (fnD f), .un, .un, .un, .un, .un, .un, .un, .un, .un] _ _
  unfold t__law_machine fnD
  have hin := k.ins
  repeat' (first|(with_reducible first|refine sd_seq ?_|refine ev_op ?_|refine ev_tup ?_|refine ev_lst ?_|refine ea_cons ?_|refine ea_nil ?_|refine ev_ci ?_|refine sd_par3 (by decide) (by decide) (by decide) ?_)|((with_reducible apply ev_v);exact rfl)|((with_reducible apply od_ixt);exact rfl)|((with_reducible apply post_all);exact rfl;exact Nat.le_of_ble_eq_true rfl)|simp only [List.set_cons_zero, List.set_cons_succ, Bool.not_true, Bool.not_false])
  refine od_mult (by omega) (by omega) (by decide) ?_
  have ez : (List.replicate (f.ins : Int).toNat [PyData.int 0]).flatten = (List.replicate f.ins 0).map PyData.int := by
    rw [Int.toNat_natCast, List.flatten_replicate_singleton, List.map_replicate]
  rw [ez]
  repeat' (first|(with_reducible first|refine sd_seq ?_|refine ev_lst ?_|refine ea_cons ?_|refine ea_nil ?_|refine ev_ci ?_)|((with_reducible apply post_par3);exact rfl;exact rfl;exact rfl)|((with_reducible apply post_all);exact rfl;exact Nat.le_of_ble_eq_true rfl)|(with_reducible first|intro _)|simp only [List.set_cons_zero, List.set_cons_succ, Bool.not_true, Bool.not_false])
  refine sd_while (fun m δ' => ∃ p1 p2 s4 s5 s6 s7, ∃ (ps : List (List Int)) (ls : List (List Step)), δ' = [.d (fnD f), .own p1 (ps.map tI), .own p2 (ls.map lineD), .d (.int ls.length), s4, s5, s6, s7, .un, .un] ∧ Pls f ps ∧ RowsM f ps ls ∧ ls.length ≤ ps.length ∧ m = 49 - ls.length) 49 ?_ ?_
  · exact ⟨_, _, _, _, _, _, [List.replicate f.ins 0], [], rfl, Pls.start k, fun a l h => by simp at h, by simp, rfl⟩
  · rintro m δ' ⟨p1, p2, s4, s5, s6, s7, ps, ls, rfl, hps, hls, hle, rfl⟩
    have hmost := hps.most k
    unfold fnD
    repeat' (first|(with_reducible first|refine et_test ?_|refine ev_op ?_|refine ev_cb1 ?_|refine ea_cons ?_|refine ea_nil ?_|refine od_I0b ?_|refine post_b ?_)|((with_reducible apply ev_v);exact rfl)|((with_reducible apply ev_vo);exact rfl)|((with_reducible apply cd_lenl);exact rfl)|simp only [List.set_cons_zero, List.set_cons_succ, Bool.not_true, Bool.not_false])
    rw [List.length_map]
    refine ifB (fun h1 => ?_) (fun h1 => ?_)
    · have hlt : ls.length < ps.length := by have := of_decide_eq_true h1; omega
      obtain ⟨p, hp⟩ : ∃ p, ps[ls.length]? = some p := ⟨_, List.getElem?_eq_getElem hlt⟩
      repeat' (first|(with_reducible first|refine sd_seq ?_|refine sd_asg ?_|refine ev_lst ?_|refine ea_nil ?_|refine post_so ?_)|((with_reducible apply post_all);exact rfl;exact Nat.le_of_ble_eq_true rfl)|(with_reducible first|intro _)|simp only [List.set_cons_zero, List.set_cons_succ, Bool.not_true, Bool.not_false])
      refine sd_for (ei_rng1 ?_)
      repeat' (first|(with_reducible first|refine ev_op ?_|refine ea_cons ?_|refine ea_nil ?_|refine ev_ci ?_)|((with_reducible apply ev_v);exact rfl)|((with_reducible apply od_ixt);exact rfl)|simp only [List.set_cons_zero, List.set_cons_succ, Bool.not_true, Bool.not_false])
      refine ⟨_, rfl, by omega, by omega, fun t δ' => ∃ p1 p4 s5 s6 s7, ∃ (ps' : List (List Int)) (l : List Step), δ' = [.d (fnD f), .own p1 (ps'.map tI), .own p2 (ls.map lineD), .d (.int ls.length), .own p4 (l.map stepD), s5, s6, s7, .un, .un] ∧ Pls f ps' ∧ RowsM f ps' ls ∧ ps'[ls.length]? = some p ∧ l.length = t ∧ ∀ (i : Nat) (s : Step), l[i]? = some s → StepAt f ps' p i s,
        ⟨_, _, _, _, _, ps, [], rfl, hps, hls, hp, rfl, fun i s h => by simp at h⟩, fun t z δ' hz hI => ?_, fun δ' hI => ?_⟩
      · obtain ⟨p1, p4, s5, s6, s7, ps', l, rfl, hps', hls', hp', hl, hst⟩ := hI
        obtain ⟨ht, rfl⟩ := rng_inv hz
        have ht' : t < f.ins := ht
        rw [Int.zero_add]
        obtain ⟨hpl, hp0, hpa, hpn⟩ := hps'.pl p (List.mem_of_getElem? hp')
        have hmost' := hps'.most k
        unfold fnD
        repeat' (first|(with_reducible first|refine sd_seq ?_|refine sd_asg ?_|refine ev_op ?_|refine ev_call ?_|refine ea_cons ?_|refine gd_name ?_)|((with_reducible apply ev_v);exact rfl)|((with_reducible apply ev_vo);exact rfl)|simp only [List.set_cons_zero, List.set_cons_succ, Bool.not_true, Bool.not_false])
        refine od_ixl rfl (atI_nat (by rw [List.getElem?_map, hp']; rfl)) ?_
        repeat' (first|(with_reducible first|refine ea_cons ?_|refine ea_nil ?_)|((with_reducible apply ev_v);exact rfl)|((with_reducible apply post_call);exact rfl))
        refine ⟨p, t, rfl, by omega, by omega, ?_⟩
        rw [hpl]
        have hal : (addv p (unit f.ins t 1)).length = f.ins := by rw [addv_len (by rw [hpl, unit_len]), unit_len]
        repeat' (first|(with_reducible first|refine sd_if ?_|refine et_B ?_|refine ev_call ?_|refine ea_cons ?_|refine ea_nil ?_|refine post_sd ?_)|((with_reducible apply ev_v);exact rfl)|((with_reducible apply post_call);exact rfl))
        refine ⟨f, _, rfl, k, hal, ?_⟩
        cases hn : f.never (addv p (unit f.ins t 1)) with
        | true =>
          repeat' (first|(with_reducible first|refine ifT ?_|refine post_b ?_))
          refine sd_app rfl (by rw [List.length_map]; omega) ?_
          repeat' (first|(with_reducible first|refine ev_cn ?_|refine post_d ?_)|simp only [List.set_cons_zero, List.set_cons_succ, Bool.not_true, Bool.not_false])
          exact ⟨_, _, _, _, _, ps', l ++ [none], by rw [List.map_append]; rfl, hps', hls', hp', by rw [List.length_append, hl]; rfl, get_app hl hst ⟨fun _ => rfl, fun z => by rw [hn] at z; cases z⟩⟩
        | false =>
          repeat' (first|(with_reducible first|refine sd_seq ?_|refine sd_asg ?_|refine ifF ?_|refine post_b ?_)|simp only [List.set_cons_zero, List.set_cons_succ, Bool.not_true, Bool.not_false])
          refine ev_lcMm ((f.given p).zip (f.given (addv p (unit f.ins t 1)))) (fun p => .tuple [.int p.1, .int p.2]) (fun p : Int × Int => .int (p.2 - p.1)) (noA2 rfl rfl rfl rfl) (ei_zipK ?_)
          repeat' (first|(with_reducible first|refine ev_op ?_|refine ev_call ?_|refine ea_cons ?_)|((with_reducible apply ev_v);exact rfl)|((with_reducible apply ev_vo);exact rfl))
          refine od_ixl rfl (atI_nat (by rw [List.getElem?_map, hp']; rfl)) ?_
          repeat' (first|(with_reducible first|refine ea_nil ?_)|((with_reducible apply post_call);exact rfl))
          refine ⟨f, p, rfl, k, hpl, ?_⟩
          repeat' (first|(with_reducible first|refine ev_call ?_|refine ea_cons ?_|refine ea_nil ?_)|((with_reducible apply ev_v);exact rfl)|((with_reducible apply post_call);exact rfl))
          refine ⟨f, _, rfl, k, hal, ?_⟩
          repeat' (first|(with_reducible first|refine ea_nil ?_))
          refine ⟨_, _, _, _, _, _, rfl, rfl, rfl, (fun z => by cases z), zipD_map _ _ _ _, by rw [List.length_zip, given_len, given_len]; have := k.outs.2; omega, fun j q hq => ?_, fun pq => ?_⟩
          · repeat' (first|(with_reducible first|refine ev_op ?_|refine gvs_cons ?_|refine gvs_nil ?_|refine od_I0i ?_)|((with_reducible apply ev_v);exact rfl)|((with_reducible apply gv_tup);exact rfl)|((with_reducible apply gv_name);exact (by simp))|simp only [List.set_cons_zero, List.set_cons_succ, Bool.not_true, Bool.not_false])
          · rw [zip_sub]
            repeat' (first|(with_reducible first|refine sd_seq ?_|refine sd_asg ?_|refine ev_call ?_|refine ea_cons ?_|refine ea_nil ?_|refine post_so ?_)|((with_reducible apply ev_v);exact rfl)|((with_reducible apply post_call);exact rfl)|simp only [List.set_cons_zero, List.set_cons_succ, Bool.not_true, Bool.not_false])
            refine ⟨f, _, rfl, k, hal, ?_⟩
            repeat' (first|(with_reducible first|refine sd_seq ?_|refine sd_asg ?_|refine ev_op ?_|refine ev_lst ?_|refine ev_cb1 ?_|refine ea_cons ?_|refine ea_nil ?_|refine post_sd ?_)|((with_reducible apply ev_v);exact rfl)|((with_reducible apply ev_vo);exact rfl)|((with_reducible apply post_all);exact rfl;exact Nat.le_of_ble_eq_true rfl)|(with_reducible first|intro _)|simp only [List.set_cons_zero, List.set_cons_succ, Bool.not_true, Bool.not_false])
            refine od_nil rfl rfl ((shp_tI _).ok (by decide)) (shp_ps ps') ?_
            rw [inD_tI]
            obtain ⟨ps2, b, hP2, hR2, hp2, hs2, hb2, e2⟩ := ps_next k hps' hls' hp' hst hn
            have hmost2 := hP2.most k
            repeat' (first|(with_reducible first|refine ea_nil ?_|refine cd_intb ?_))
            refine od_mull rfl (by split <;> decide) (by split <;> decide) (by rw [List.length_singleton, Nat.one_mul]; split <;> decide) fun pm => ?_
            skip
            refine od_addl rfl rfl (by rw [← List.length_append, e2, List.length_map]; omega) fun pa => ?_
            rw [e2]
            repeat' (first|(with_reducible first|refine post_so ?_))
            refine sd_app rfl (by rw [List.length_map]; omega) ?_
            repeat' (first|(with_reducible first|refine ev_tup ?_|refine ea_cons ?_)|simp only [List.set_cons_zero, List.set_cons_succ, Bool.not_true, Bool.not_false])
            refine ev_index (ds := ps2.map tI) (d := tI (f.at (addv p (unit f.ins t 1)))) ?_
            repeat' (first|((with_reducible apply ev_vo);exact rfl))
            refine ⟨rfl, ?_⟩
            repeat' (first|((with_reducible apply ev_v);exact rfl)|simp only [List.set_cons_zero, List.set_cons_succ, Bool.not_true, Bool.not_false])
            refine ⟨by trivial, (shp_tI _).ok (by decide), shp_ps ps2, b, tI (f.at (addv p (unit f.ins t 1))), by rw [List.getElem?_map, hb2]; rfl, by rw [eqv_tI]; exact decide_eq_true rfl, fun m z' hm hz => ?_, ?_⟩
            · obtain ⟨q', hq', rfl⟩ := mapD_get hz
              rw [eqv_tI]
              refine decide_eq_false fun e => ?_
              have := nd_ix hP2.nd (e ▸ hq') hb2
              omega
            · repeat' (first|(with_reducible first|refine ev_cb1 ?_|refine ea_cons ?_|refine ea_nil ?_|refine post_d ?_)|((with_reducible apply ev_vo);exact rfl)|((with_reducible apply cd_tupl);exact rfl)|((with_reducible apply post_all);exact rfl;exact Nat.le_of_ble_eq_true rfl)|simp only [List.set_cons_zero, List.set_cons_succ, Bool.not_true, Bool.not_false])
              exact ⟨_, _, _, _, _, ps2, l ++ [some (b, subv (f.given (addv p (unit f.ins t 1))) (f.given p))], by rw [List.map_append]; rfl, hP2, hR2, hp2, by rw [List.length_append, hl]; rfl, get_app hl hs2 ⟨fun z => (by rw [hn] at z; cases z), fun _ => ⟨b, hb2, rfl⟩⟩⟩
      · obtain ⟨p1, p4, s5, s6, s7, ps', l, rfl, hps', hls', hp', hl, hst⟩ := hI
        rw [rngD_len, Int.toNat_natCast] at hl
        have hmost' := hps'.most k
        have hkl := (List.getElem?_eq_some_iff.mp hp').1
        repeat' (first|(with_reducible first|refine sd_seq ?_)|simp only [List.set_cons_zero, List.set_cons_succ, Bool.not_true, Bool.not_false])
        refine sd_app rfl (by rw [List.length_map]; omega) ?_
        repeat' (first|(with_reducible first|refine sd_asg ?_|refine ev_op ?_|refine ev_cb1 ?_|refine ea_cons ?_|refine ea_nil ?_|refine ev_ci ?_|refine od_addi ?_|refine post_d ?_|refine post_sd ?_)|((with_reducible apply ev_v);exact rfl)|((with_reducible apply ev_vo);exact rfl)|((with_reducible apply cd_tupl);exact rfl)|simp only [List.set_cons_zero, List.set_cons_succ, Bool.not_true, Bool.not_false])
        refine ⟨48 - ls.length, by omega, _, _, _, _, _, _, ps', ls ++ [l], by rw [List.map_append, List.length_append]; rfl, hps', hls'.next hl hp' hst, by rw [List.length_append]; exact hkl, by rw [List.length_append, List.length_singleton]; omega⟩
    · have hge : ls.length = ps.length := by have := of_decide_eq_false h1; omega
      refine sd_frz 1 rfl ?_
      repeat' (first|(with_reducible first|refine sd_ret ?_|refine ev_op ?_|refine ev_tup ?_|refine ev_cb1 ?_|refine ea_cons ?_|refine ea_nil ?_|refine ev_ci ?_|refine post_d ?_)|((with_reducible apply ev_v);exact rfl)|((with_reducible apply ev_vo);exact rfl)|((with_reducible apply cd_tupl);exact rfl)|((with_reducible apply od_ixt);exact rfl)|((with_reducible apply post_all);exact rfl;exact Nat.le_of_ble_eq_true rfl)|((with_reducible apply ret_ok);exact rfl)|simp only [List.set_cons_zero, List.set_cons_succ, Bool.not_true, Bool.not_false])
      exact hP ⟨f.ins, f.rows.length, ls⟩ ps (isM_of hps k hls hge)
end
end Lw

/-! Kq: what the law compares: plain. -/
namespace Lw
open PySem PySem.Spec PyProof.Rows L2 Dl
theorem exists_min : ∀ {l : List Int}, l ≠ [] → ∃ c ∈ l, ∀ y ∈ l, c ≤ y
  | [], h => absurd rfl h
  | [x], _ => ⟨x, by simp, fun y hy => by rw [List.mem_singleton.mp hy]; exact Int.le_refl _⟩
  | x :: y :: l, _ => by
    obtain ⟨c, hc, hm⟩ := exists_min (l := y :: l) (by simp)
    by_cases h : x ≤ c
    · refine ⟨x, by simp, fun z hz => ?_⟩
      rcases List.mem_cons.mp hz with rfl | hz
      · exact Int.le_refl _
      · exact Int.le_trans h (hm z hz)
    · refine ⟨c, by simp [hc], fun z hz => ?_⟩
      rcases List.mem_cons.mp hz with rfl | hz
      · omega
      · exact hm z hz
section
variable {f : Fn} {m : Mach} {ps : List (List Int)}
theorem slope_is (I : IsM f m ps) (k : FnOk f) {i : Nat} (hi : i < f.ins) {y : D} (h : SlopeAt m 0 i y) : y = slopeD f i := by
  obtain ⟨ms, gs, t, L, h⟩ := h
  unfold slopeD
  by_cases hax : axis f i = []
  · rw [if_pos hax]
    obtain ⟨j, ht, hj, hl, hjl, hg⟩ := L.slope I k hi hax
    rcases h with ⟨h1, _⟩ | ⟨k', b, g0, g1, h1, h2, h3, h4, h5⟩
    · rw [ht] at h1
      cases h1
    · rw [ht] at h1
      cases h1
      rw [h5, hj, hl, hg b g0 g1 h3 h4]
  · rw [if_neg hax]
    obtain ⟨c, hc, hm⟩ := exists_min hax
    have ht := (L.alone I k hi hc hm).1
    rcases h with ⟨_, h2⟩ | ⟨k', b, g0, g1, h1, _⟩
    · exact h2
    · rw [ht] at h1
      cases h1
theorem slopes_are (I : IsM f m ps) (k : FnOk f) {ys : List D} (hl : ys.length = m.ins) (h : ∀ (w : Nat) (y : D), ys[w]? = some y → SlopeAt m 0 w y) : ys = (List.range f.ins).map (slopeD f) := by
  rw [I.ins] at hl
  refine List.ext_getElem? fun j => ?_
  by_cases hj : j < f.ins
  · have e := List.getElem?_eq_getElem (l := ys) (i := j) (by omega)
    rw [e, List.getElem?_map, List.getElem?_range hj, slope_is I k hj (h j _ e)]
    rfl
  · rw [List.getElem?_eq_none (by omega), List.getElem?_eq_none (by rw [List.length_map, List.length_range]; omega)]
def AloneIs (f : Fn) (i : Nat) (y : D) : Prop := (axis f i = [] ∧ y = .none) ∨ ∃ c ∈ axis f i, (∀ z ∈ axis f i, c ≤ z) ∧ y = .int (c - 1)
theorem AloneIs.uniq {i : Nat} {y z : D} (h : AloneIs f i y) (h' : AloneIs f i z) : y = z := by
  rcases h with ⟨h1, rfl⟩ | ⟨c, hc, hm, rfl⟩
  · rcases h' with ⟨_, rfl⟩ | ⟨c, hc, _⟩
    · rfl
    · rw [h1] at hc; cases hc
  · rcases h' with ⟨h1, rfl⟩ | ⟨c', hc', hm', rfl⟩
    · rw [h1] at hc; cases hc
    · have := hm c' hc'
      have := hm' c hc
      rw [show c = c' by omega]
theorem alone_eq {n : Nat} {ys zs : List D} (hl : ys.length = n) (hl' : zs.length = n) (h : ∀ (i : Nat) (y : D), ys[i]? = some y → AloneIs f i y) (h' : ∀ (i : Nat) (y : D), zs[i]? = some y → AloneIs f i y) : ys = zs := by
  refine List.ext_getElem? fun j => ?_
  by_cases hj : j < n
  · have e := List.getElem?_eq_getElem (l := ys) (i := j) (by omega)
    have e' := List.getElem?_eq_getElem (l := zs) (i := j) (by omega)
    rw [e, e', (h j _ e).uniq (h' j _ e')]
  · rw [List.getElem?_eq_none (by omega), List.getElem?_eq_none (by omega)]
theorem alone_of (I : IsM f m ps) (k : FnOk f) {i : Nat} (hi : i < f.ins) {ms : List Nat} {gs : List (List Int)} {t : Option Nat} (L : Line m 0 i ms gs t) : AloneIs f i (if t = none then .int ((ms.length - 1 : Nat) : Int) else .none) := by
  by_cases hax : axis f i = []
  · obtain ⟨j, ht, _⟩ := L.slope I k hi hax
    rw [ht, if_neg (by simp)]
    exact .inl ⟨hax, rfl⟩
  · obtain ⟨c, hc, hm⟩ := exists_min hax
    obtain ⟨ht, hl⟩ := L.alone I k hi hc hm
    have hp := L.pos
    rw [if_pos ht]
    exact .inr ⟨c, hc, hm, by rw [show c - 1 = ((ms.length - 1 : Nat) : Int) by omega]⟩
/-- nothing given at nothing -/
theorem bsum_zero : ∀ (fs bs : List Int) (n : Nat), bsum fs bs (List.replicate n 0) = 0
  | [], _, _ => rfl
  | _ :: _, [], _ => by cases ‹Nat› <;> rfl
  | _ :: _, _ :: _, 0 => rfl
  | f :: fs, b :: bs, n + 1 => by
    rw [List.replicate_succ]
    show (if 0 < f ∧ f ≤ 0 then b else 0) + bsum fs bs (List.replicate n 0) = 0
    rw [bsum_zero fs bs n, if_neg (by omega)]
    rfl
theorem given_zero (k : FnOk f) : f.given (List.replicate f.ins 0) = List.replicate f.rows.length 0 := by
  unfold Fn.given
  rw [← List.map_const']
  refine List.map_congr_left fun r hr => ?_
  have hs := k.ss r hr
  unfold Fn.one
  rw [dot_zero, bsum_zero, Int.zero_add, Int.ediv_eq_zero_of_lt hs.1 hs.2]
  rfl
theorem subv_zero : ∀ {n : Nat} {a : List Int}, a.length = n → subv a (List.replicate n 0) = a
  | 0, [], _ => rfl
  | n + 1, x :: a, h => by
    rw [List.replicate_succ]
    show (x - 0) :: subv a (List.replicate n 0) = x :: a
    rw [subv_zero (n := n) (by simpa using h), Int.sub_zero]
def vI (v : List Nat) : List Int := v.map fun (n : Nat) => (n : Int)
theorem tN_tI (v : List Nat) : tN v = tI (vI v) := by
  unfold vI
  show PyData.tuple _ = PyData.tuple _
  rw [List.map_map]
  rfl
theorem vec0 (v : List Nat) : vec 0 v = vI v := rfl
/-- from the first mode on -/
theorem IsM.goes0V (I : IsM f m ps) (k : FnOk f) {v : List Nat} (hv : v.length = f.ins) : (f.never (vI v) = true → goV m 0 0 v = none) ∧ (f.never (vI v) = false → ∃ b, ps[b]? = some (f.at (vI v)) ∧ goV m 0 0 v = some (b, f.given (vI v))) := by
  have h := I.goesV k (v := v) (w := 0) (by omega) I.zero
  rw [vec0, addv_zero (by unfold vI; rw [List.length_map]; exact hv)] at h
  refine ⟨h.1, fun z => ?_⟩
  obtain ⟨b, hb, e⟩ := h.2 z
  refine ⟨b, hb, ?_⟩
  rw [e, given_zero k, subv_zero (given_len f _)]
theorem dot_most {B : Int} (hB : 0 ≤ B) : ∀ {w x : List Int}, (∀ a ∈ w, 0 ≤ a ∧ a ≤ 7) → (∀ a ∈ x, 0 ≤ a ∧ a ≤ B) → dot w x ≤ 7 * B * w.length
  | [], _, _, _ => by show (0 : Int) ≤ _; simp
  | _ :: _, [], _, _ => by show (0 : Int) ≤ _; exact Int.mul_nonneg (by omega) (Int.natCast_nonneg _)
  | w :: ws, x :: xs, h, h' => by
    have ih := dot_most hB (w := ws) (x := xs) (fun a ha => h a (by simp [ha])) fun a ha => h' a (by simp [ha])
    have hw := h w (by simp)
    have hx := h' x (by simp)
    have h1 : w * x ≤ 7 * B := Int.mul_le_mul hw.2 hx.2 hx.1 (by decide)
    have e : 7 * B * ((w :: ws).length : Int) = 7 * B * (ws.length : Int) + 7 * B := by
      rw [List.length_cons, Int.natCast_succ, Int.mul_add, Int.mul_one]
    rw [e]
    show w * x + dot ws xs ≤ _
    omega
/-- what tokens give, bounded -/
theorem given_most (k : FnOk f) {p x : List Int} (hp : p.length = x.length) (hx : x.length = f.ins) (hb : ∀ a ∈ x, 0 ≤ a ∧ a ≤ 10 ^ 12) : ∀ a ∈ subv (f.given (addv p x)) (f.given p), a.natAbs < 10 ^ 14 := fun a ha => by
  unfold Fn.given at ha
  rw [subv_map] at ha
  obtain ⟨r, hr, rfl⟩ := List.mem_map.mp ha
  have h1 := one_step k hr hp fun a ha => (hb a ha).1
  have hw := k.ws r hr
  have h2 := dot_most (B := 10 ^ 12) (by decide) (w := r.1) (x := x) hw.2 hb
  have h3 : (r.1.length : Int) ≤ 2 := by have := k.ins.2; omega
  have h4 : (7 : Int) * 10 ^ 12 * (r.1.length : Int) ≤ 7 * 10 ^ 12 * 2 := Int.mul_le_mul_of_nonneg_left h3 (by decide)
  have h5 : (7 : Int) * 10 ^ 12 * 2 + 6 < 10 ^ 14 := by decide
  have h6 : (f.one r (addv p x) - f.one r p).natAbs < ((10 : Int) ^ 14).natAbs := by omega
  exact h6
theorem addv_one {p x : List Int} {i : Nat} {a b : Int} (ha : p[i]? = some a) (hb : x[i]? = some b) : addv p (unit p.length i b) = p.take i ++ [a + b] ++ p.drop (i + 1) := by
  have hi := (List.getElem?_eq_some_iff.mp ha).1
  refine List.ext_getElem? fun j => ?_
  by_cases hj : j < p.length
  · have hpj := List.getElem?_eq_getElem hj
    rw [addv_get hpj (unit_get hj)]
    rcases Nat.lt_trichotomy j i with h | h | h
    · rw [List.append_assoc, List.getElem?_append_left (by rw [List.length_take]; omega), List.getElem?_take, if_pos h, hpj, if_neg (by omega), Int.add_zero]
    · subst h
      rw [ha] at hpj
      rw [List.append_assoc, List.getElem?_append_right (by rw [List.length_take]; omega), List.length_take, Nat.min_eq_left (by omega), Nat.sub_self, if_pos rfl, ← Option.some.inj hpj]
      rfl
    · rw [List.getElem?_append_right (by rw [List.length_append, List.length_take]; simp; omega), List.length_append, List.length_take, Nat.min_eq_left (by omega), List.length_singleton, List.getElem?_drop, show i + 1 + (j - (i + 1)) = j by omega, hpj, if_neg (by omega), Int.add_zero]
  · rw [List.getElem?_eq_none (by rw [addv_len (by rw [unit_len]), unit_len]; omega), List.getElem?_eq_none (by rw [List.length_append, List.length_append, List.length_take, List.length_drop, List.length_singleton]; omega)]
end
/-! ### texts -/
theorem shw_tI {a : List Int} (hl : a.length ≤ 100) (h : ∀ x ∈ a, x.natAbs < 10 ^ 14) : Shw 1 2000 (tI a) := (shw_tup (n := 0) (w := 15) fun d hd => by
  obtain ⟨x, hx, rfl⟩ := List.mem_map.mp hd
  exact shw_int 0 14 x (by decide) (by decide) (h x hx)).up (by decide) (by rw [List.length_map]; omega)
theorem shw_i {n : Nat} {i : Int} (h : i.natAbs < 10 ^ 14) : Shw n 2000 (.int i) := (shw_int n 14 i (by decide) (by decide) h).up (Nat.le_refl _) (by decide)
theorem shw_n {n : Nat} : Shw n 2000 PyData.none := (shw_none n).up (Nat.le_refl _) (by decide)
theorem shw_b {n : Nat} {b : Bool} : Shw n 2000 (.bool b) := (shw_bool n b).up (Nat.le_refl _) (by decide)
theorem shw_slopes {f : Fn} (k : FnOk f) : Shw 3 100000 (.tuple ((List.range f.ins).map (slopeD f))) := (shw_tup (n := 2) (w := 6010) fun d hd => by
  obtain ⟨i, hi, rfl⟩ := List.mem_map.mp hd
  have hi' : i < f.ins := List.mem_range.mp hi
  have hfl := k.far.1
  unfold slopeD
  split
  · refine (shw_tup (n := 1) (w := 2000) fun e he => ?_).up (by decide) (Nat.le_of_ble_eq_true rfl)
    simp only [List.mem_cons, List.not_mem_nil, or_false] at he
    rcases he with rfl | rfl | rfl
    · have ht : f.far[i]? = some (f.far[i]'(by omega)) := List.getElem?_eq_getElem _
      have hb := k.far.2 _ (List.mem_of_getElem? ht)
      rw [getD_of ht]
      exact shw_i (by omega)
    · have := k.n
      exact shw_i (by omega)
    · refine shw_tI (by rw [List.length_map]; have := k.outs.2; omega) fun x hx => ?_
      obtain ⟨r, hr, rfl⟩ := List.mem_map.mp hx
      have hw := k.ws r hr
      have ht : r.1[i]? = some (r.1[i]'(by omega)) := List.getElem?_eq_getElem _
      have hb := hw.2 _ (List.mem_of_getElem? ht)
      rw [getD_of ht]
      omega
  · exact (shw_none 2).up (Nat.le_refl _) (by decide)).up (Nat.le_refl _) (by rw [List.length_map, List.length_range]; have := k.ins.2; omega)
theorem shw_alone {f : Fn} (k : FnOk f) {i : Nat} (hi : i < f.ins) {y : D} (h : AloneIs f i y) : Shw 1 2000 y := by
  rcases h with ⟨_, rfl⟩ | ⟨c, hc, _, rfl⟩
  · exact shw_n
  · have h1 := axis_at k hi hc
    have hfl := k.far.1
    have ht : f.far[i]? = some (f.far[i]'(by omega)) := List.getElem?_eq_getElem _
    have hb := k.far.2 _ (List.mem_of_getElem? ht)
    rw [getD_of ht] at h1
    exact shw_i (by omega)
theorem shw_alones {f : Fn} (k : FnOk f) {ys : List D} (hl : ys.length = f.ins) (h : ∀ (i : Nat) (y : D), ys[i]? = some y → AloneIs f i y) : Shw 2 100000 (.list ys) := (shw_lst (n := 1) (w := 2000) fun d hd => by
  obtain ⟨i, hi⟩ := List.getElem?_of_mem hd
  have hlt := (List.getElem?_eq_some_iff.mp hi).1
  exact shw_alone k (by omega) (h i d hi)).up (Nat.le_refl _) (by have := k.ins.2; omega)
/-! ### the half machine -/
def half : Mach := ⟨1, 1, [[some (1, [0])], [some (0, [1])]]⟩
theorem half_ok : MachOk half where
  ins := by decide
  outs := by decide
  pos := by decide
  most := by decide
  wide := fun l hl => by
    simp only [half, List.mem_cons, List.not_mem_nil, or_false] at hl
    rcases hl with rfl | rfl <;> rfl
  step := fun l hl b g hbg => by
    simp only [half, List.mem_cons, List.not_mem_nil, or_false] at hl
    rcases hl with rfl | rfl
    · simp only [List.mem_cons, List.not_mem_nil, or_false] at hbg
      cases hbg
      exact ⟨by decide, rfl, fun x hx => by rw [List.mem_singleton.mp hx]; decide⟩
    · simp only [List.mem_cons, List.not_mem_nil, or_false] at hbg
      cases hbg
      exact ⟨by decide, rfl, fun x hx => by rw [List.mem_singleton.mp hx]; decide⟩
theorem half_go : ∀ (n a : Nat), a < 2 → go half 0 n a = some ((n + a) % 2, [(((n + a) / 2 : Nat) : Int)])
  | 0, a, ha => by
    show some (a, [0]) = _
    rw [Nat.zero_add, Nat.mod_eq_of_lt ha, Nat.div_eq_of_lt ha]
    rfl
  | n + 1, 0, _ => by
    show (some (1, [0])).bind (fun p => (go half 0 n p.1).map (plus p.2)) = _
    rw [Option.bind_some]
    dsimp only
    rw [half_go n 1 (by decide)]
    show some ((n + 1) % 2, [0 + (((n + 1) / 2 : Nat) : Int)]) = _
    rw [Int.zero_add]
  | n + 1, 1, _ => by
    show (some (0, [1])).bind (fun p => (go half 0 n p.1).map (plus p.2)) = _
    rw [Option.bind_some]
    dsimp only
    rw [half_go n 0 (by decide)]
    show some ((n + 0) % 2, [1 + (((n + 0) / 2 : Nat) : Int)]) = _
    rw [show (n + 1 + 1) % 2 = (n + 0) % 2 by omega, show (((n + 1 + 1) / 2 : Nat) : Int) = 1 + (((n + 0) / 2 : Nat) : Int) by omega]
theorem half_line : Line half 0 0 [0, 1] [[0], [0]] (some 0) where
  len := rfl
  pos := by decide
  at_ := fun k b g hb hg => by
    match k, hb, hg with
    | 0, hb, hg => cases hb; cases hg; exact half_go 0 0 (by decide)
    | 1, hb, hg => cases hb; cases hg; exact half_go 1 0 (by decide)
    | k + 2, hb, _ => simp at hb
  nd := by decide
  none_ := fun h => by cases h
  some_ := fun k h => by
    cases h
    exact ⟨by decide, 0, [1], rfl, half_go 2 0 (by decide)⟩
theorem half_slope {y : D} (h : SlopeAt half 0 0 y) : y = .tuple [.int 0, .int 2, tI [1]] := by
  obtain ⟨ms, gs, t, L, h⟩ := h
  obtain ⟨rfl, rfl, rfl⟩ := half_line.uniq L
  rcases h with ⟨h1, _⟩ | ⟨k, b, g0, g1, h1, h2, h3, h4, h5⟩
  · cases h1
  · cases h1
    cases h2
    cases h3
    have h6 : go half 0 2 0 = some (0, [1]) := half_go 2 0 (by decide)
    have h7 : some (0, g1) = some (0, [1]) := h4.symm.trans h6
    cases h7
    exact h5
end Lw

/-! Kr: the law. -/
namespace Lw
open PySem PySem.Spec PyProof.Rows L2 Dl
abbrev N_law : List Str := ["script", "source", "function", "machine", "places", "due", "i", "x", "is_never", "mode", "whole", "a", "b", "given", "far", "half", "told"]
def t_law (K : Fg) : TS := (tSeq (tAsg (tCall (spSrc K) [] E0 (tCons (tVar 0) tNil)) (gName 1))
    (tSeq (tAsg (tCall (liftSp K F__law_function) [] E0 (tCons (tVar 1) tNil)) (gName 2))
    (tSeq (tAsg (tCall (liftSp K F__law_machine) [] E0 (tCons (tVar 2) tNil)) (gTup K 2 (gCons (gName 3) (gCons (gName 4) gNil))))
    (tSeq (tIfS (tOr (tTest (tOp rNotB (tCall (liftSp K F_is_machine) [] E0 (tCons (tVar 3) tNil)) (tC (.bl true)))) (tTest (tOp rNotB (tCall (liftSp K F_is_commuting) [] E0 (tCons (tVar 3) tNil)) (tC (.bl true))))) (tRet (tC (.bl false))) tNext)
    (tSeq (tIfS (tTest (tOp (rNeU K) (tCB (rRepr K) (tCons (tCall (liftSp K F_slopes) [] E0 (tCons (tVar 3) tNil)) tNil)) (tCB (rRepr K) (tCons (tCall (liftSp K F__law_slopes) [] E0 (tCons (tVar 2) tNil)) tNil)))) (tRet (tC (.bl false))) tNext)
    (tSeq (tAsg (tLc (iRng1 (tCons (tOp (rIxU K) (tVar 2) (tC (.int 0))) tNil)) (gName 6) tYes (tCall (liftSp K F__law_alone) [] E0 (tCons (tVar 2) (tCons (tVar 6) tNil))) [6]) (gName 5))
    (tSeq (tIfS (tTest (tOp (rNeU K) (tCB (rRepr K) (tCons (tLc (iRng1 (tCons (tOp (rIxU K) (tVar 2) (tC (.int 0))) tNil)) (gName 6) tYes (tCall (liftSp K F_alone) [] E0 (tCons (tVar 3) (tCons (tVar 6) tNil))) [6]) tNil)) (tCB (rRepr K) (tCons (tVar 5) tNil)))) (tRet (tC (.bl false))) tNext)
    (tSeq (tFor (iSeqU K (tCall (liftSp K F__law_inputs) [] E0 (tCons (tVar 1) (tCons (tOp (rIxU K) (tVar 2) (tC (.int 0))) tNil)))) (gName 7) (tSeq (tAsg (tCall (liftSp K F__law_is_never) [] E0 (tCons (tVar 2) (tCons (tVar 7) tNil))) (gName 8))
    (tSeq (tAsg (tLst (tCons (tNotV (tVar 8)) (tCons (tIf (tB (tVar 8)) (tC .non) (tCall (liftSp K F__law_given) [] E0 (tCons (tVar 2) (tCons (tVar 7) tNil)))) tNil))) (gName 5))
    (tSeq (tDrop (tBM K "list" rAppend (tVar 5) (tCons (tIf (tB (tVar 8)) (tC .non) (tBM K "list" (rIndexD K) (tVar 4) (tCons (tCall (liftSp K F__law_at) [] E0 (tCons (tVar 2) (tCons (tVar 7) tNil))) tNil))) tNil)))
    (tSeq (tIfS (tTest (tOp (rNeU K) (tCB (rRepr K) (tCons (tLst (tCons (tCall (liftSp K F_does_rest) [] E0 (tCons (tVar 3) (tCons (tVar 7) tNil))) (tCons (tCall (liftSp K F_answer_to) [] E0 (tCons (tVar 3) (tCons (tVar 7) tNil))) (tCons (tCall (liftSp K F_mode_behind) [] E0 (tCons (tVar 3) (tCons (tVar 7) tNil))) tNil)))) tNil)) (tCB (rRepr K) (tCons (tVar 5) tNil)))) (tRet (tC (.bl false))) tNext)
    (tSeq (tAsg (tCall (liftSp K F__law_pick) [] E0 (tCons (tVar 1) (tCons (tCB (rLenU K) (tCons (tVar 4) tNil)) tNil))) (gName 9))
    (tSeq (tAsg (tCB (rTup1 K) (tCons (tLc (iZipK K false (tCons (tOp (rIxU K) (tVar 4) (tVar 9)) (tCons (tVar 7) tNil))) (gTup K 2 (gCons (gName 11) (gCons (gName 12) gNil))) tYes (tOp (rAddU K) (tVar 11) (tVar 12)) [11, 12]) tNil)) (gName 10))
    (tSeq (tPar 6 5 (tCons (tCall (liftSp K F__law_pick) [] E0 (tCons (tVar 1) (tCons (tOp (rIxU K) (tVar 2) (tC (.int 0))) tNil))) (tCons (tC .non) tNil)))
    (tSeq (tIfS (tNot (tB (tCall (liftSp K F__law_is_never) [] E0 (tCons (tVar 2) (tCons (tVar 10) tNil))))) (tSeq (tAsg (tLc (iZipK K false (tCons (tCall (liftSp K F__law_given) [] E0 (tCons (tVar 2) (tCons (tOp (rIxU K) (tVar 4) (tVar 9)) tNil))) (tCons (tCall (liftSp K F__law_given) [] E0 (tCons (tVar 2) (tCons (tVar 10) tNil))) tNil))) (gTup K 2 (gCons (gName 11) (gCons (gName 12) gNil))) tYes (tOp (rI0 fun i j => .int (i - j)) (tVar 12) (tVar 11)) [11, 12]) (gName 13))
    (tAsg (tTup (tCons (tBM K "list" (rIndexD K) (tVar 4) (tCons (tCall (liftSp K F__law_at) [] E0 (tCons (tVar 2) (tCons (tVar 10) tNil))) tNil)) (tCons (tCB (rTup1 K) (tCons (tVar 13) tNil)) tNil))) (gName 5))) tNext)
    (tSeq (tIfS (tTest (tOp (rNeU K) (tCB (rRepr K) (tCons (tCall (liftSp K F_led) [] E0 (tCons (tVar 3) (tCons (tVar 9) (tCons (tVar 7) tNil)))) tNil)) (tCB (rRepr K) (tCons (tVar 5) tNil)))) (tRet (tC (.bl false))) tNext)
    (tSeq (tPar 14 5 (tCons (tOp (rAddU K) (tOp (rAddU K) (tSl (rSlU K) (tOp (rIxU K) (tVar 4) (tVar 9)) tNoPart (tPart (tVar 6))) (tTup (tCons (tOp (rAddU K) (tOp (rIxU K) (tOp (rIxU K) (tVar 4) (tVar 9)) (tVar 6)) (tOp (rIxU K) (tVar 7) (tVar 6))) tNil))) (tSl (rSlU K) (tOp (rIxU K) (tVar 4) (tVar 9)) (tPart (tOp (rAddU K) (tVar 6) (tC (.int 1)))) tNoPart)) (tCons (tC .non) tNil)))
    (tSeq (tIfS (tNot (tB (tCall (liftSp K F__law_is_never) [] E0 (tCons (tVar 2) (tCons (tVar 14) tNil))))) (tSeq (tAsg (tLc (iZipK K false (tCons (tCall (liftSp K F__law_given) [] E0 (tCons (tVar 2) (tCons (tOp (rIxU K) (tVar 4) (tVar 9)) tNil))) (tCons (tCall (liftSp K F__law_given) [] E0 (tCons (tVar 2) (tCons (tVar 14) tNil))) tNil))) (gTup K 2 (gCons (gName 11) (gCons (gName 12) gNil))) tYes (tOp (rI0 fun i j => .int (i - j)) (tVar 12) (tVar 11)) [11, 12]) (gName 13))
    (tAsg (tTup (tCons (tBM K "list" (rIndexD K) (tVar 4) (tCons (tCall (liftSp K F__law_at) [] E0 (tCons (tVar 2) (tCons (tVar 14) tNil))) tNil)) (tCons (tCB (rTup1 K) (tCons (tVar 13) tNil)) tNil))) (gName 5))) tNext)
    (tIfS (tTest (tOp (rNeU K) (tCB (rRepr K) (tCons (tCall (liftSp K F_led_by) [] E0 (tCons (tVar 3) (tCons (tVar 9) (tCons (tVar 6) (tCons (tOp (rIxU K) (tVar 7) (tVar 6)) tNil))))) tNil)) (tCB (rRepr K) (tCons (tVar 5) tNil)))) (tRet (tC (.bl false))) tNext)))))))))))))
    (tSeq (tAsg (tTup (tCons (tC (.int 1)) (tCons (tC (.int 1)) (tCons (tTup (tCons (tTup (tCons (tTup (tCons (tC (.int 1)) (tCons (tTup (tCons (tC (.int 0)) tNil)) tNil))) tNil)) (tCons (tTup (tCons (tTup (tCons (tC (.int 0)) (tCons (tTup (tCons (tC (.int 1)) tNil)) tNil))) tNil)) tNil))) tNil)))) (gName 15))
    (tSeq (tAsg (tLst (tCons (tCall (liftSp K F_answer_to) [] E0 (tCons (tVar 15) (tCons (tTup (tCons (tOp (rI CPow fun i j => .int (i ^ j.toNat)) (tC (.int 10)) (tC (.int 12))) tNil)) tNil))) (tCons (tCall (liftSp K F_led) [] E0 (tCons (tVar 15) (tCons (tC (.int 1)) (tCons (tTup (tCons (tOp (rI CPow fun i j => .int (i ^ j.toNat)) (tC (.int 10)) (tC (.int 12))) tNil)) tNil)))) (tCons (tCall (liftSp K F_led_by) [] E0 (tCons (tVar 15) (tCons (tC (.int 0)) (tCons (tC (.int 0)) (tCons (tC (.int 7)) tNil))))) (tCons (tCall (liftSp K F_slopes) [] E0 (tCons (tVar 15) tNil)) tNil))))) (gName 16))
    (tSeq (tDrop (tBM K "list" rAppend (tVar 16) (tCons (tCall (liftSp K F_alone) [] E0 (tCons (tVar 15) (tCons (tC (.int 0)) tNil))) tNil)))
    (tRet (tOp (rEqU K) (tCB (rRepr K) (tCons (tVar 16) tNil)) (tCB (rRepr K) (tCons (tLst (tCons (tTup (tCons (tOp (rMulU K) (tC (.int 5)) (tOp (rI CPow fun i j => .int (i ^ j.toNat)) (tC (.int 10)) (tC (.int 11)))) tNil)) (tCons (tTup (tCons (tC (.int 1)) (tCons (tTup (tCons (tOp (rMulU K) (tC (.int 5)) (tOp (rI CPow fun i j => .int (i ^ j.toNat)) (tC (.int 10)) (tC (.int 11)))) tNil)) tNil))) (tCons (tTup (tCons (tC (.int 1)) (tCons (tTup (tCons (tC (.int 3)) tNil)) tNil))) (tCons (tTup (tCons (tTup (tCons (tC (.int 0)) (tCons (tC (.int 2)) (tCons (tTup (tCons (tC (.int 1)) tNil)) tNil)))) tNil)) (tCons (tC .non) tNil)))))) tNil)))))))))))))))
section
variable {K : Fg} {Γ : Ga} {xs : List Vl} {P : D → Prop}
theorem ifFn {a b : Prop} {i : Decidable True} (h : b) : if (!(@decide True i)) = true then a else b := by
  have e : @decide True i = true := decide_eq_true trivial
  rw [e]
  exact h
theorem ifEq {a b : Prop} {s t : Str} {i : Decidable (s = t)} (e : s = t) (h : b) : if (!(@decide (s = t) i)) = true then a else b := by
  have e : @decide (s = t) i = true := decide_eq_true e
  rw [e]
  exact h
theorem evM {δ : List Sl} {b : Bool} {te tf : TE} {P : Vl → Prop} (y : Vl) (h1 : b = true → Ev K Γ δ te fun x => x = y) (h2 : b = false → Ev K Γ δ tf fun x => x = y) (h : P y) : if b = true then Ev K Γ δ te P else Ev K Γ δ tf P := by
  cases b with
  | true => rw [if_pos rfl]; exact (h1 rfl).imp fun x e => by rw [e]; exact h
  | false => rw [if_neg (by decide)]; exact (h2 rfl).imp fun x e => by rw [e]; exact h
theorem sdM {δ : List Sl} {b : Bool} {ts tu : TS} {E : DE} (J : List Sl → Prop) (h1 : b = true → SD K Γ δ ts { nx := J, rt := fun _ _ => False }) (h2 : b = false → SD K Γ δ tu { nx := J, rt := fun _ _ => False }) (h : ∀ δ', J δ' → E.nx δ') : if b = true then SD K Γ δ ts E else SD K Γ δ tu E := by
  cases b with
  | true =>
    rw [if_pos rfl]
    exact fun σ H G R D L => h1 rfl σ H G R D ⟨fun σ H' G' δ R e q => L.nx σ H' G' δ R e (h δ q), fun _ _ _ _ _ _ _ _ _ q => q.elim, fun _ _ _ _ _ _ q => q.elim, fun _ _ _ _ _ _ q => q.elim⟩
  | false =>
    rw [if_neg (by decide)]
    exact fun σ H G R D L => h2 rfl σ H G R D ⟨fun σ H' G' δ R e q => L.nx σ H' G' δ R e (h δ q), fun _ _ _ _ _ _ _ _ _ q => q.elim, fun _ _ _ _ _ _ q => q.elim, fun _ _ _ _ _ _ q => q.elim⟩
theorem ixN {f : Fn} {m : Mach} {ps : List (List Int)} {b : Nat} {q : List Int} (I : IsM f m ps) (hb : ps[b]? = some q) : ∀ (j : Nat) (z' : D), j < b → (ps.map tI)[j]? = some z' → PyData.eqv z' (tI q) = false := fun j z' hj hz => by
  obtain ⟨q', hq', rfl⟩ := mapD_get hz
  rw [eqv_tI]
  refine decide_eq_false fun e => ?_
  have := nd_ix I.nd (e ▸ hq') hb
  omega
theorem ix1 {ps : List (List Int)} {b : Nat} {q : List Int} (hb : ps[b]? = some q) : (ps.map tI)[b]? = some (tI q) := by rw [List.getElem?_map, hb]; rfl
theorem ix2 (q : List Int) : PyData.eqv (tI q) (tI q) = true := by rw [eqv_tI]; exact decide_eq_true rfl
theorem zipN (p : List Int) (v : List Nat) : zipD (p.map PyData.int) (v.map fun (n : Nat) => PyData.int (n : Int)) = (p.zip (vI v)).map fun q : Int × Int => PyData.tuple [.int q.1, .int q.2] := by
  have h := zipD_map PyData.int PyData.int p (vI v)
  unfold vI at h ⊢
  rw [List.map_map] at h
  exact h
theorem zip_add : ∀ a b : List Int, (a.zip b).map (fun p : Int × Int => PyData.int (p.1 + p.2)) = (addv a b).map .int
  | [], [] => rfl
  | [], _ :: _ => rfl
  | _ :: _, [] => rfl
  | x :: a, y :: b => congrArg (_ :: ·) (zip_add a b)
def StepS (s : Step) : Prop := ∀ b g, s = some (b, g) → b < 1000 ∧ g.length ≤ 100 ∧ ∀ x ∈ g, x.natAbs < 10 ^ 14
theorem cd_reprT {s : Step} {P : Vl → Prop} (hs : StepS s) (h : P (.d (.str (stepD s).shown))) : CaD K (rRepr K) [.d (stepD s)] P := by
  match s, hs with
  | none, _ => exact cd_reprN h
  | some (b, g), hs =>
    obtain ⟨h1, h2, h3⟩ := hs b g rfl
    refine cd_reprS rfl (n := 2) (w := 10000) ((shw_tup (n := 1) (w := 2000) fun d hd => ?_).up (by decide) (Nat.le_of_ble_eq_true rfl)) (by decide) (by decide) (.inr ⟨_, rfl⟩) h
    simp only [List.mem_cons, List.not_mem_nil, or_false] at hd
    rcases hd with rfl | rfl
    · exact shw_i (by omega)
    · exact shw_tI h2 h3
theorem shw_due {b : Bool} {s : Step} (hs : StepS s) : Shw 2 10000 (.list [.bool b, ansD s, modD s]) := (shw_lst (n := 1) (w := 2000) fun d hd => by
  simp only [List.mem_cons, List.not_mem_nil, or_false] at hd
  match s, hs with
  | none, _ => rcases hd with rfl | rfl | rfl <;> first | exact shw_b | exact shw_n
  | some (b, g), hs =>
    obtain ⟨h1, h2, h3⟩ := hs b g rfl
    rcases hd with rfl | rfl | rfl
    · exact shw_b
    · exact shw_tI h2 h3
    · exact shw_i (by show ((b : Nat) : Int).natAbs < _; omega)).up (Nat.le_refl _) (Nat.le_of_ble_eq_true rfl)
theorem stepS_led {f : Fn} {m : Mach} {ps : List (List Int)} {p x : List Int} {s : Step} (I : IsM f m ps) (k : FnOk f) (h : Led f m ps p (addv p x) s) (hp : p.length = f.ins) (hx : x.length = f.ins) (hb : ∀ a ∈ x, 0 ≤ a ∧ a ≤ 10 ^ 12) : StepS s := fun b g e => by
  cases hn : f.never (addv p x) with
  | true => rw [h.1 hn] at e; cases e
  | false =>
    obtain ⟨b', hb', e'⟩ := h.2 hn
    rw [e'] at e
    cases e
    have h1 := (List.getElem?_eq_some_iff.mp hb').1
    have h2 := I.most
    have h3 := k.outs.2
    refine ⟨by omega, by rw [subv_len (by rw [given_len, given_len]), given_len]; omega, given_most k (by omega) hx hb⟩
def toldD : List D := [tI [500000000000], .tuple [.int 1, tI [500000000000]], .tuple [.int 1, tI [3]], .tuple [.tuple [.int 0, .int 2, tI [1]]], .none]
theorem shw_told : Shw 4 100000 (.list toldD) := (shw_lst (n := 3) (w := 10000) fun d hd => by
  have h1 : ∀ i : Int, i.natAbs < 10 ^ 14 → Shw 1 2000 (tI [i]) := fun i hi => shw_tI (Nat.le_of_ble_eq_true rfl) fun x hx => by rw [List.mem_singleton.mp hx]; exact hi
  have h2 : ∀ i j : Int, i.natAbs < 10 ^ 14 → j.natAbs < 10 ^ 14 → Shw 2 5000 (.tuple [.int j, tI [i]]) := fun i j hi hj => (shw_tup (n := 1) (w := 2000) fun d hd => by
    simp only [List.mem_cons, List.not_mem_nil, or_false] at hd
    rcases hd with rfl | rfl
    · exact shw_i hj
    · exact h1 i hi).up (by decide) (Nat.le_of_ble_eq_true rfl)
  simp only [toldD, List.mem_cons, List.not_mem_nil, or_false] at hd
  rcases hd with rfl | rfl | rfl | rfl | rfl
  · exact (h1 _ (by decide)).up (by decide) (by decide)
  · exact (h2 _ _ (by decide) (by decide)).up (by decide) (by decide)
  · exact (h2 _ _ (by decide) (by decide)).up (by decide) (by decide)
  · refine (shw_tup (n := 2) (w := 7000) fun d hd => ?_).up (by decide) (Nat.le_of_ble_eq_true rfl)
    rw [List.mem_singleton.mp hd]
    refine (shw_tup (n := 1) (w := 2000) fun d hd => ?_).up (by decide) (Nat.le_of_ble_eq_true rfl)
    simp only [List.mem_cons, List.not_mem_nil, or_false] at hd
    rcases hd with rfl | rfl | rfl
    · exact shw_i (by decide)
    · exact shw_i (by decide)
    · exact h1 1 (by decide)
  · exact (shw_none 3).up (Nat.le_refl _) (by decide)).up (by decide) (Nat.le_of_ble_eq_true rfl)
theorem od_f0 {f : Fn} {P : Vl → Prop} (h : P (.d (.int f.ins))) : OpD K (rIxU K) (.d (fnD f)) (.d (.int 0)) P := od_ixt (d := .int f.ins) rfl h
theorem law_ok (vs : List V) (H : Hp) (Q : VK) (E : XK) (h : spLaw K vs H Q E) : t_law K { nx := fun _ H' => Q .non H', rt := Q } (L2.start N_law vs) H := by
  unfold t_law
  refine law_body (by decide) h fun Γ a c => ?_
  show SD K Γ [.un, .src a c, .un, .un, .un, .un, .un, .un, .un, .un, .un, .un, .un, .un, .un, .un, .un] _ _
  repeat' (first|(with_reducible first|refine sd_seq ?_|refine sd_asg ?_|refine ev_call ?_|refine ea_cons ?_|refine ea_nil ?_)|((with_reducible apply ev_vs);exact rfl)|((with_reducible apply post_call);exact rfl)|simp only [List.set_cons_zero, List.set_cons_succ, Bool.not_true, Bool.not_false])
  refine ⟨a, c, rfl, fun f k => ?_⟩
  repeat' (first|(with_reducible first|refine sd_seq ?_|refine sd_asgG ?_|refine ev_call ?_|refine ea_cons ?_|refine ea_nil ?_|refine post_sd ?_)|((with_reducible apply ev_v);exact rfl)|((with_reducible apply post_call);exact rfl)|simp only [List.set_cons_zero, List.set_cons_succ, Bool.not_true, Bool.not_false])
  refine ⟨f, rfl, k, fun m ps I => ?_⟩
  have hin := k.ins
  have hno := I.ok k
  repeat' (first|(with_reducible first|refine sd_seq ?_|refine sd_if ?_|refine et_test ?_|refine et_or ?_|refine ev_op ?_|refine ev_call ?_|refine ea_cons ?_|refine ea_nil ?_|refine gd_name ?_|refine gds_cons ?_|refine gds_nil ?_|refine post_d ?_)|((with_reducible apply ev_v);exact rfl)|((with_reducible apply gd_tup);exact rfl)|((with_reducible apply post_call);exact rfl)|simp only [List.set_cons_zero, List.set_cons_succ, Bool.not_true, Bool.not_false])
  refine ⟨m, rfl, hno, ?_⟩
  repeat' (first|(with_reducible first|refine ev_cb ?_|refine od_nob ?_|refine post_b ?_)|simp only [List.set_cons_zero, List.set_cons_succ, Bool.not_true, Bool.not_false])
  refine ifFn ?_
  repeat' (first|(with_reducible first|refine et_test ?_|refine ev_op ?_|refine ev_call ?_|refine ea_cons ?_|refine ea_nil ?_)|((with_reducible apply ev_v);exact rfl)|((with_reducible apply post_call);exact rfl))
  refine ⟨m, rfl, hno, I.comm k, ?_⟩
  repeat' (first|(with_reducible first|refine ev_cb ?_|refine od_nob ?_|refine post_b ?_)|simp only [List.set_cons_zero, List.set_cons_succ, Bool.not_true, Bool.not_false])
  refine ifFn ?_
  repeat' (first|(with_reducible first|refine sd_seq ?_|refine sd_if ?_|refine sd_next ?_|refine et_test ?_|refine ev_op ?_|refine ev_call ?_|refine ev_cb1 ?_|refine ea_cons ?_|refine ea_nil ?_)|((with_reducible apply ev_v);exact rfl)|((with_reducible apply post_call);exact rfl)|simp only [List.set_cons_zero, List.set_cons_succ, Bool.not_true, Bool.not_false])
  refine ⟨m, rfl, hno, fun ys hyl hys => ?_⟩
  rw [slopes_are I k hyl hys]
  repeat' (first|(with_reducible first|refine ea_nil ?_))
  refine cd_reprS rfl (shw_slopes k) (by decide) (by decide) (.inr ⟨_, rfl⟩) ?_
  repeat' (first|(with_reducible first|refine ev_call ?_|refine ev_cb1 ?_|refine ea_cons ?_|refine ea_nil ?_)|((with_reducible apply ev_v);exact rfl)|((with_reducible apply post_call);exact rfl))
  refine ⟨f, rfl, k, ?_⟩
  repeat' (first|(with_reducible first|refine ea_nil ?_))
  refine cd_reprS rfl (shw_slopes k) (by decide) (by decide) (.inr ⟨_, rfl⟩) ?_
  repeat' (first|(with_reducible first|refine od_nes ?_|refine post_b ?_)|simp only [List.set_cons_zero, List.set_cons_succ, Bool.not_true, Bool.not_false])
  refine ifFn ?_
  repeat' (first|(with_reducible first|refine sd_seq ?_|refine sd_asg ?_|refine sd_next ?_)|simp only [List.set_cons_zero, List.set_cons_succ, Bool.not_true, Bool.not_false])
  refine ev_lcR (noA1 rfl rfl) (ei_rng1 ?_)
  repeat' (first|(with_reducible first|refine ev_op ?_|refine ea_cons ?_|refine ev_ci ?_)|((with_reducible apply ev_v);exact rfl))
  refine od_f0 ?_
  repeat' (first|(with_reducible first|refine ea_nil ?_))
  refine ⟨_, rfl, by omega, by omega, ?_⟩
  rw [rngD_len, Int.toNat_natCast]
  refine ⟨by omega, fun i y => AloneIs f i y, fun i x hx => ?_, fun qd ys1 hyl1 hys1 => ?_⟩
  · obtain ⟨hi, rfl⟩ := rng_inv hx
    rw [Int.zero_add]
    repeat' (first|(with_reducible first|refine ev_call ?_|refine ea_cons ?_|refine ea_nil ?_)|((with_reducible apply ev_v);exact rfl)|((with_reducible apply post_call);exact rfl)|((with_reducible apply gv_name);exact (by simp))|simp only [List.set_cons_zero, List.set_cons_succ, Bool.not_true, Bool.not_false])
    refine ⟨f, i, rfl, k, hi, fun hax => ⟨_, rfl, .inl ⟨hax, rfl⟩⟩, fun z hz hm => ⟨_, rfl, .inr ⟨z, hz, hm, rfl⟩⟩⟩
  repeat' (first|(with_reducible first|refine sd_seq ?_|refine sd_if ?_|refine et_test ?_|refine ev_op ?_|refine ev_cb1 ?_|refine ea_cons ?_|refine post_so ?_)|simp only [List.set_cons_zero, List.set_cons_succ, Bool.not_true, Bool.not_false])
  refine ev_lcR (noA1 rfl rfl) (ei_rng1 ?_)
  repeat' (first|(with_reducible first|refine ev_op ?_|refine ea_cons ?_|refine ev_ci ?_)|((with_reducible apply ev_v);exact rfl))
  refine od_f0 ?_
  repeat' (first|(with_reducible first|refine ea_nil ?_))
  refine ⟨_, rfl, by omega, by omega, ?_⟩
  rw [rngD_len, Int.toNat_natCast]
  refine ⟨by omega, fun i y => AloneIs f i y, fun i x hx => ?_, fun qd2 ys2 hyl2 hys2 => ?_⟩
  · obtain ⟨hi, rfl⟩ := rng_inv hx
    rw [Int.zero_add]
    repeat' (first|(with_reducible first|refine ev_call ?_|refine ea_cons ?_|refine ea_nil ?_)|((with_reducible apply ev_v);exact rfl)|((with_reducible apply post_call);exact rfl)|((with_reducible apply gv_name);exact (by simp))|simp only [List.set_cons_zero, List.set_cons_succ, Bool.not_true, Bool.not_false])
    refine ⟨m, i, rfl, hno, by rw [I.ins]; exact hi, fun ms gs t L => ?_⟩
    have ha := alone_of I k hi L
    exact ⟨fun ht => ⟨_, rfl, by rw [if_pos ht] at ha; exact ha⟩, fun ht => ⟨_, rfl, by rw [if_neg ht] at ha; exact ha⟩⟩
  have hy12 := alone_eq (f := f) hyl1 hyl2 hys1 hys2
  subst hy12
  repeat' (first|(with_reducible first|refine ea_nil ?_))
  refine cd_reprS rfl (shw_alones k hyl1 hys1) (by decide) (by decide) (.inl ⟨_, rfl⟩) ?_
  repeat' (first|(with_reducible first|refine ev_cb1 ?_|refine ea_cons ?_|refine ea_nil ?_)|((with_reducible apply ev_vo);exact rfl))
  refine cd_reprS rfl (shw_alones k hyl1 hys1) (by decide) (by decide) (.inl ⟨_, rfl⟩) ?_
  repeat' (first|(with_reducible first|refine od_nes ?_|refine post_b ?_)|simp only [List.set_cons_zero, List.set_cons_succ, Bool.not_true, Bool.not_false])
  refine ifFn ?_
  repeat' (first|(with_reducible first|refine sd_seq ?_|refine sd_next ?_)|simp only [List.set_cons_zero, List.set_cons_succ, Bool.not_true, Bool.not_false])
  refine sd_for (ei_Ul ?_)
  repeat' (first|(with_reducible first|refine ev_op ?_|refine ev_call ?_|refine ea_cons ?_|refine ev_ci ?_)|((with_reducible apply ev_v);exact rfl)|((with_reducible apply ev_vs);exact rfl)|simp only [List.set_cons_zero, List.set_cons_succ, Bool.not_true, Bool.not_false])
  refine od_f0 ?_
  repeat' (first|(with_reducible first|refine ea_nil ?_)|((with_reducible apply post_call);exact rfl))
  refine ⟨a, c, f.ins, rfl, by omega, fun ws hwl hws => ?_⟩
  refine ⟨_, rfl, fun t δ' => ∃ s5 s6 s7 s8 s9 s10 s13 s14, δ' = [.un, .src a c, .d (fnD f), .d (machD m), .d (.list (ps.map tI)), s5, s6, s7, s8, s9, s10, .un, .un, s13, s14, .un, .un],
    ⟨_, _, _, _, _, _, _, _, rfl⟩, fun t z δ' hz hI => ?_, fun δ' hI => ?_⟩
  · obtain ⟨s5, s6, s7, s8, s9, s10, s13, s14, rfl⟩ := hI
    obtain ⟨v, hv, rfl⟩ := mapD_get hz
    obtain ⟨hvl, hvb⟩ := hws v (List.mem_of_getElem? hv)
    have hvI : (vI v).length = f.ins := by unfold vI; rw [List.length_map]; exact hvl
    have hvB : ∀ x ∈ vI v, 0 ≤ x ∧ x ≤ 10 ^ 12 := fun x hx => by
      obtain ⟨n, hn, rfl⟩ := List.mem_map.mp hx
      have := hvb n hn
      exact ⟨Int.natCast_nonneg _, by exact_mod_cast this⟩
    repeat' (first|(with_reducible first|refine sd_seq ?_|refine sd_asg ?_|refine ev_call ?_|refine ea_cons ?_|refine ea_nil ?_|refine gd_name ?_)|((with_reducible apply ev_v);exact rfl)|((with_reducible apply post_call);exact rfl)|simp only [List.set_cons_zero, List.set_cons_succ, Bool.not_true, Bool.not_false])
    refine ⟨f, vI v, by rw [tN_tI], k, hvI, ?_⟩
    have hG := I.goes0V k hvl
    have hS0 : StepS (goV m 0 0 v) := by
      have h := I.goesV k (v := v) (w := 0) (by omega) I.zero
      exact stepS_led I k h List.length_replicate hvI hvB
    have hsome : (!f.never (vI v)) = (goV m 0 0 v).isSome := by
      cases hn : f.never (vI v) with
      | true => rw [hG.1 hn]; rfl
      | false =>
        obtain ⟨b, hb, e⟩ := hG.2 hn
        rw [e]
        rfl
    have hv62 : ∀ n ∈ v, n < 2 ^ 62 := fun n hn => Nat.lt_of_le_of_lt (hvb n hn) (by decide)
    have hvm : v.length ≤ m.ins := by rw [I.ins]; omega
    repeat' (first|(with_reducible first|refine sd_seq ?_|refine sd_asg ?_|refine ev_notV ?_|refine ev_if ?_|refine et_B ?_|refine ev_lst ?_|refine ea_cons ?_|refine post_b ?_|refine post_sd ?_)|((with_reducible apply ev_v);exact rfl)|simp only [List.set_cons_zero, List.set_cons_succ, Bool.not_true, Bool.not_false])
    refine evM (.d (ansD (goV m 0 0 v))) (fun hn => ?_) (fun hn => ?_) ?_
    · repeat' (first|(with_reducible first|refine ev_cn ?_))
      rw [hG.1 hn]
      rfl
    · repeat' (first|(with_reducible first|refine ev_call ?_|refine ea_cons ?_|refine ea_nil ?_)|((with_reducible apply ev_v);exact rfl)|((with_reducible apply post_call);exact rfl))
      refine ⟨f, vI v, by rw [tN_tI], k, hvI, ?_⟩
      obtain ⟨b, hb, e⟩ := hG.2 hn
      rw [e]
      rfl
    repeat' (first|(with_reducible first|refine sd_seq ?_|refine ea_nil ?_|refine post_so ?_)|((with_reducible apply post_all);exact rfl;exact Nat.le_of_ble_eq_true rfl)|(with_reducible first|intro _)|simp only [List.set_cons_zero, List.set_cons_succ, Bool.not_true, Bool.not_false])
    refine sd_app rfl (Nat.le_of_ble_eq_true rfl) ?_
    repeat' (first|(with_reducible first|refine ev_if ?_|refine et_B ?_|refine post_b ?_)|((with_reducible apply ev_v);exact rfl)|simp only [List.set_cons_zero, List.set_cons_succ, Bool.not_true, Bool.not_false])
    refine evM (.d (modD (goV m 0 0 v))) (fun hn => ?_) (fun hn => ?_) ?_
    · repeat' (first|(with_reducible first|refine ev_cn ?_))
      rw [hG.1 hn]
      rfl
    · obtain ⟨b, hb, e⟩ := hG.2 hn
      refine ev_index (ds := ps.map tI) (d := tI (f.at (vI v))) ?_
      repeat' (first|((with_reducible apply ev_v);exact rfl))
      refine ⟨rfl, ?_⟩
      repeat' (first|(with_reducible first|refine ev_call ?_|refine ea_cons ?_|refine ea_nil ?_)|((with_reducible apply ev_v);exact rfl)|((with_reducible apply post_call);exact rfl))
      refine ⟨f, vI v, by rw [tN_tI], k, hvI, ?_⟩
      refine ⟨rfl, (shp_tI _).ok (by decide), shp_ps ps, b, tI _, ix1 hb, ix2 _, ixN I hb, ?_⟩
      rw [e]
      rfl
    repeat' (first|(with_reducible first|refine sd_seq ?_|refine sd_if ?_|refine et_test ?_|refine ev_op ?_|refine ev_lst ?_|refine ev_call ?_|refine ev_cb1 ?_|refine ea_cons ?_|refine ea_nil ?_|refine post_d ?_)|((with_reducible apply ev_v);exact rfl)|((with_reducible apply post_call);exact rfl)|simp only [List.set_cons_zero, List.set_cons_succ, Bool.not_true, Bool.not_false])
    refine ⟨m, v, rfl, hno, hvm, hv62, ?_⟩
    repeat' (first|(with_reducible first|refine ev_call ?_|refine ea_cons ?_|refine ea_nil ?_)|((with_reducible apply ev_v);exact rfl)|((with_reducible apply post_call);exact rfl))
    refine ⟨m, v, rfl, hno, hvm, hv62, ?_⟩
    repeat' (first|(with_reducible first|refine ev_call ?_|refine ea_cons ?_|refine ea_nil ?_)|((with_reducible apply ev_v);exact rfl)|((with_reducible apply post_call);exact rfl))
    refine ⟨m, v, rfl, hno, hvm, hv62, ?_⟩
    rw [← hsome]
    repeat' (first|(with_reducible first|refine ea_nil ?_)|((with_reducible apply post_all);exact rfl;exact Nat.le_of_ble_eq_true rfl)|(with_reducible first|intro _)|simp only [List.set_cons_zero, List.set_cons_succ, Bool.not_true, Bool.not_false])
    refine cd_reprS rfl (shw_due hS0) (by decide) (by decide) (.inl ⟨_, rfl⟩) ?_
    repeat' (first|(with_reducible first|refine ev_cb1 ?_|refine ea_cons ?_|refine ea_nil ?_)|((with_reducible apply ev_vo);exact rfl))
    refine cd_reprS rfl (shw_due hS0) (by decide) (by decide) (.inl ⟨_, rfl⟩) ?_
    repeat' (first|(with_reducible first|refine od_nes ?_|refine post_b ?_))
    refine ifEq rfl ?_
    repeat' (first|(with_reducible first|refine sd_seq ?_|refine sd_asg ?_|refine sd_next ?_|refine ev_call ?_|refine ev_cb1 ?_|refine ea_cons ?_|refine ea_nil ?_)|((with_reducible apply ev_v);exact rfl)|((with_reducible apply ev_vs);exact rfl)|((with_reducible apply post_call);exact rfl)|((with_reducible apply cd_lenl);exact rfl)|simp only [List.set_cons_zero, List.set_cons_succ, Bool.not_true, Bool.not_false])
    rw [List.length_map]
    refine ⟨a, c, _, rfl, by omega, by have := I.most; omega, fun r hr0 hr1 => ?_⟩
    obtain ⟨g, rfl⟩ : ∃ g : Nat, r = g := ⟨r.toNat, by omega⟩
    have hpos := hno.pos
    rw [I.len] at hpos
    have hgl : g < ps.length := by omega
    obtain ⟨p, hp⟩ : ∃ p, ps[g]? = some p := ⟨_, List.getElem?_eq_getElem hgl⟩
    obtain ⟨hpl, hp0, hpa, hpn⟩ := I.pl p (List.mem_of_getElem? hp)
    have hpg : (ps.map tI)[g]? = some (tI p) := ix1 hp
    repeat' (first|(with_reducible first|refine sd_seq ?_|refine sd_asg ?_|refine ev_cb1 ?_|refine ea_cons ?_|refine post_sd ?_)|simp only [List.set_cons_zero, List.set_cons_succ, Bool.not_true, Bool.not_false])
    refine ev_lcMm (p.zip (vI v)) (fun q => .tuple [.int q.1, .int q.2]) (fun q : Int × Int => .int (q.1 + q.2)) (noA2 rfl rfl rfl rfl) (ei_zipK ?_)
    repeat' (first|(with_reducible first|refine ev_op ?_|refine ea_cons ?_)|((with_reducible apply ev_v);exact rfl))
    refine od_ixl rfl (atI_nat hpg) ?_
    repeat' (first|(with_reducible first|refine ea_cons ?_|refine ea_nil ?_)|((with_reducible apply ev_v);exact rfl))
    refine ⟨_, _, _, _, _, _, rfl, rfl, rfl, (fun z => by cases z), zipN _ _, by rw [List.length_zip]; omega, fun j q hq => ?_, fun pq => ?_⟩
    · repeat' (first|(with_reducible first|refine ev_op ?_|refine gvs_cons ?_|refine gvs_nil ?_|refine od_addi ?_)|((with_reducible apply ev_v);exact rfl)|((with_reducible apply gv_tup);exact rfl)|((with_reducible apply gv_name);exact (by simp))|simp only [List.set_cons_zero, List.set_cons_succ, Bool.not_true, Bool.not_false])
    rw [zip_add]
    repeat' (first|(with_reducible first|refine sd_seq ?_|refine sd_par ?_|refine ev_op ?_|refine ev_call ?_|refine ea_cons ?_|refine ea_nil ?_|refine ev_ci ?_|refine post_sd ?_)|((with_reducible apply ev_v);exact rfl)|((with_reducible apply ev_vs);exact rfl)|((with_reducible apply cd_tupl);exact rfl)|simp only [List.set_cons_zero, List.set_cons_succ, Bool.not_true, Bool.not_false])
    refine od_f0 ?_
    repeat' (first|(with_reducible first|refine ea_nil ?_)|((with_reducible apply post_call);exact rfl))
    refine ⟨a, c, f.ins, rfl, by omega, by omega, fun r hr0 hr1 => ?_⟩
    obtain ⟨i, rfl⟩ : ∃ i : Nat, r = i := ⟨r.toNat, by omega⟩
    have hil : i < f.ins := by omega
    have hwl2 : (addv p (vI v)).length = f.ins := by rw [addv_len (by omega), hvI]
    have hLV : Led f m ps p (addv p (vI v)) (goV m 0 g v) := I.goesV k (v := v) (w := 0) (by omega) hp
    repeat' (first|(with_reducible first|refine sd_seq ?_|refine sd_if ?_|refine et_B ?_|refine et_not ?_|refine ev_call ?_|refine ea_cons ?_|refine ea_nil ?_|refine ev_cn ?_)|((with_reducible apply ev_v);exact rfl)|((with_reducible apply post_call);exact rfl)|((with_reducible apply post_par);exact rfl;exact rfl)|simp only [List.set_cons_zero, List.set_cons_succ, Bool.not_true, Bool.not_false])
    refine ⟨f, addv p (vI v), rfl, k, hwl2, ?_⟩
    refine ⟨_, rfl, ?_⟩
    refine sdM (fun δ' => ∃ s13 s14, δ' = [.un, .src a c, .d (fnD f), .d (machD m), .d (.list (ps.map tI)), .d (stepD (goV m 0 g v)), .d (.int i), .d (tN v), .d (.bool (f.never (vI v))), .d (.int g), .d (tI (addv p (vI v))), .un, .un, s13, s14, .un, .un]) (fun hn => ?_) (fun hn => ?_) ?_
    · have hn' : f.never (addv p (vI v)) = false := by cases hx : f.never (addv p (vI v)) with
        | true => rw [hx] at hn; cases hn
        | false => rfl
      obtain ⟨b, hb, e⟩ := hLV.2 hn'
      repeat' (first|(with_reducible first|refine sd_seq ?_|refine sd_asg ?_)|simp only [List.set_cons_zero, List.set_cons_succ, Bool.not_true, Bool.not_false])
      refine ev_lcMm ((f.given p).zip (f.given (addv p (vI v)))) (fun p => .tuple [.int p.1, .int p.2]) (fun p : Int × Int => .int (p.2 - p.1)) (noA2 rfl rfl rfl rfl) (ei_zipK ?_)
      repeat' (first|(with_reducible first|refine ev_op ?_|refine ev_call ?_|refine ea_cons ?_)|((with_reducible apply ev_v);exact rfl))
      refine od_ixl rfl (atI_nat hpg) ?_
      repeat' (first|(with_reducible first|refine ea_nil ?_)|((with_reducible apply post_call);exact rfl))
      refine ⟨f, p, rfl, k, hpl, ?_⟩
      repeat' (first|(with_reducible first|refine ev_call ?_|refine ea_cons ?_|refine ea_nil ?_)|((with_reducible apply ev_v);exact rfl)|((with_reducible apply post_call);exact rfl))
      refine ⟨f, addv p (vI v), rfl, k, hwl2, ?_⟩
      repeat' (first|(with_reducible first|refine ea_nil ?_))
      refine ⟨_, _, _, _, _, _, rfl, rfl, rfl, (fun z => by cases z), zipD_map _ _ _ _, by rw [List.length_zip, given_len, given_len]; have := k.outs.2; omega, fun j q hq => ?_, fun pq => ?_⟩
      · repeat' (first|(with_reducible first|refine ev_op ?_|refine gvs_cons ?_|refine gvs_nil ?_|refine od_I0i ?_)|((with_reducible apply ev_v);exact rfl)|((with_reducible apply gv_tup);exact rfl)|((with_reducible apply gv_name);exact (by simp))|simp only [List.set_cons_zero, List.set_cons_succ, Bool.not_true, Bool.not_false])
      rw [zip_sub]
      repeat' (first|(with_reducible first|refine sd_asg ?_|refine ev_tup ?_|refine ea_cons ?_|refine post_so ?_)|simp only [List.set_cons_zero, List.set_cons_succ, Bool.not_true, Bool.not_false])
      refine ev_index (ds := ps.map tI) (d := tI (f.at (addv p (vI v)))) ?_
      repeat' (first|((with_reducible apply ev_v);exact rfl))
      refine ⟨rfl, ?_⟩
      repeat' (first|(with_reducible first|refine ev_call ?_|refine ea_cons ?_|refine ea_nil ?_)|((with_reducible apply ev_v);exact rfl)|((with_reducible apply post_call);exact rfl))
      refine ⟨f, addv p (vI v), rfl, k, hwl2, ?_⟩
      refine ⟨rfl, (shp_tI _).ok (by decide), shp_ps ps, b, tI _, ix1 hb, ix2 _, ixN I hb, ?_⟩
      repeat' (first|(with_reducible first|refine ev_cb1 ?_|refine ea_cons ?_|refine ea_nil ?_|refine post_sd ?_)|((with_reducible apply ev_vo);exact rfl)|((with_reducible apply cd_tupl);exact rfl)|((with_reducible apply post_all);exact rfl;exact Nat.le_of_ble_eq_true rfl)|simp only [List.set_cons_zero, List.set_cons_succ, Bool.not_true, Bool.not_false])
      rw [e]
      exact ⟨_, _, rfl⟩
    · have hn' : f.never (addv p (vI v)) = true := by cases hx : f.never (addv p (vI v)) with
        | true => rfl
        | false => rw [hx] at hn; cases hn
      repeat' (first|(with_reducible first|refine sd_next ?_)|simp only [List.set_cons_zero, List.set_cons_succ, Bool.not_true, Bool.not_false])
      rw [hLV.1 hn']
      exact ⟨_, _, rfl⟩
    rintro δ' ⟨s13, s14, rfl⟩
    have hgm : g < m.steps.length := by rw [I.len]; exact hgl
    repeat' (first|(with_reducible first|refine sd_seq ?_|refine sd_if ?_|refine et_test ?_|refine ev_op ?_|refine ev_call ?_|refine ev_cb1 ?_|refine ea_cons ?_|refine ea_nil ?_)|((with_reducible apply ev_v);exact rfl)|((with_reducible apply post_call);exact rfl)|simp only [List.set_cons_zero, List.set_cons_succ, Bool.not_true, Bool.not_false])
    refine ⟨m, g, v, rfl, hno, hgm, hvm, hv62, ?_⟩
    have hSL := stepS_led I k hLV hpl hvI hvB
    repeat' (first|(with_reducible first|refine ea_nil ?_))
    refine cd_reprT hSL ?_
    repeat' (first|(with_reducible first|refine ev_cb1 ?_|refine ea_cons ?_|refine ea_nil ?_)|((with_reducible apply ev_v);exact rfl))
    refine cd_reprT hSL ?_
    repeat' (first|(with_reducible first|refine od_nes ?_|refine post_b ?_)|simp only [List.set_cons_zero, List.set_cons_succ, Bool.not_true, Bool.not_false])
    refine ifFn ?_
    repeat' (first|(with_reducible first|refine sd_seq ?_|refine sd_par ?_|refine sd_next ?_|refine ev_op ?_|refine ev_sl ?_|refine ea_cons ?_)|((with_reducible apply ev_v);exact rfl)|simp only [List.set_cons_zero, List.set_cons_succ, Bool.not_true, Bool.not_false])
    obtain ⟨A, hA⟩ : ∃ A, p[i]? = some A := ⟨_, List.getElem?_eq_getElem (by omega)⟩
    obtain ⟨n, hn⟩ : ∃ n, v[i]? = some n := ⟨_, List.getElem?_eq_getElem (by omega)⟩
    have hB : (vI v)[i]? = some (n : Int) := by unfold vI; rw [List.getElem?_map, hn]; rfl
    have hfar : addv p (unit f.ins i n) = p.take i ++ [A + n] ++ p.drop (i + 1) := by rw [← hpl]; exact addv_one hA hB
    refine od_ixl rfl (atI_nat hpg) ?_
    repeat' (first|(with_reducible first|refine eo_n ?_|refine eo_s ?_|refine post_i ?_)|((with_reducible apply ev_v);exact rfl))
    refine sd_slt ?_
    rw [cut_lo]
    repeat' (first|(with_reducible first|refine ev_op ?_|refine ev_tup ?_|refine ea_cons ?_)|((with_reducible apply ev_v);exact rfl))
    refine od_ixl rfl (atI_nat hpg) ?_
    repeat' (first|((with_reducible apply ev_v);exact rfl))
    refine od_ixt (atI_nat (by rw [List.getElem?_map, hA]; rfl)) ?_
    repeat' (first|(with_reducible first|refine ev_op ?_)|((with_reducible apply ev_v);exact rfl))
    refine od_ixt (atI_nat (by rw [List.getElem?_map, hn]; rfl)) ?_
    repeat' (first|(with_reducible first|refine ea_nil ?_|refine od_addi ?_)|((with_reducible apply post_all);exact rfl;exact Nat.le_of_ble_eq_true rfl)|simp only [List.set_cons_zero, List.set_cons_succ, Bool.not_true, Bool.not_false])
    refine od_addt (by rw [List.length_take, List.length_map]; show _ + 1 ≤ _; omega) ?_
    repeat' (first|(with_reducible first|refine ev_op ?_|refine ev_sl ?_)|((with_reducible apply ev_v);exact rfl))
    refine od_ixl rfl (atI_nat hpg) ?_
    repeat' (first|(with_reducible first|refine ev_op ?_|refine eo_n ?_|refine eo_s ?_|refine ev_ci ?_|refine od_addi ?_|refine post_i ?_)|((with_reducible apply ev_v);exact rfl))
    rw [show ((i : Int) + 1) = ((i + 1 : Nat) : Int) from rfl]
    refine sd_slt ?_
    rw [cut_hi]
    refine od_addt (by rw [List.length_append, List.length_take, List.length_drop, List.length_map]; show _ + 1 + _ ≤ _; omega) ?_
    rw [show List.take i (List.map PyData.int p) ++ [PyData.int (A + (n : Int))] ++ List.drop (i + 1) (List.map PyData.int p) = (addv p (unit f.ins i n)).map PyData.int by rw [hfar, List.map_append, List.map_append, List.map_take, List.map_drop]; rfl]
    have hLU : Led f m ps p (addv p (unit f.ins i n)) (go m i n g) := I.goes k hil hp n
    have hul : (addv p (unit f.ins i n)).length = f.ins := by rw [addv_len (by rw [hpl, unit_len]), unit_len]
    have hun : n ≤ 10 ^ 12 := hvb n (List.mem_of_getElem? hn)
    have huB : ∀ x ∈ unit f.ins i (n : Int), 0 ≤ x ∧ x ≤ 10 ^ 12 := fun x hx => ⟨unit_nonneg (Int.natCast_nonneg _) x hx, by
      unfold unit at hx
      rcases List.mem_or_eq_of_mem_set hx with h | h
      · rw [(List.mem_replicate.mp h).2]; decide
      · rw [h]; exact_mod_cast hun⟩
    have hSU := stepS_led I k hLU hpl (unit_len ..) huB
    repeat' (first|(with_reducible first|refine sd_seq ?_|refine sd_if ?_|refine et_B ?_|refine et_not ?_|refine ev_call ?_|refine ea_cons ?_|refine ea_nil ?_|refine ev_cn ?_)|((with_reducible apply ev_v);exact rfl)|((with_reducible apply post_call);exact rfl)|((with_reducible apply post_par);exact rfl;exact rfl)|simp only [List.set_cons_zero, List.set_cons_succ, Bool.not_true, Bool.not_false])
    refine ⟨f, addv p (unit f.ins i n), rfl, k, hul, ?_⟩
    refine ⟨_, rfl, ?_⟩
    refine sdM (fun δ' => ∃ s13 s14, δ' = [.un, .src a c, .d (fnD f), .d (machD m), .d (.list (ps.map tI)), .d (stepD (go m i n g)), .d (.int i), .d (tN v), .d (.bool (f.never (vI v))), .d (.int g), .d (tI (addv p (vI v))), .un, .un, s13, s14, .un, .un]) (fun hn => ?_) (fun hn => ?_) ?_
    · have hn' : f.never (addv p (unit f.ins i n)) = false := by cases hx : f.never (addv p (unit f.ins i n)) with
        | true => rw [hx] at hn; cases hn
        | false => rfl
      obtain ⟨b, hb, e⟩ := hLU.2 hn'
      repeat' (first|(with_reducible first|refine sd_seq ?_|refine sd_asg ?_)|simp only [List.set_cons_zero, List.set_cons_succ, Bool.not_true, Bool.not_false])
      refine ev_lcMm ((f.given p).zip (f.given (addv p (unit f.ins i n)))) (fun p => .tuple [.int p.1, .int p.2]) (fun p : Int × Int => .int (p.2 - p.1)) (noA2 rfl rfl rfl rfl) (ei_zipK ?_)
      repeat' (first|(with_reducible first|refine ev_op ?_|refine ev_call ?_|refine ea_cons ?_)|((with_reducible apply ev_v);exact rfl))
      refine od_ixl rfl (atI_nat hpg) ?_
      repeat' (first|(with_reducible first|refine ea_nil ?_)|((with_reducible apply post_call);exact rfl))
      refine ⟨f, p, rfl, k, hpl, ?_⟩
      repeat' (first|(with_reducible first|refine ev_call ?_|refine ea_cons ?_|refine ea_nil ?_)|((with_reducible apply ev_v);exact rfl)|((with_reducible apply post_call);exact rfl))
      refine ⟨f, addv p (unit f.ins i n), rfl, k, hul, ?_⟩
      repeat' (first|(with_reducible first|refine ea_nil ?_))
      refine ⟨_, _, _, _, _, _, rfl, rfl, rfl, (fun z => by cases z), zipD_map _ _ _ _, by rw [List.length_zip, given_len, given_len]; have := k.outs.2; omega, fun j q hq => ?_, fun pq => ?_⟩
      · repeat' (first|(with_reducible first|refine ev_op ?_|refine gvs_cons ?_|refine gvs_nil ?_|refine od_I0i ?_)|((with_reducible apply ev_v);exact rfl)|((with_reducible apply gv_tup);exact rfl)|((with_reducible apply gv_name);exact (by simp))|simp only [List.set_cons_zero, List.set_cons_succ, Bool.not_true, Bool.not_false])
      rw [zip_sub]
      repeat' (first|(with_reducible first|refine sd_asg ?_|refine ev_tup ?_|refine ea_cons ?_|refine post_so ?_)|simp only [List.set_cons_zero, List.set_cons_succ, Bool.not_true, Bool.not_false])
      refine ev_index (ds := ps.map tI) (d := tI (f.at (addv p (unit f.ins i n)))) ?_
      repeat' (first|((with_reducible apply ev_v);exact rfl))
      refine ⟨rfl, ?_⟩
      repeat' (first|(with_reducible first|refine ev_call ?_|refine ea_cons ?_|refine ea_nil ?_)|((with_reducible apply ev_v);exact rfl)|((with_reducible apply post_call);exact rfl))
      refine ⟨f, addv p (unit f.ins i n), rfl, k, hul, ?_⟩
      refine ⟨rfl, (shp_tI _).ok (by decide), shp_ps ps, b, tI _, ix1 hb, ix2 _, ixN I hb, ?_⟩
      repeat' (first|(with_reducible first|refine ev_cb1 ?_|refine ea_cons ?_|refine ea_nil ?_|refine post_sd ?_)|((with_reducible apply ev_vo);exact rfl)|((with_reducible apply cd_tupl);exact rfl)|((with_reducible apply post_all);exact rfl;exact Nat.le_of_ble_eq_true rfl)|simp only [List.set_cons_zero, List.set_cons_succ, Bool.not_true, Bool.not_false])
      rw [e]
      exact ⟨_, _, rfl⟩
    · have hn' : f.never (addv p (unit f.ins i n)) = true := by cases hx : f.never (addv p (unit f.ins i n)) with
        | true => rfl
        | false => rw [hx] at hn; cases hn
      repeat' (first|(with_reducible first|refine sd_next ?_)|simp only [List.set_cons_zero, List.set_cons_succ, Bool.not_true, Bool.not_false])
      rw [hLU.1 hn']
      exact ⟨_, _, rfl⟩
    rintro δ' ⟨s13, s14, rfl⟩
    repeat' (first|(with_reducible first|refine sd_if ?_|refine et_test ?_|refine ev_op ?_|refine ev_call ?_|refine ev_cb1 ?_|refine ea_cons ?_)|((with_reducible apply ev_v);exact rfl))
    refine od_ixt (atI_nat (by rw [List.getElem?_map, hn]; rfl)) ?_
    repeat' (first|(with_reducible first|refine ea_nil ?_)|((with_reducible apply post_call);exact rfl)|simp only [List.set_cons_zero, List.set_cons_succ, Bool.not_true, Bool.not_false])
    refine ⟨m, g, i, n, rfl, hno, hgm, by rw [I.ins]; exact hil, Nat.lt_of_le_of_lt hun (by decide), ?_⟩
    repeat' (first|(with_reducible first|refine ea_nil ?_))
    refine cd_reprT hSU ?_
    repeat' (first|(with_reducible first|refine ev_cb1 ?_|refine ea_cons ?_|refine ea_nil ?_)|((with_reducible apply ev_v);exact rfl))
    refine cd_reprT hSU ?_
    repeat' (first|(with_reducible first|refine od_nes ?_|refine post_b ?_)|simp only [List.set_cons_zero, List.set_cons_succ, Bool.not_true, Bool.not_false])
    refine ifFn ?_
    repeat' (first|(with_reducible first|refine sd_next ?_)|simp only [List.set_cons_zero, List.set_cons_succ, Bool.not_true, Bool.not_false])
    exact ⟨_, _, _, _, _, _, _, _, rfl⟩
  · obtain ⟨s5, s6, s7, s8, s9, s10, s13, s14, rfl⟩ := hI
    repeat' (first|(with_reducible first|refine sd_seq ?_|refine sd_asg ?_|refine ev_op ?_|refine ev_tup ?_|refine ev_lst ?_|refine ev_call ?_|refine ea_cons ?_|refine ea_nil ?_|refine ev_ci ?_|refine post_sd ?_)|((with_reducible apply ev_v);exact rfl)|((with_reducible apply post_all);exact rfl;exact Nat.le_of_ble_eq_true rfl)|simp only [List.set_cons_zero, List.set_cons_succ, Bool.not_true, Bool.not_false])
    have h12 : ((10 : Int) ^ (12 : Int).toNat) = ((1000000000000 : Nat) : Int) := by decide
    have h62 : ∀ n ∈ [1000000000000], n < 2 ^ 62 := fun n hn => by rw [List.mem_singleton.mp hn]; decide
    refine od_Ii (C := CPow) (g := fun i j => i ^ j.toNat) ⟨by decide, by decide, by decide⟩ ?_
    rw [h12]
    repeat' (first|(with_reducible first|refine ea_nil ?_)|((with_reducible apply post_call);exact rfl)|((with_reducible apply post_all);exact rfl;exact Nat.le_of_ble_eq_true rfl)|simp only [List.set_cons_zero, List.set_cons_succ, Bool.not_true, Bool.not_false])
    refine ⟨half, [1000000000000], rfl, half_ok, by decide, h62, ?_⟩
    rw [goV_one half_ok (by decide), half_go _ _ (by decide)]
    repeat' (first|(with_reducible first|refine ev_op ?_|refine ev_tup ?_|refine ev_call ?_|refine ea_cons ?_|refine ev_ci ?_)|((with_reducible apply ev_v);exact rfl))
    refine od_Ii (C := CPow) (g := fun i j => i ^ j.toNat) ⟨by decide, by decide, by decide⟩ ?_
    rw [h12]
    repeat' (first|(with_reducible first|refine ea_nil ?_)|((with_reducible apply post_call);exact rfl)|((with_reducible apply post_all);exact rfl;exact Nat.le_of_ble_eq_true rfl)|simp only [List.set_cons_zero, List.set_cons_succ, Bool.not_true, Bool.not_false])
    refine ⟨half, 1, [1000000000000], rfl, half_ok, by decide, by decide, h62, ?_⟩
    rw [goV_one half_ok (by decide), half_go _ _ (by decide)]
    repeat' (first|(with_reducible first|refine ev_call ?_|refine ea_cons ?_|refine ea_nil ?_|refine ev_ci ?_)|((with_reducible apply ev_v);exact rfl)|((with_reducible apply post_call);exact rfl))
    refine ⟨half, 0, 0, 7, rfl, half_ok, by decide, by decide, by decide, ?_⟩
    rw [half_go _ _ (by decide)]
    repeat' (first|(with_reducible first|refine ev_call ?_|refine ea_cons ?_|refine ea_nil ?_)|((with_reducible apply ev_v);exact rfl)|((with_reducible apply post_call);exact rfl))
    refine ⟨half, rfl, half_ok, fun ys hyl hys => ?_⟩
    obtain ⟨y, rfl⟩ : ∃ y, ys = [y] := by
      match ys, hyl with
      | [y], _ => exact ⟨y, rfl⟩
    rw [half_slope (hys 0 y rfl)]
    repeat' (first|(with_reducible first|refine sd_seq ?_|refine ea_nil ?_|refine post_so ?_)|((with_reducible apply post_all);exact rfl;exact Nat.le_of_ble_eq_true rfl)|(with_reducible first|intro _)|simp only [List.set_cons_zero, List.set_cons_succ, Bool.not_true, Bool.not_false])
    refine sd_app rfl (Nat.le_of_ble_eq_true rfl) ?_
    repeat' (first|(with_reducible first|refine ev_call ?_|refine ea_cons ?_|refine ea_nil ?_|refine ev_ci ?_)|((with_reducible apply ev_v);exact rfl)|((with_reducible apply post_call);exact rfl)|simp only [List.set_cons_zero, List.set_cons_succ, Bool.not_true, Bool.not_false])
    refine ⟨half, 0, rfl, half_ok, by decide, fun ms gs t L => ?_⟩
    obtain ⟨rfl, rfl, rfl⟩ := half_line.uniq L
    refine ⟨fun z => (by cases z), fun _ => ?_⟩
    repeat' (first|(with_reducible first|refine sd_ret ?_|refine ev_op ?_|refine ev_cb1 ?_|refine ea_cons ?_|refine ea_nil ?_|refine post_d ?_)|((with_reducible apply ev_vo);exact rfl)|simp only [List.set_cons_zero, List.set_cons_succ, Bool.not_true, Bool.not_false])
    refine cd_reprS (d := .list toldD) rfl shw_told (by decide) (by decide) (.inl ⟨_, rfl⟩) ?_
    repeat' (first|(with_reducible first|refine ev_op ?_|refine ev_tup ?_|refine ev_lst ?_|refine ev_cb1 ?_|refine ea_cons ?_|refine ev_ci ?_))
    have h11 : (5 : Int) * ((10 : Int) ^ (11 : Int).toNat) = 500000000000 := by decide
    refine od_Ii (C := CPow) (g := fun i j => i ^ j.toNat) ⟨by decide, by decide, by decide⟩ ?_
    skip
    refine od_muli (.inl (.inl ⟨by decide, by decide⟩)) ?_
    rw [h11]
    repeat' (first|(with_reducible first|refine ev_op ?_|refine ev_tup ?_|refine ea_cons ?_|refine ea_nil ?_|refine ev_ci ?_)|((with_reducible apply post_all);exact rfl;exact Nat.le_of_ble_eq_true rfl)|simp only [List.set_cons_zero, List.set_cons_succ, Bool.not_true, Bool.not_false])
    refine od_Ii (C := CPow) (g := fun i j => i ^ j.toNat) ⟨by decide, by decide, by decide⟩ ?_
    skip
    refine od_muli (.inl (.inl ⟨by decide, by decide⟩)) ?_
    rw [h11]
    repeat' (first|(with_reducible first|refine ev_tup ?_|refine ea_cons ?_|refine ea_nil ?_|refine ev_ci ?_|refine ev_cn ?_)|((with_reducible apply post_all);exact rfl;exact Nat.le_of_ble_eq_true rfl)|(with_reducible first|intro _)|simp only [List.set_cons_zero, List.set_cons_succ, Bool.not_true, Bool.not_false])
    refine cd_reprS (d := .list toldD) rfl shw_told (by decide) (by decide) (.inl ⟨_, rfl⟩) ?_
    repeat' (first|(with_reducible first|refine od_eqs ?_|refine post_d ?_)|simp only [List.set_cons_zero, List.set_cons_succ, Bool.not_true, Bool.not_false])
    exact congrArg PyData.bool (decide_eq_true trivial)
end
end Lw

namespace Lw
open PySem PySem.Spec PyProof.Rows L2 Dl
def top (i : Nat) : Stmt := PySem.Challenge.pw_anysequence_k13_great_numbers_by_own_loo.main.body.getD i (.Pass ⟨0, 0, 0, 0⟩)
structure Tx (mg : Str → Option Value) : Prop where
  n_abs : mg "abs" = none
  n_all : mg "all" = none
  n_bool : mg "bool" = none
  n_enumerate : mg "enumerate" = none
  n_int : mg "int" = none
  n_isinstance : mg "isinstance" = none
  n_len : mg "len" = none
  n_max : mg "max" = none
  n_min : mg "min" = none
  n_range : mg "range" = none
  n_repr : mg "repr" = none
  n_sorted : mg "sorted" = none
  n_sum : mg "sum" = none
  n_tuple : mg "tuple" = none
  n_zip : mg "zip" = none
  c_MOST_GIVEN : ∃ t, mg "MOST_GIVEN" = some (.int 9999 t)
  c_MOST_INS : ∃ t, mg "MOST_INS" = some (.int 40 t)
  c_MOST_MODES : ∃ t, mg "MOST_MODES" = some (.int 150 t)
  c_MOST_OUTS : ∃ t, mg "MOST_OUTS" = some (.int 400 t)

section
variable {P : Program} {w : World} {K : Fg} {mg : Str → Option Value} {base : Heap}
abbrev st_is_whole : Stmt := top 1
theorem sc_is_whole : FnScope N_is_whole ["value"] (defScope st_is_whole) := ⟨rfl, rfl, rfl, by decide +kernel, rfl, by decide +kernel, by decide +kernel⟩
theorem w_is_whole (T : Tx mg)  (f : Addr) (cdv : Value) (A : Around) (outer : List Env) (s : Shared) (H : Hp) (E : XK) (hgd : A.guards = some []) (hr : Room 0 (A.deeper (envOfC "is_whole" (defScope st_is_whole) s.heap.objs.size f cdv))) :
    PSs (cxOf CX0 P w K mg base N_is_whole "is_whole" (defScope st_is_whole) f cdv A outer s H E) (defBody st_is_whole) (t_is_whole K) := by
  have nd := sc_is_whole.nd
  have hu1 : (A.deeper (envOfC "is_whole" (defScope st_is_whole) s.heap.objs.size f cdv)).units + 1 < cLine := by have := hr.un; omega
  have hu60 : (A.deeper (envOfC "is_whole" (defScope st_is_whole) s.heap.objs.size f cdv)).units + 60 < cLine := by have := hr.un; omega
  have hu64 : (A.deeper (envOfC "is_whole" (defScope st_is_whole) s.heap.objs.size f cdv)).units + 64 < cLine := by have := hr.un; omega
  have hu65 : (A.deeper (envOfC "is_whole" (defScope st_is_whole) s.heap.objs.size f cdv)).units + 65 < cLine := by have := hr.un; omega
  refine PSs.nox ?_
  exact (pss_one (ps_ret (pe_and (pe_callB call_isi (by rfl) T.n_isinstance (by decide +kernel) (pa_cons (pv 0) (pa_cons (pe_bltn (by rfl) T.n_int (by decide +kernel) rfl) pa_nil))) (pe_one (pe_not (pe_callB call_isi (by rfl) T.n_isinstance (by decide +kernel) (pa_cons (pv 0) (pa_cons (pe_bltn (by rfl) T.n_bool (by decide +kernel) rfl) pa_nil))))))))
theorem ln_is_whole : ∀ xs P, F_is_whole xs P → xs.length = 1 := fun xs P h => by
  unfold F_is_whole at h
  repeat (first | (obtain ⟨h1, _⟩ := h; rw [h1]; rfl) | (obtain ⟨_, h⟩ := h))
theorem ok_is_whole (T : Tx mg) (D : L2.Stands K mg "is_whole" st_is_whole ["value"])  : L2.Keeps P w K mg base "is_whole" ["value"] 1 (liftSp K F_is_whole) :=
  D.keeps sc_is_whole ln_is_whole (fun f cdv A outer s H E hgd hr => w_is_whole T  f cdv A outer s H E hgd hr) fun Γ xs P ha h => d_is_whole ha h
abbrev st_is_vector : Stmt := top 2
theorem sc_is_vector : FnScope N_is_vector ["many", "value"] (defScope st_is_vector) := ⟨rfl, rfl, rfl, by decide +kernel, rfl, by decide +kernel, by decide +kernel⟩
theorem w_is_vector (T : Tx mg) (k_is_whole : L2.Keeps P w K mg base "is_whole" ["value"] 1 (liftSp K F_is_whole)) (f : Addr) (cdv : Value) (A : Around) (outer : List Env) (s : Shared) (H : Hp) (E : XK) (hgd : A.guards = some []) (hr : Room 1 (A.deeper (envOfC "is_vector" (defScope st_is_vector) s.heap.objs.size f cdv))) :
    PSs (cxOf CX0 P w K mg base N_is_vector "is_vector" (defScope st_is_vector) f cdv A outer s H E) (defBody st_is_vector) (t_is_vector K) := by
  have nd := sc_is_vector.nd
  have hu1 : (A.deeper (envOfC "is_vector" (defScope st_is_vector) s.heap.objs.size f cdv)).units + 1 < cLine := by have := hr.un; omega
  have hu60 : (A.deeper (envOfC "is_vector" (defScope st_is_vector) s.heap.objs.size f cdv)).units + 60 < cLine := by have := hr.un; omega
  have hu64 : (A.deeper (envOfC "is_vector" (defScope st_is_vector) s.heap.objs.size f cdv)).units + 64 < cLine := by have := hr.un; omega
  have hu65 : (A.deeper (envOfC "is_vector" (defScope st_is_vector) s.heap.objs.size f cdv)).units + 65 < cLine := by have := hr.un; omega
  refine PSs.nox ?_
  exact (pss_one (ps_ret (pe_and (pe_callB call_isi (by rfl) T.n_isinstance (by decide +kernel) (pa_cons (pv 1) (pa_cons (pe_bltn (by rfl) T.n_tuple (by decide +kernel) rfl) pa_nil))) (pe_and (pe_cmpR (op_eqU hu64) (pe_callB call_lenU (by rfl) T.n_len (by decide +kernel) (pa_cons (pv 1) pa_nil)) (pv 0) (nomark _)) (pe_one (pe_callB (cr_all rfl) (by rfl) T.n_all (by decide +kernel) (pa_cons (pe_lc (own := [("one", 2)]) (g := (gName 2)) (tt := tYes) (by rfl) nd (pi_U (pv 1)) (blkOk_by (by kernel_rfl)) (fun _ _ _ _ _ => (pg_name (i := 2) nd rfl (by first | exact Or.inl rfl | exact Or.inr rfl))) (fun _ _ _ _ _ => pts_nil) (fun _ _ _ _ _ => (pe_and (pe_callD k_is_whole hgd hr (by decide) (by rfl) (pa_cons (pv 2) pa_nil)) (pe_one (pe_cmpR op_ge (pv 2) pe_int (nomark _)))))) pa_nil)))))))
theorem ln_is_vector : ∀ xs P, F_is_vector xs P → xs.length = 2 := fun xs P h => by
  unfold F_is_vector at h
  repeat (first | (obtain ⟨h1, _⟩ := h; rw [h1]; rfl) | (obtain ⟨_, h⟩ := h))
theorem ok_is_vector (T : Tx mg) (D : L2.Stands K mg "is_vector" st_is_vector ["many", "value"]) (k_is_whole : L2.Keeps P w K mg base "is_whole" ["value"] 1 (liftSp K F_is_whole)) : L2.Keeps P w K mg base "is_vector" ["many", "value"] 2 (liftSp K F_is_vector) :=
  D.keeps sc_is_vector ln_is_vector (fun f cdv A outer s H E hgd hr => w_is_vector T k_is_whole f cdv A outer s H E hgd hr) fun Γ xs P ha h => d_is_vector ha h
abbrev st_nothing : Stmt := top 3
theorem sc_nothing : FnScope N_nothing ["many"] (defScope st_nothing) := ⟨rfl, rfl, rfl, by decide +kernel, rfl, by decide +kernel, by decide +kernel⟩
theorem w_nothing (T : Tx mg)  (f : Addr) (cdv : Value) (A : Around) (outer : List Env) (s : Shared) (H : Hp) (E : XK) (hgd : A.guards = some []) (hr : Room 0 (A.deeper (envOfC "nothing" (defScope st_nothing) s.heap.objs.size f cdv))) :
    PSs (cxOf CX0 P w K mg base N_nothing "nothing" (defScope st_nothing) f cdv A outer s H E) (defBody st_nothing) (t_nothing K) := by
  have nd := sc_nothing.nd
  have hu1 : (A.deeper (envOfC "nothing" (defScope st_nothing) s.heap.objs.size f cdv)).units + 1 < cLine := by have := hr.un; omega
  have hu60 : (A.deeper (envOfC "nothing" (defScope st_nothing) s.heap.objs.size f cdv)).units + 60 < cLine := by have := hr.un; omega
  have hu64 : (A.deeper (envOfC "nothing" (defScope st_nothing) s.heap.objs.size f cdv)).units + 64 < cLine := by have := hr.un; omega
  have hu65 : (A.deeper (envOfC "nothing" (defScope st_nothing) s.heap.objs.size f cdv)).units + 65 < cLine := by have := hr.un; omega
  refine PSs.nox ?_
  exact (pss_one (ps_ret (pe_op op_mulU (pe_tup (pa_cons pe_int pa_nil)) (pv 0))))
theorem ln_nothing : ∀ xs P, F_nothing xs P → xs.length = 1 := fun xs P h => by
  unfold F_nothing at h
  repeat (first | (obtain ⟨h1, _⟩ := h; rw [h1]; rfl) | (obtain ⟨_, h⟩ := h))
theorem ok_nothing (T : Tx mg) (D : L2.Stands K mg "nothing" st_nothing ["many"])  : L2.Keeps P w K mg base "nothing" ["many"] 1 (liftSp K F_nothing) :=
  D.keeps sc_nothing ln_nothing (fun f cdv A outer s H E hgd hr => w_nothing T  f cdv A outer s H E hgd hr) fun Γ xs P ha h => d_nothing ha h
abbrev st_added : Stmt := top 4
theorem sc_added : FnScope N_added ["one", "other"] (defScope st_added) := ⟨rfl, rfl, rfl, by decide +kernel, rfl, by decide +kernel, by decide +kernel⟩
theorem w_added (T : Tx mg)  (f : Addr) (cdv : Value) (A : Around) (outer : List Env) (s : Shared) (H : Hp) (E : XK) (hgd : A.guards = some []) (hr : Room 0 (A.deeper (envOfC "added" (defScope st_added) s.heap.objs.size f cdv))) :
    PSs (cxOf CX0 P w K mg base N_added "added" (defScope st_added) f cdv A outer s H E) (defBody st_added) (t_added K) := by
  have nd := sc_added.nd
  have hu1 : (A.deeper (envOfC "added" (defScope st_added) s.heap.objs.size f cdv)).units + 1 < cLine := by have := hr.un; omega
  have hu60 : (A.deeper (envOfC "added" (defScope st_added) s.heap.objs.size f cdv)).units + 60 < cLine := by have := hr.un; omega
  have hu64 : (A.deeper (envOfC "added" (defScope st_added) s.heap.objs.size f cdv)).units + 64 < cLine := by have := hr.un; omega
  have hu65 : (A.deeper (envOfC "added" (defScope st_added) s.heap.objs.size f cdv)).units + 65 < cLine := by have := hr.un; omega
  refine PSs.nox ?_
  exact (pss_one (ps_ret (pe_callTy call_tupU (by rfl) T.n_tuple (by decide +kernel) (pa_cons (pe_lc (own := [("a", 2), ("b", 3)]) (g := (gTup K 2 (gCons (gName 2) (gCons (gName 3) gNil)))) (tt := tYes) (by rfl) nd (pi_zS (by rfl) T.n_zip (pa_cons (pv 0) (pa_cons (pv 1) pa_nil))) (blkOk_by (by kernel_rfl)) (fun _ _ _ _ _ => (pg_tup (by rfl) (pgs_cons (pg_name (i := 2) nd rfl (by first | exact Or.inl rfl | exact Or.inr rfl)) (pgs_cons (pg_name (i := 3) nd rfl (by first | exact Or.inl rfl | exact Or.inr rfl)) pgs_nil)))) (fun _ _ _ _ _ => pts_nil) (fun _ _ _ _ _ => (pe_op op_addU (pv 2) (pv 3)))) pa_nil))))
theorem ln_added : ∀ xs P, F_added xs P → xs.length = 2 := fun xs P h => by
  unfold F_added at h
  repeat (first | (obtain ⟨h1, _⟩ := h; rw [h1]; rfl) | (obtain ⟨_, h⟩ := h))
theorem ok_added (T : Tx mg) (D : L2.Stands K mg "added" st_added ["one", "other"])  : L2.Keeps P w K mg base "added" ["one", "other"] 1 (liftSp K F_added) :=
  D.keeps sc_added ln_added (fun f cdv A outer s H E hgd hr => w_added T  f cdv A outer s H E hgd hr) fun Γ xs P ha h => d_added ha h
abbrev st_taken_off : Stmt := top 5
theorem sc_taken_off : FnScope N_taken_off ["one", "other"] (defScope st_taken_off) := ⟨rfl, rfl, rfl, by decide +kernel, rfl, by decide +kernel, by decide +kernel⟩
theorem w_taken_off (T : Tx mg)  (f : Addr) (cdv : Value) (A : Around) (outer : List Env) (s : Shared) (H : Hp) (E : XK) (hgd : A.guards = some []) (hr : Room 0 (A.deeper (envOfC "taken_off" (defScope st_taken_off) s.heap.objs.size f cdv))) :
    PSs (cxOf CX0 P w K mg base N_taken_off "taken_off" (defScope st_taken_off) f cdv A outer s H E) (defBody st_taken_off) (t_taken_off K) := by
  have nd := sc_taken_off.nd
  have hu1 : (A.deeper (envOfC "taken_off" (defScope st_taken_off) s.heap.objs.size f cdv)).units + 1 < cLine := by have := hr.un; omega
  have hu60 : (A.deeper (envOfC "taken_off" (defScope st_taken_off) s.heap.objs.size f cdv)).units + 60 < cLine := by have := hr.un; omega
  have hu64 : (A.deeper (envOfC "taken_off" (defScope st_taken_off) s.heap.objs.size f cdv)).units + 64 < cLine := by have := hr.un; omega
  have hu65 : (A.deeper (envOfC "taken_off" (defScope st_taken_off) s.heap.objs.size f cdv)).units + 65 < cLine := by have := hr.un; omega
  refine PSs.nox ?_
  exact (pss_one (ps_ret (pe_callTy call_tupU (by rfl) T.n_tuple (by decide +kernel) (pa_cons (pe_lc (own := [("a", 2), ("b", 3)]) (g := (gTup K 2 (gCons (gName 2) (gCons (gName 3) gNil)))) (tt := tYes) (by rfl) nd (pi_zS (by rfl) T.n_zip (pa_cons (pv 0) (pa_cons (pv 1) pa_nil))) (blkOk_by (by kernel_rfl)) (fun _ _ _ _ _ => (pg_tup (by rfl) (pgs_cons (pg_name (i := 2) nd rfl (by first | exact Or.inl rfl | exact Or.inr rfl)) (pgs_cons (pg_name (i := 3) nd rfl (by first | exact Or.inl rfl | exact Or.inr rfl)) pgs_nil)))) (fun _ _ _ _ _ => pts_nil) (fun _ _ _ _ _ => (pe_op op_sub (pv 2) (pv 3)))) pa_nil))))
theorem ln_taken_off : ∀ xs P, F_taken_off xs P → xs.length = 2 := fun xs P h => by
  unfold F_taken_off at h
  repeat (first | (obtain ⟨h1, _⟩ := h; rw [h1]; rfl) | (obtain ⟨_, h⟩ := h))
theorem ok_taken_off (T : Tx mg) (D : L2.Stands K mg "taken_off" st_taken_off ["one", "other"])  : L2.Keeps P w K mg base "taken_off" ["one", "other"] 1 (liftSp K F_taken_off) :=
  D.keeps sc_taken_off ln_taken_off (fun f cdv A outer s H E hgd hr => w_taken_off T  f cdv A outer s H E hgd hr) fun Γ xs P ha h => d_taken_off ha h
abbrev st_times : Stmt := top 6
theorem sc_times : FnScope N_times ["one", "many"] (defScope st_times) := ⟨rfl, rfl, rfl, by decide +kernel, rfl, by decide +kernel, by decide +kernel⟩
theorem w_times (T : Tx mg)  (f : Addr) (cdv : Value) (A : Around) (outer : List Env) (s : Shared) (H : Hp) (E : XK) (hgd : A.guards = some []) (hr : Room 0 (A.deeper (envOfC "times" (defScope st_times) s.heap.objs.size f cdv))) :
    PSs (cxOf CX0 P w K mg base N_times "times" (defScope st_times) f cdv A outer s H E) (defBody st_times) (t_times K) := by
  have nd := sc_times.nd
  have hu1 : (A.deeper (envOfC "times" (defScope st_times) s.heap.objs.size f cdv)).units + 1 < cLine := by have := hr.un; omega
  have hu60 : (A.deeper (envOfC "times" (defScope st_times) s.heap.objs.size f cdv)).units + 60 < cLine := by have := hr.un; omega
  have hu64 : (A.deeper (envOfC "times" (defScope st_times) s.heap.objs.size f cdv)).units + 64 < cLine := by have := hr.un; omega
  have hu65 : (A.deeper (envOfC "times" (defScope st_times) s.heap.objs.size f cdv)).units + 65 < cLine := by have := hr.un; omega
  refine PSs.nox ?_
  exact (pss_one (ps_ret (pe_callTy call_tupU (by rfl) T.n_tuple (by decide +kernel) (pa_cons (pe_lc (own := [("a", 2)]) (g := (gName 2)) (tt := tYes) (by rfl) nd (pi_U (pv 0)) (blkOk_by (by kernel_rfl)) (fun _ _ _ _ _ => (pg_name (i := 2) nd rfl (by first | exact Or.inl rfl | exact Or.inr rfl))) (fun _ _ _ _ _ => pts_nil) (fun _ _ _ _ _ => (pe_op op_mulU (pv 2) (pv 1)))) pa_nil))))
theorem ln_times : ∀ xs P, F_times xs P → xs.length = 2 := fun xs P h => by
  unfold F_times at h
  repeat (first | (obtain ⟨h1, _⟩ := h; rw [h1]; rfl) | (obtain ⟨_, h⟩ := h))
theorem ok_times (T : Tx mg) (D : L2.Stands K mg "times" st_times ["one", "many"])  : L2.Keeps P w K mg base "times" ["one", "many"] 1 (liftSp K F_times) :=
  D.keeps sc_times ln_times (fun f cdv A outer s H E hgd hr => w_times T  f cdv A outer s H E hgd hr) fun Γ xs P ha h => d_times ha h
abbrev st_wire_line : Stmt := top 8
theorem sc_wire_line : FnScope N_wire_line ["machine", "mode", "wire"] (defScope st_wire_line) := ⟨rfl, rfl, rfl, by decide +kernel, rfl, by decide +kernel, by decide +kernel⟩
theorem w_wire_line (T : Tx mg) (k_nothing : L2.Keeps P w K mg base "nothing" ["many"] 1 (liftSp K F_nothing)) (k_added : L2.Keeps P w K mg base "added" ["one", "other"] 1 (liftSp K F_added)) (f : Addr) (cdv : Value) (A : Around) (outer : List Env) (s : Shared) (H : Hp) (E : XK) (hgd : A.guards = some []) (hr : Room 1 (A.deeper (envOfC "wire_line" (defScope st_wire_line) s.heap.objs.size f cdv))) :
    PSs (cxOf CX0 P w K mg base N_wire_line "wire_line" (defScope st_wire_line) f cdv A outer s H E) (defBody st_wire_line) (t_wire_line K) := by
  have nd := sc_wire_line.nd
  have hu1 : (A.deeper (envOfC "wire_line" (defScope st_wire_line) s.heap.objs.size f cdv)).units + 1 < cLine := by have := hr.un; omega
  have hu60 : (A.deeper (envOfC "wire_line" (defScope st_wire_line) s.heap.objs.size f cdv)).units + 60 < cLine := by have := hr.un; omega
  have hu64 : (A.deeper (envOfC "wire_line" (defScope st_wire_line) s.heap.objs.size f cdv)).units + 64 < cLine := by have := hr.un; omega
  have hu65 : (A.deeper (envOfC "wire_line" (defScope st_wire_line) s.heap.objs.size f cdv)).units + 65 < cLine := by have := hr.un; omega
  refine PSs.nox ?_
  exact (pss_cons (ps_par3 (i := 3) (j := 4) (l := 5) (by rfl) nd rfl rfl rfl (by decide) (by decide) (by decide) rfl rfl rfl (pa_cons (pe_lst (pa_cons (pv 1) pa_nil)) (pa_cons (pe_lst (pa_cons (pe_callD k_nothing hgd hr (by decide) (by rfl) (pa_cons (pe_ix (ix_U hu1) (pv 0) pe_int (fun _ _ => rfl)) pa_nil)) pa_nil)) (pa_cons (pe_disp (pps_cons (pv 1) pe_int pps_nil) (by rfl) (by rfl) (fun z => by cases z) (by decide)) pa_nil))) (by rfl))
    (pss_cons (ps_set (i := 6) nd rfl (by first | exact Or.inl rfl | exact Or.inr rfl) (pe_ix (ix_U hu1) (pe_ix (ix_U hu1) (pe_ix (ix_U hu1) (pv 0) pe_int (fun _ _ => rfl)) (pv 1) (fun _ _ => rfl)) (pv 2) (fun _ _ => rfl)))
    (pss_cons (ps_while PassesOwn.never (PW.pt (pw_and (pt_cmpR op_notN (pv 6) pe_non (nomark _)) (pw_and1 (pt_cmpR (op_notInU hu65) (pe_ix (ix_U hu1) (pv 6) pe_int (fun _ _ => rfl)) (pv 5) (by with_unfolding_all rfl))))) (pss_cons (ps_dput hu1 (pv 5) (pe_ix (ix_U hu1) (pv 6) pe_int (fun _ _ => rfl)) (pe_callB call_lenU (by rfl) T.n_len (by decide +kernel) (pa_cons (pv 3) pa_nil)) rfl)
    (pss_cons (ps_expr (pe_bm PySem.F.plainAttrs_list PySem.F.slot_list_append PySem.F.type_list_append mt_append (pv 3) (pa_cons (pe_ix (ix_U hu1) (pv 6) pe_int (fun _ _ => rfl)) pa_nil)))
    (pss_cons (ps_expr (pe_bm PySem.F.plainAttrs_list PySem.F.slot_list_append PySem.F.type_list_append mt_append (pv 4) (pa_cons (pe_callD k_added hgd hr (by decide) (by rfl) (pa_cons (pe_ix (ix_U hu1) (pv 4) (pe_un un_neg pe_int) (fun _ _ => rfl)) (pa_cons (pe_ix (ix_U hu1) (pv 6) pe_int (fun _ _ => rfl)) pa_nil))) pa_nil)))
    (pss_one (ps_set (i := 6) nd rfl (by first | exact Or.inl rfl | exact Or.inr rfl) (pe_ix (ix_U hu1) (pe_ix (ix_U hu1) (pe_ix (ix_U hu1) (pv 0) pe_int (fun _ _ => rfl)) (pe_ix (ix_U hu1) (pv 6) pe_int (fun _ _ => rfl)) (fun _ _ => rfl)) (pv 2) (fun _ _ => rfl))))))))
    (pss_one (ps_ret (pe_tup (pa_cons (pe_callTy call_tupU (by rfl) T.n_tuple (by decide +kernel) (pa_cons (pv 3) pa_nil)) (pa_cons (pe_callTy call_tupU (by rfl) T.n_tuple (by decide +kernel) (pa_cons (pv 4) pa_nil)) (pa_cons (pe_ifExp (pt_cmpR op_notN (pv 6) pe_non (nomark _)) (pe_ix (ix_U hu1) (pv 5) (pe_ix (ix_U hu1) (pv 6) pe_int (fun _ _ => rfl)) (fun _ _ => rfl)) pe_non) pa_nil)))))))))
theorem ln_wire_line : ∀ xs P, F_wire_line xs P → xs.length = 3 := fun xs P h => by
  unfold F_wire_line at h
  repeat (first | (obtain ⟨h1, _⟩ := h; rw [h1]; rfl) | (obtain ⟨_, h⟩ := h))
theorem ok_wire_line (T : Tx mg) (D : L2.Stands K mg "wire_line" st_wire_line ["machine", "mode", "wire"]) (k_nothing : L2.Keeps P w K mg base "nothing" ["many"] 1 (liftSp K F_nothing)) (k_added : L2.Keeps P w K mg base "added" ["one", "other"] 1 (liftSp K F_added)) : L2.Keeps P w K mg base "wire_line" ["machine", "mode", "wire"] 2 (liftSp K F_wire_line) :=
  D.keeps sc_wire_line ln_wire_line (fun f cdv A outer s H E hgd hr => w_wire_line T k_nothing k_added f cdv A outer s H E hgd hr) fun Γ xs P ha h => d_wire_line ha h
abbrev st_slope_at : Stmt := top 9
theorem sc_slope_at : FnScope N_slope_at ["machine", "mode", "wire"] (defScope st_slope_at) := ⟨rfl, rfl, rfl, by decide +kernel, rfl, by decide +kernel, by decide +kernel⟩
theorem w_slope_at (T : Tx mg) (k_wire_line : L2.Keeps P w K mg base "wire_line" ["machine", "mode", "wire"] 2 (liftSp K F_wire_line)) (k_taken_off : L2.Keeps P w K mg base "taken_off" ["one", "other"] 1 (liftSp K F_taken_off)) (k_added : L2.Keeps P w K mg base "added" ["one", "other"] 1 (liftSp K F_added)) (f : Addr) (cdv : Value) (A : Around) (outer : List Env) (s : Shared) (H : Hp) (E : XK) (hgd : A.guards = some []) (hr : Room 2 (A.deeper (envOfC "slope_at" (defScope st_slope_at) s.heap.objs.size f cdv))) :
    PSs (cxOf CX0 P w K mg base N_slope_at "slope_at" (defScope st_slope_at) f cdv A outer s H E) (defBody st_slope_at) (t_slope_at K) := by
  have nd := sc_slope_at.nd
  have hu1 : (A.deeper (envOfC "slope_at" (defScope st_slope_at) s.heap.objs.size f cdv)).units + 1 < cLine := by have := hr.un; omega
  have hu60 : (A.deeper (envOfC "slope_at" (defScope st_slope_at) s.heap.objs.size f cdv)).units + 60 < cLine := by have := hr.un; omega
  have hu64 : (A.deeper (envOfC "slope_at" (defScope st_slope_at) s.heap.objs.size f cdv)).units + 64 < cLine := by have := hr.un; omega
  have hu65 : (A.deeper (envOfC "slope_at" (defScope st_slope_at) s.heap.objs.size f cdv)).units + 65 < cLine := by have := hr.un; omega
  refine PSs.nox ?_
  exact (pss_cons (ps_asg (pe_callD k_wire_line hgd hr (by decide) (by rfl) (pa_cons (pv 0) (pa_cons (pv 1) (pa_cons (pv 2) pa_nil)))) (pg_tup (by rfl) (pgs_cons (pg_name (i := 3) nd rfl (by first | exact Or.inl rfl | exact Or.inr rfl)) (pgs_cons (pg_name (i := 4) nd rfl (by first | exact Or.inl rfl | exact Or.inr rfl)) (pgs_cons (pg_name (i := 5) nd rfl (by first | exact Or.inl rfl | exact Or.inr rfl)) pgs_nil)))))
    (pss_cons (ps_if (pt_cmpR op_isN (pv 5) pe_non (nomark _)) (pss_one (ps_ret pe_non)) pss_nil)
    (pss_cons (ps_set (i := 6) nd rfl (by first | exact Or.inl rfl | exact Or.inr rfl) (pe_ix (ix_U hu1) (pe_ix (ix_U hu1) (pe_ix (ix_U hu1) (pv 0) pe_int (fun _ _ => rfl)) (pe_ix (ix_U hu1) (pv 3) (pe_un un_neg pe_int) (fun _ _ => rfl)) (fun _ _ => rfl)) (pv 2) (fun _ _ => rfl)))
    (pss_one (ps_ret (pe_tup (pa_cons (pv 5) (pa_cons (pe_op op_sub (pe_callB call_lenU (by rfl) T.n_len (by decide +kernel) (pa_cons (pv 3) pa_nil)) (pv 5)) (pa_cons (pe_callD k_taken_off hgd hr (by decide) (by rfl) (pa_cons (pe_callD k_added hgd hr (by decide) (by rfl) (pa_cons (pe_ix (ix_U hu1) (pv 4) (pe_un un_neg pe_int) (fun _ _ => rfl)) (pa_cons (pe_ix (ix_U hu1) (pv 6) pe_int (fun _ _ => rfl)) pa_nil))) (pa_cons (pe_ix (ix_U hu1) (pv 4) (pv 5) (fun _ _ => rfl)) pa_nil))) pa_nil)))))))))
theorem ln_slope_at : ∀ xs P, F_slope_at xs P → xs.length = 3 := fun xs P h => by
  unfold F_slope_at at h
  repeat (first | (obtain ⟨h1, _⟩ := h; rw [h1]; rfl) | (obtain ⟨_, h⟩ := h))
theorem ok_slope_at (T : Tx mg) (D : L2.Stands K mg "slope_at" st_slope_at ["machine", "mode", "wire"]) (k_wire_line : L2.Keeps P w K mg base "wire_line" ["machine", "mode", "wire"] 2 (liftSp K F_wire_line)) (k_taken_off : L2.Keeps P w K mg base "taken_off" ["one", "other"] 1 (liftSp K F_taken_off)) (k_added : L2.Keeps P w K mg base "added" ["one", "other"] 1 (liftSp K F_added)) : L2.Keeps P w K mg base "slope_at" ["machine", "mode", "wire"] 3 (liftSp K F_slope_at) :=
  D.keeps sc_slope_at ln_slope_at (fun f cdv A outer s H E hgd hr => w_slope_at T k_wire_line k_taken_off k_added f cdv A outer s H E hgd hr) fun Γ xs P ha h => d_slope_at ha h
abbrev st_slopes : Stmt := top 10
theorem sc_slopes : FnScope N_slopes ["machine"] (defScope st_slopes) := ⟨rfl, rfl, rfl, by decide +kernel, rfl, by decide +kernel, by decide +kernel⟩
theorem w_slopes (T : Tx mg) (k_slope_at : L2.Keeps P w K mg base "slope_at" ["machine", "mode", "wire"] 3 (liftSp K F_slope_at)) (f : Addr) (cdv : Value) (A : Around) (outer : List Env) (s : Shared) (H : Hp) (E : XK) (hgd : A.guards = some []) (hr : Room 3 (A.deeper (envOfC "slopes" (defScope st_slopes) s.heap.objs.size f cdv))) :
    PSs (cxOf CX0 P w K mg base N_slopes "slopes" (defScope st_slopes) f cdv A outer s H E) (defBody st_slopes) (t_slopes K) := by
  have nd := sc_slopes.nd
  have hu1 : (A.deeper (envOfC "slopes" (defScope st_slopes) s.heap.objs.size f cdv)).units + 1 < cLine := by have := hr.un; omega
  have hu60 : (A.deeper (envOfC "slopes" (defScope st_slopes) s.heap.objs.size f cdv)).units + 60 < cLine := by have := hr.un; omega
  have hu64 : (A.deeper (envOfC "slopes" (defScope st_slopes) s.heap.objs.size f cdv)).units + 64 < cLine := by have := hr.un; omega
  have hu65 : (A.deeper (envOfC "slopes" (defScope st_slopes) s.heap.objs.size f cdv)).units + 65 < cLine := by have := hr.un; omega
  refine PSs.nox ?_
  exact (pss_one (ps_ret (pe_callTy call_tupU (by rfl) T.n_tuple (by decide +kernel) (pa_cons (pe_lc (own := [("wire", 1)]) (g := (gName 1)) (tt := tYes) (by rfl) nd (pi_range1 (by rfl) T.n_range (pa_cons (pe_ix (ix_U hu1) (pv 0) pe_int (fun _ _ => rfl)) pa_nil)) (blkOk_by (by kernel_rfl)) (fun _ _ _ _ _ => (pg_name (i := 1) nd rfl (by first | exact Or.inl rfl | exact Or.inr rfl))) (fun _ _ _ _ _ => pts_nil) (fun _ _ _ _ _ => (pe_callD k_slope_at hgd hr (by decide) (by rfl) (pa_cons (pv 0) (pa_cons pe_int (pa_cons (pv 1) pa_nil)))))) pa_nil))))
theorem ln_slopes : ∀ xs P, F_slopes xs P → xs.length = 1 := fun xs P h => by
  unfold F_slopes at h
  repeat (first | (obtain ⟨h1, _⟩ := h; rw [h1]; rfl) | (obtain ⟨_, h⟩ := h))
theorem ok_slopes (T : Tx mg) (D : L2.Stands K mg "slopes" st_slopes ["machine"]) (k_slope_at : L2.Keeps P w K mg base "slope_at" ["machine", "mode", "wire"] 3 (liftSp K F_slope_at)) : L2.Keeps P w K mg base "slopes" ["machine"] 4 (liftSp K F_slopes) :=
  D.keeps sc_slopes ln_slopes (fun f cdv A outer s H E hgd hr => w_slopes T k_slope_at f cdv A outer s H E hgd hr) fun Γ xs P ha h => d_slopes ha h
abbrev st_alone : Stmt := top 11
theorem sc_alone : FnScope N_alone ["machine", "wire"] (defScope st_alone) := ⟨rfl, rfl, rfl, by decide +kernel, rfl, by decide +kernel, by decide +kernel⟩
theorem w_alone (T : Tx mg) (k_wire_line : L2.Keeps P w K mg base "wire_line" ["machine", "mode", "wire"] 2 (liftSp K F_wire_line)) (f : Addr) (cdv : Value) (A : Around) (outer : List Env) (s : Shared) (H : Hp) (E : XK) (hgd : A.guards = some []) (hr : Room 2 (A.deeper (envOfC "alone" (defScope st_alone) s.heap.objs.size f cdv))) :
    PSs (cxOf CX0 P w K mg base N_alone "alone" (defScope st_alone) f cdv A outer s H E) (defBody st_alone) (t_alone K) := by
  have nd := sc_alone.nd
  have hu1 : (A.deeper (envOfC "alone" (defScope st_alone) s.heap.objs.size f cdv)).units + 1 < cLine := by have := hr.un; omega
  have hu60 : (A.deeper (envOfC "alone" (defScope st_alone) s.heap.objs.size f cdv)).units + 60 < cLine := by have := hr.un; omega
  have hu64 : (A.deeper (envOfC "alone" (defScope st_alone) s.heap.objs.size f cdv)).units + 64 < cLine := by have := hr.un; omega
  have hu65 : (A.deeper (envOfC "alone" (defScope st_alone) s.heap.objs.size f cdv)).units + 65 < cLine := by have := hr.un; omega
  refine PSs.nox ?_
  exact (pss_cons (ps_asg (pe_callD k_wire_line hgd hr (by decide) (by rfl) (pa_cons (pv 0) (pa_cons pe_int (pa_cons (pv 1) pa_nil)))) (pg_tup (by rfl) (pgs_cons (pg_name (i := 2) nd rfl (by first | exact Or.inl rfl | exact Or.inr rfl)) (pgs_cons (pg_name (i := 3) nd rfl (by first | exact Or.inl rfl | exact Or.inr rfl)) (pgs_cons (pg_name (i := 4) nd rfl (by first | exact Or.inl rfl | exact Or.inr rfl)) pgs_nil)))))
    (pss_one (ps_ret (pe_ifExp (pt_cmpR op_isN (pv 4) pe_non (nomark _)) (pe_op op_sub (pe_callB call_lenU (by rfl) T.n_len (by decide +kernel) (pa_cons (pv 2) pa_nil)) pe_int) pe_non))))
theorem ln_alone : ∀ xs P, F_alone xs P → xs.length = 2 := fun xs P h => by
  unfold F_alone at h
  repeat (first | (obtain ⟨h1, _⟩ := h; rw [h1]; rfl) | (obtain ⟨_, h⟩ := h))
theorem ok_alone (T : Tx mg) (D : L2.Stands K mg "alone" st_alone ["machine", "wire"]) (k_wire_line : L2.Keeps P w K mg base "wire_line" ["machine", "mode", "wire"] 2 (liftSp K F_wire_line)) : L2.Keeps P w K mg base "alone" ["machine", "wire"] 3 (liftSp K F_alone) :=
  D.keeps sc_alone ln_alone (fun f cdv A outer s H E hgd hr => w_alone T k_wire_line f cdv A outer s H E hgd hr) fun Γ xs P ha h => d_alone ha h
abbrev st_led_by : Stmt := top 12
theorem sc_led_by : FnScope N_led_by ["machine", "mode", "wire", "many"] (defScope st_led_by) := ⟨rfl, rfl, rfl, by decide +kernel, rfl, by decide +kernel, by decide +kernel⟩
theorem w_led_by (T : Tx mg) (k_wire_line : L2.Keeps P w K mg base "wire_line" ["machine", "mode", "wire"] 2 (liftSp K F_wire_line)) (k_slope_at : L2.Keeps P w K mg base "slope_at" ["machine", "mode", "wire"] 3 (liftSp K F_slope_at)) (k_added : L2.Keeps P w K mg base "added" ["one", "other"] 1 (liftSp K F_added)) (k_times : L2.Keeps P w K mg base "times" ["one", "many"] 1 (liftSp K F_times)) (f : Addr) (cdv : Value) (A : Around) (outer : List Env) (s : Shared) (H : Hp) (E : XK) (hgd : A.guards = some []) (hr : Room 3 (A.deeper (envOfC "led_by" (defScope st_led_by) s.heap.objs.size f cdv))) :
    PSs (cxOf CX0 P w K mg base N_led_by "led_by" (defScope st_led_by) f cdv A outer s H E) (defBody st_led_by) (t_led_by K) := by
  have nd := sc_led_by.nd
  have hu1 : (A.deeper (envOfC "led_by" (defScope st_led_by) s.heap.objs.size f cdv)).units + 1 < cLine := by have := hr.un; omega
  have hu60 : (A.deeper (envOfC "led_by" (defScope st_led_by) s.heap.objs.size f cdv)).units + 60 < cLine := by have := hr.un; omega
  have hu64 : (A.deeper (envOfC "led_by" (defScope st_led_by) s.heap.objs.size f cdv)).units + 64 < cLine := by have := hr.un; omega
  have hu65 : (A.deeper (envOfC "led_by" (defScope st_led_by) s.heap.objs.size f cdv)).units + 65 < cLine := by have := hr.un; omega
  refine PSs.nox ?_
  exact (pss_cons (ps_asg (pe_callD k_wire_line hgd hr (by decide) (by rfl) (pa_cons (pv 0) (pa_cons (pv 1) (pa_cons (pv 2) pa_nil)))) (pg_tup (by rfl) (pgs_cons (pg_name (i := 4) nd rfl (by first | exact Or.inl rfl | exact Or.inr rfl)) (pgs_cons (pg_name (i := 5) nd rfl (by first | exact Or.inl rfl | exact Or.inr rfl)) (pgs_cons (pg_name (i := 6) nd rfl (by first | exact Or.inl rfl | exact Or.inr rfl)) pgs_nil)))))
    (pss_cons (ps_if (pt_cmpR op_lt (pv 3) (pe_callB call_lenU (by rfl) T.n_len (by decide +kernel) (pa_cons (pv 4) pa_nil)) (nomark _)) (pss_one (ps_ret (pe_tup (pa_cons (pe_ix (ix_U hu1) (pv 4) (pv 3) (fun _ _ => rfl)) (pa_cons (pe_ix (ix_U hu1) (pv 5) (pv 3) (fun _ _ => rfl)) pa_nil))))) pss_nil)
    (pss_cons (ps_if (pt_cmpR op_isN (pv 6) pe_non (nomark _)) (pss_one (ps_ret pe_non)) pss_nil)
    (pss_cons (ps_asg (pe_callD k_slope_at hgd hr (by decide) (by rfl) (pa_cons (pv 0) (pa_cons (pv 1) (pa_cons (pv 2) pa_nil)))) (pg_tup (by rfl) (pgs_cons (pg_name (i := 7) nd rfl (by first | exact Or.inl rfl | exact Or.inr rfl)) (pgs_cons (pg_name (i := 8) nd rfl (by first | exact Or.inl rfl | exact Or.inr rfl)) (pgs_cons (pg_name (i := 9) nd rfl (by first | exact Or.inl rfl | exact Or.inr rfl)) pgs_nil)))))
    (pss_cons (ps_set (i := 10) nd rfl (by first | exact Or.inl rfl | exact Or.inr rfl) (pe_op op_fdivW (pe_op op_sub (pv 3) (pv 7)) (pv 8)))
    (pss_cons (ps_set (i := 11) nd rfl (by first | exact Or.inl rfl | exact Or.inr rfl) (pe_op op_sub (pv 3) (pe_op op_mulU (pv 10) (pv 8))))
    (pss_one (ps_ret (pe_tup (pa_cons (pe_ix (ix_U hu1) (pv 4) (pv 11) (fun _ _ => rfl)) (pa_cons (pe_callD k_added hgd hr (by decide) (by rfl) (pa_cons (pe_ix (ix_U hu1) (pv 5) (pv 11) (fun _ _ => rfl)) (pa_cons (pe_callD k_times hgd hr (by decide) (by rfl) (pa_cons (pv 9) (pa_cons (pv 10) pa_nil))) pa_nil))) pa_nil)))))))))))
theorem ln_led_by : ∀ xs P, F_led_by xs P → xs.length = 4 := fun xs P h => by
  unfold F_led_by at h
  repeat (first | (obtain ⟨h1, _⟩ := h; rw [h1]; rfl) | (obtain ⟨_, h⟩ := h))
theorem ok_led_by (T : Tx mg) (D : L2.Stands K mg "led_by" st_led_by ["machine", "mode", "wire", "many"]) (k_wire_line : L2.Keeps P w K mg base "wire_line" ["machine", "mode", "wire"] 2 (liftSp K F_wire_line)) (k_slope_at : L2.Keeps P w K mg base "slope_at" ["machine", "mode", "wire"] 3 (liftSp K F_slope_at)) (k_added : L2.Keeps P w K mg base "added" ["one", "other"] 1 (liftSp K F_added)) (k_times : L2.Keeps P w K mg base "times" ["one", "many"] 1 (liftSp K F_times)) : L2.Keeps P w K mg base "led_by" ["machine", "mode", "wire", "many"] 4 (liftSp K F_led_by) :=
  D.keeps sc_led_by ln_led_by (fun f cdv A outer s H E hgd hr => w_led_by T k_wire_line k_slope_at k_added k_times f cdv A outer s H E hgd hr) fun Γ xs P ha h => d_led_by ha h
abbrev st_led : Stmt := top 13
theorem sc_led : FnScope N_led ["machine", "mode", "vector"] (defScope st_led) := ⟨rfl, rfl, rfl, by decide +kernel, rfl, by decide +kernel, by decide +kernel⟩
theorem w_led (T : Tx mg) (k_nothing : L2.Keeps P w K mg base "nothing" ["many"] 1 (liftSp K F_nothing)) (k_led_by : L2.Keeps P w K mg base "led_by" ["machine", "mode", "wire", "many"] 4 (liftSp K F_led_by)) (k_added : L2.Keeps P w K mg base "added" ["one", "other"] 1 (liftSp K F_added)) (f : Addr) (cdv : Value) (A : Around) (outer : List Env) (s : Shared) (H : Hp) (E : XK) (hgd : A.guards = some []) (hr : Room 4 (A.deeper (envOfC "led" (defScope st_led) s.heap.objs.size f cdv))) :
    PSs (cxOf CX0 P w K mg base N_led "led" (defScope st_led) f cdv A outer s H E) (defBody st_led) (t_led K) := by
  have nd := sc_led.nd
  have hu1 : (A.deeper (envOfC "led" (defScope st_led) s.heap.objs.size f cdv)).units + 1 < cLine := by have := hr.un; omega
  have hu60 : (A.deeper (envOfC "led" (defScope st_led) s.heap.objs.size f cdv)).units + 60 < cLine := by have := hr.un; omega
  have hu64 : (A.deeper (envOfC "led" (defScope st_led) s.heap.objs.size f cdv)).units + 64 < cLine := by have := hr.un; omega
  have hu65 : (A.deeper (envOfC "led" (defScope st_led) s.heap.objs.size f cdv)).units + 65 < cLine := by have := hr.un; omega
  refine PSs.nox ?_
  exact (pss_cons (ps_par (i := 3) (j := 4) (by rfl) nd rfl rfl (by decide) rfl rfl (pa_cons (pv 1) (pa_cons (pe_callD k_nothing hgd hr (by decide) (by rfl) (pa_cons (pe_ix (ix_U hu1) (pv 0) pe_int (fun _ _ => rfl)) pa_nil)) pa_nil)) (by rfl))
    (pss_cons (ps_for PassesOwn.never rfl (pi_enumK (by rfl) T.n_enumerate (pa_cons (pv 2) pa_nil)) (pg_tup (by rfl) (pgs_cons (pg_name (i := 5) nd rfl (by first | exact Or.inl rfl | exact Or.inr rfl)) (pgs_cons (pg_name (i := 6) nd rfl (by first | exact Or.inl rfl | exact Or.inr rfl)) pgs_nil))) (pss_cons (ps_set (i := 7) nd rfl (by first | exact Or.inl rfl | exact Or.inr rfl) (pe_callD k_led_by hgd hr (by decide) (by rfl) (pa_cons (pv 0) (pa_cons (pv 3) (pa_cons (pv 5) (pa_cons (pv 6) pa_nil))))))
    (pss_cons (ps_if (pt_cmpR op_isN (pv 7) pe_non (nomark _)) (pss_one (ps_ret pe_non)) pss_nil)
    (pss_one (ps_par (i := 3) (j := 4) (by rfl) nd rfl rfl (by decide) rfl rfl (pa_cons (pe_ix (ix_U hu1) (pv 7) pe_int (fun _ _ => rfl)) (pa_cons (pe_callD k_added hgd hr (by decide) (by rfl) (pa_cons (pv 4) (pa_cons (pe_ix (ix_U hu1) (pv 7) pe_int (fun _ _ => rfl)) pa_nil))) pa_nil)) (by rfl))))))
    (pss_one (ps_ret (pe_tup (pa_cons (pv 3) (pa_cons (pv 4) pa_nil)))))))
theorem ln_led : ∀ xs P, F_led xs P → xs.length = 3 := fun xs P h => by
  unfold F_led at h
  repeat (first | (obtain ⟨h1, _⟩ := h; rw [h1]; rfl) | (obtain ⟨_, h⟩ := h))
theorem ok_led (T : Tx mg) (D : L2.Stands K mg "led" st_led ["machine", "mode", "vector"]) (k_nothing : L2.Keeps P w K mg base "nothing" ["many"] 1 (liftSp K F_nothing)) (k_led_by : L2.Keeps P w K mg base "led_by" ["machine", "mode", "wire", "many"] 4 (liftSp K F_led_by)) (k_added : L2.Keeps P w K mg base "added" ["one", "other"] 1 (liftSp K F_added)) : L2.Keeps P w K mg base "led" ["machine", "mode", "vector"] 5 (liftSp K F_led) :=
  D.keeps sc_led ln_led (fun f cdv A outer s H E hgd hr => w_led T k_nothing k_led_by k_added f cdv A outer s H E hgd hr) fun Γ xs P ha h => d_led ha h
abbrev st_answer_to : Stmt := top 14
theorem sc_answer_to : FnScope N_answer_to ["machine", "vector"] (defScope st_answer_to) := ⟨rfl, rfl, rfl, by decide +kernel, rfl, by decide +kernel, by decide +kernel⟩
theorem w_answer_to (T : Tx mg) (k_led : L2.Keeps P w K mg base "led" ["machine", "mode", "vector"] 5 (liftSp K F_led)) (f : Addr) (cdv : Value) (A : Around) (outer : List Env) (s : Shared) (H : Hp) (E : XK) (hgd : A.guards = some []) (hr : Room 5 (A.deeper (envOfC "answer_to" (defScope st_answer_to) s.heap.objs.size f cdv))) :
    PSs (cxOf CX0 P w K mg base N_answer_to "answer_to" (defScope st_answer_to) f cdv A outer s H E) (defBody st_answer_to) (t_answer_to K) := by
  have nd := sc_answer_to.nd
  have hu1 : (A.deeper (envOfC "answer_to" (defScope st_answer_to) s.heap.objs.size f cdv)).units + 1 < cLine := by have := hr.un; omega
  have hu60 : (A.deeper (envOfC "answer_to" (defScope st_answer_to) s.heap.objs.size f cdv)).units + 60 < cLine := by have := hr.un; omega
  have hu64 : (A.deeper (envOfC "answer_to" (defScope st_answer_to) s.heap.objs.size f cdv)).units + 64 < cLine := by have := hr.un; omega
  have hu65 : (A.deeper (envOfC "answer_to" (defScope st_answer_to) s.heap.objs.size f cdv)).units + 65 < cLine := by have := hr.un; omega
  refine PSs.nox ?_
  exact (pss_cons (ps_set (i := 2) nd rfl (by first | exact Or.inl rfl | exact Or.inr rfl) (pe_callD k_led hgd hr (by decide) (by rfl) (pa_cons (pv 0) (pa_cons pe_int (pa_cons (pv 1) pa_nil)))))
    (pss_one (ps_ret (pe_ifExp (pt_cmpR op_notN (pv 2) pe_non (nomark _)) (pe_ix (ix_U hu1) (pv 2) pe_int (fun _ _ => rfl)) pe_non))))
theorem ln_answer_to : ∀ xs P, F_answer_to xs P → xs.length = 2 := fun xs P h => by
  unfold F_answer_to at h
  repeat (first | (obtain ⟨h1, _⟩ := h; rw [h1]; rfl) | (obtain ⟨_, h⟩ := h))
theorem ok_answer_to (T : Tx mg) (D : L2.Stands K mg "answer_to" st_answer_to ["machine", "vector"]) (k_led : L2.Keeps P w K mg base "led" ["machine", "mode", "vector"] 5 (liftSp K F_led)) : L2.Keeps P w K mg base "answer_to" ["machine", "vector"] 6 (liftSp K F_answer_to) :=
  D.keeps sc_answer_to ln_answer_to (fun f cdv A outer s H E hgd hr => w_answer_to T k_led f cdv A outer s H E hgd hr) fun Γ xs P ha h => d_answer_to ha h
abbrev st_mode_behind : Stmt := top 15
theorem sc_mode_behind : FnScope N_mode_behind ["machine", "vector"] (defScope st_mode_behind) := ⟨rfl, rfl, rfl, by decide +kernel, rfl, by decide +kernel, by decide +kernel⟩
theorem w_mode_behind (T : Tx mg) (k_led : L2.Keeps P w K mg base "led" ["machine", "mode", "vector"] 5 (liftSp K F_led)) (f : Addr) (cdv : Value) (A : Around) (outer : List Env) (s : Shared) (H : Hp) (E : XK) (hgd : A.guards = some []) (hr : Room 5 (A.deeper (envOfC "mode_behind" (defScope st_mode_behind) s.heap.objs.size f cdv))) :
    PSs (cxOf CX0 P w K mg base N_mode_behind "mode_behind" (defScope st_mode_behind) f cdv A outer s H E) (defBody st_mode_behind) (t_mode_behind K) := by
  have nd := sc_mode_behind.nd
  have hu1 : (A.deeper (envOfC "mode_behind" (defScope st_mode_behind) s.heap.objs.size f cdv)).units + 1 < cLine := by have := hr.un; omega
  have hu60 : (A.deeper (envOfC "mode_behind" (defScope st_mode_behind) s.heap.objs.size f cdv)).units + 60 < cLine := by have := hr.un; omega
  have hu64 : (A.deeper (envOfC "mode_behind" (defScope st_mode_behind) s.heap.objs.size f cdv)).units + 64 < cLine := by have := hr.un; omega
  have hu65 : (A.deeper (envOfC "mode_behind" (defScope st_mode_behind) s.heap.objs.size f cdv)).units + 65 < cLine := by have := hr.un; omega
  refine PSs.nox ?_
  exact (pss_cons (ps_set (i := 2) nd rfl (by first | exact Or.inl rfl | exact Or.inr rfl) (pe_callD k_led hgd hr (by decide) (by rfl) (pa_cons (pv 0) (pa_cons pe_int (pa_cons (pv 1) pa_nil)))))
    (pss_one (ps_ret (pe_ifExp (pt_cmpR op_notN (pv 2) pe_non (nomark _)) (pe_ix (ix_U hu1) (pv 2) pe_int (fun _ _ => rfl)) pe_non))))
theorem ln_mode_behind : ∀ xs P, F_mode_behind xs P → xs.length = 2 := fun xs P h => by
  unfold F_mode_behind at h
  repeat (first | (obtain ⟨h1, _⟩ := h; rw [h1]; rfl) | (obtain ⟨_, h⟩ := h))
theorem ok_mode_behind (T : Tx mg) (D : L2.Stands K mg "mode_behind" st_mode_behind ["machine", "vector"]) (k_led : L2.Keeps P w K mg base "led" ["machine", "mode", "vector"] 5 (liftSp K F_led)) : L2.Keeps P w K mg base "mode_behind" ["machine", "vector"] 6 (liftSp K F_mode_behind) :=
  D.keeps sc_mode_behind ln_mode_behind (fun f cdv A outer s H E hgd hr => w_mode_behind T k_led f cdv A outer s H E hgd hr) fun Γ xs P ha h => d_mode_behind ha h
abbrev st_does_rest : Stmt := top 16
theorem sc_does_rest : FnScope N_does_rest ["machine", "vector"] (defScope st_does_rest) := ⟨rfl, rfl, rfl, by decide +kernel, rfl, by decide +kernel, by decide +kernel⟩
theorem w_does_rest (T : Tx mg) (k_led : L2.Keeps P w K mg base "led" ["machine", "mode", "vector"] 5 (liftSp K F_led)) (f : Addr) (cdv : Value) (A : Around) (outer : List Env) (s : Shared) (H : Hp) (E : XK) (hgd : A.guards = some []) (hr : Room 5 (A.deeper (envOfC "does_rest" (defScope st_does_rest) s.heap.objs.size f cdv))) :
    PSs (cxOf CX0 P w K mg base N_does_rest "does_rest" (defScope st_does_rest) f cdv A outer s H E) (defBody st_does_rest) (t_does_rest K) := by
  have nd := sc_does_rest.nd
  have hu1 : (A.deeper (envOfC "does_rest" (defScope st_does_rest) s.heap.objs.size f cdv)).units + 1 < cLine := by have := hr.un; omega
  have hu60 : (A.deeper (envOfC "does_rest" (defScope st_does_rest) s.heap.objs.size f cdv)).units + 60 < cLine := by have := hr.un; omega
  have hu64 : (A.deeper (envOfC "does_rest" (defScope st_does_rest) s.heap.objs.size f cdv)).units + 64 < cLine := by have := hr.un; omega
  have hu65 : (A.deeper (envOfC "does_rest" (defScope st_does_rest) s.heap.objs.size f cdv)).units + 65 < cLine := by have := hr.un; omega
  refine PSs.nox ?_
  exact (pss_one (ps_ret (pe_cmpR op_notN (pe_callD k_led hgd hr (by decide) (by rfl) (pa_cons (pv 0) (pa_cons pe_int (pa_cons (pv 1) pa_nil)))) pe_non (nomark _))))
theorem ln_does_rest : ∀ xs P, F_does_rest xs P → xs.length = 2 := fun xs P h => by
  unfold F_does_rest at h
  repeat (first | (obtain ⟨h1, _⟩ := h; rw [h1]; rfl) | (obtain ⟨_, h⟩ := h))
theorem ok_does_rest (T : Tx mg) (D : L2.Stands K mg "does_rest" st_does_rest ["machine", "vector"]) (k_led : L2.Keeps P w K mg base "led" ["machine", "mode", "vector"] 5 (liftSp K F_led)) : L2.Keeps P w K mg base "does_rest" ["machine", "vector"] 6 (liftSp K F_does_rest) :=
  D.keeps sc_does_rest ln_does_rest (fun f cdv A outer s H E hgd hr => w_does_rest T k_led f cdv A outer s H E hgd hr) fun Γ xs P ha h => d_does_rest ha h
abbrev st_is_step : Stmt := top 22
theorem sc_is_step : FnScope N_is_step ["outs", "modes", "value"] (defScope st_is_step) := ⟨rfl, rfl, rfl, by decide +kernel, rfl, by decide +kernel, by decide +kernel⟩
theorem w_is_step (T : Tx mg) (k_is_whole : L2.Keeps P w K mg base "is_whole" ["value"] 1 (liftSp K F_is_whole)) (k_is_vector : L2.Keeps P w K mg base "is_vector" ["many", "value"] 2 (liftSp K F_is_vector)) (f : Addr) (cdv : Value) (A : Around) (outer : List Env) (s : Shared) (H : Hp) (E : XK) (hgd : A.guards = some []) (hr : Room 2 (A.deeper (envOfC "is_step" (defScope st_is_step) s.heap.objs.size f cdv))) :
    PSs (cxOf CX0 P w K mg base N_is_step "is_step" (defScope st_is_step) f cdv A outer s H E) (defBody st_is_step) (t_is_step K) := by
  have nd := sc_is_step.nd
  have hu1 : (A.deeper (envOfC "is_step" (defScope st_is_step) s.heap.objs.size f cdv)).units + 1 < cLine := by have := hr.un; omega
  have hu60 : (A.deeper (envOfC "is_step" (defScope st_is_step) s.heap.objs.size f cdv)).units + 60 < cLine := by have := hr.un; omega
  have hu64 : (A.deeper (envOfC "is_step" (defScope st_is_step) s.heap.objs.size f cdv)).units + 64 < cLine := by have := hr.un; omega
  have hu65 : (A.deeper (envOfC "is_step" (defScope st_is_step) s.heap.objs.size f cdv)).units + 65 < cLine := by have := hr.un; omega
  obtain ⟨u_MOST_GIVEN, c_MOST_GIVEN⟩ := T.c_MOST_GIVEN
  refine PSs.nox ?_
  exact (pss_cons (ps_if (pt_cmpR op_isN (pv 2) pe_non (nomark _)) (pss_one (ps_ret pe_bl)) pss_nil)
    (pss_cons (ps_if (PW.pt (pw_or (pt_not (pt_val (pe_callB call_isi (by rfl) T.n_isinstance (by decide +kernel) (pa_cons (pv 2) (pa_cons (pe_bltn (by rfl) T.n_tuple (by decide +kernel) rfl) pa_nil))))) (pw_or (pt_cmpR (op_neU hu64) (pe_callB call_lenU (by rfl) T.n_len (by decide +kernel) (pa_cons (pv 2) pa_nil)) pe_int (nomark _)) (pw_or (pt_not (pt_val (pe_callD k_is_whole hgd hr (by decide) (by rfl) (pa_cons (pe_ix (ix_U hu1) (pv 2) pe_int (fun _ _ => rfl)) pa_nil)))) (pw_or1 (pt_not (pt_chain op_le op_lt pe_int (pe_ix (ix_U hu1) (pv 2) pe_int (fun _ _ => rfl)) (pv 1)))))))) (pss_one (ps_ret pe_bl)) pss_nil)
    (pss_one (ps_ret (pe_and (pe_callD k_is_vector hgd hr (by decide) (by rfl) (pa_cons (pv 0) (pa_cons (pe_ix (ix_U hu1) (pv 2) pe_int (fun _ _ => rfl)) pa_nil))) (pe_one (pe_cmpR (op_eqU hu64) (pe_lc (own := [("one", 3)]) (g := (gName 3)) (tt := (tTest (tOp (rI0 fun i j => .bl (decide (i > j))) (tVar 3) (tC (.int 9999))))) (by rfl) nd (pi_U (pe_ix (ix_U hu1) (pv 2) pe_int (fun _ _ => rfl))) (blkOk_by (by kernel_rfl)) (fun _ _ _ _ _ => (pg_name (i := 3) nd rfl (by first | exact Or.inl rfl | exact Or.inr rfl))) (fun _ _ _ _ _ => (pts_one (pt_cmpR op_gt (pv 3) (pe_glob rfl c_MOST_GIVEN ⟨_, rfl⟩) (nomark _)))) (fun _ _ _ _ _ => pe_int)) (pe_lst pa_nil) (nomark _))))))))
theorem ln_is_step : ∀ xs P, F_is_step xs P → xs.length = 3 := fun xs P h => by
  unfold F_is_step at h
  repeat (first | (obtain ⟨h1, _⟩ := h; rw [h1]; rfl) | (obtain ⟨_, h⟩ := h))
theorem ok_is_step (T : Tx mg) (D : L2.Stands K mg "is_step" st_is_step ["outs", "modes", "value"]) (k_is_whole : L2.Keeps P w K mg base "is_whole" ["value"] 1 (liftSp K F_is_whole)) (k_is_vector : L2.Keeps P w K mg base "is_vector" ["many", "value"] 2 (liftSp K F_is_vector)) : L2.Keeps P w K mg base "is_step" ["outs", "modes", "value"] 3 (liftSp K F_is_step) :=
  D.keeps sc_is_step ln_is_step (fun f cdv A outer s H E hgd hr => w_is_step T k_is_whole k_is_vector f cdv A outer s H E hgd hr) fun Γ xs P ha h => d_is_step ha h
abbrev st_is_machine : Stmt := top 23
theorem sc_is_machine : FnScope N_is_machine ["value"] (defScope st_is_machine) := ⟨rfl, rfl, rfl, by decide +kernel, rfl, by decide +kernel, by decide +kernel⟩
theorem w_is_machine (T : Tx mg) (k_is_vector : L2.Keeps P w K mg base "is_vector" ["many", "value"] 2 (liftSp K F_is_vector)) (k_is_step : L2.Keeps P w K mg base "is_step" ["outs", "modes", "value"] 3 (liftSp K F_is_step)) (f : Addr) (cdv : Value) (A : Around) (outer : List Env) (s : Shared) (H : Hp) (E : XK) (hgd : A.guards = some []) (hr : Room 3 (A.deeper (envOfC "is_machine" (defScope st_is_machine) s.heap.objs.size f cdv))) :
    PSs (cxOf CX0 P w K mg base N_is_machine "is_machine" (defScope st_is_machine) f cdv A outer s H E) (defBody st_is_machine) (t_is_machine K) := by
  have nd := sc_is_machine.nd
  have hu1 : (A.deeper (envOfC "is_machine" (defScope st_is_machine) s.heap.objs.size f cdv)).units + 1 < cLine := by have := hr.un; omega
  have hu60 : (A.deeper (envOfC "is_machine" (defScope st_is_machine) s.heap.objs.size f cdv)).units + 60 < cLine := by have := hr.un; omega
  have hu64 : (A.deeper (envOfC "is_machine" (defScope st_is_machine) s.heap.objs.size f cdv)).units + 64 < cLine := by have := hr.un; omega
  have hu65 : (A.deeper (envOfC "is_machine" (defScope st_is_machine) s.heap.objs.size f cdv)).units + 65 < cLine := by have := hr.un; omega
  obtain ⟨u_MOST_INS, c_MOST_INS⟩ := T.c_MOST_INS
  obtain ⟨u_MOST_OUTS, c_MOST_OUTS⟩ := T.c_MOST_OUTS
  obtain ⟨u_MOST_MODES, c_MOST_MODES⟩ := T.c_MOST_MODES
  refine PSs.nox ?_
  exact (pss_cons (ps_if (PW.pt (pw_or (pt_not (pt_val (pe_callB call_isi (by rfl) T.n_isinstance (by decide +kernel) (pa_cons (pv 0) (pa_cons (pe_bltn (by rfl) T.n_tuple (by decide +kernel) rfl) pa_nil))))) (pw_or (pt_cmpR (op_neU hu64) (pe_callB call_lenU (by rfl) T.n_len (by decide +kernel) (pa_cons (pv 0) pa_nil)) pe_int (nomark _)) (pw_or1 (pt_not (pt_val (pe_callD k_is_vector hgd hr (by decide) (by rfl) (pa_cons pe_int (pa_cons (pe_slice sl_U (pv 0) po_none (po_some pe_int)) pa_nil))))))))) (pss_one (ps_ret pe_bl)) pss_nil)
    (pss_cons (ps_asg (pv 0) (pg_tup (by rfl) (pgs_cons (pg_name (i := 1) nd rfl (by first | exact Or.inl rfl | exact Or.inr rfl)) (pgs_cons (pg_name (i := 2) nd rfl (by first | exact Or.inl rfl | exact Or.inr rfl)) (pgs_cons (pg_name (i := 3) nd rfl (by first | exact Or.inl rfl | exact Or.inr rfl)) pgs_nil)))))
    (pss_cons (ps_if (PW.pt (pw_or (pt_cmpR op_gt (pv 1) (pe_glob rfl c_MOST_INS ⟨_, rfl⟩) (nomark _)) (pw_or1 (pt_cmpR op_gt (pv 2) (pe_glob rfl c_MOST_OUTS ⟨_, rfl⟩) (nomark _))))) (pss_one (ps_ret pe_bl)) pss_nil)
    (pss_cons (ps_if (PW.pt (pw_or (pt_not (pt_val (pe_callB call_isi (by rfl) T.n_isinstance (by decide +kernel) (pa_cons (pv 3) (pa_cons (pe_bltn (by rfl) T.n_tuple (by decide +kernel) rfl) pa_nil))))) (pw_or1 (pt_not (pt_chain op_lt op_le pe_int (pe_callB call_lenU (by rfl) T.n_len (by decide +kernel) (pa_cons (pv 3) pa_nil)) (pe_glob rfl c_MOST_MODES ⟨_, rfl⟩)))))) (pss_one (ps_ret pe_bl)) pss_nil)
    (pss_cons (ps_if (pt_not (pt_val (pe_callB (cr_all rfl) (by rfl) T.n_all (by decide +kernel) (pa_cons (pe_lc (own := [("line", 4)]) (g := (gName 4)) (tt := tYes) (by rfl) nd (pi_U (pv 3)) (blkOk_by (by kernel_rfl)) (fun _ _ _ _ _ => (pg_name (i := 4) nd rfl (by first | exact Or.inl rfl | exact Or.inr rfl))) (fun _ _ _ _ _ => pts_nil) (fun _ _ _ _ _ => (pe_and (pe_callB call_isi (by rfl) T.n_isinstance (by decide +kernel) (pa_cons (pv 4) (pa_cons (pe_bltn (by rfl) T.n_tuple (by decide +kernel) rfl) pa_nil))) (pe_one (pe_cmpR (op_eqU hu64) (pe_callB call_lenU (by rfl) T.n_len (by decide +kernel) (pa_cons (pv 4) pa_nil)) (pv 1) (nomark _)))))) pa_nil)))) (pss_one (ps_ret pe_bl)) pss_nil)
    (pss_one (ps_ret (pe_callB (cr_all rfl) (by rfl) T.n_all (by decide +kernel) (pa_cons (pe_lc (own := [("line", 4)]) (g := (gName 4)) (tt := tYes) (by rfl) nd (pi_U (pv 3)) (blkOk_by (by kernel_rfl)) (fun _ _ _ _ _ => (pg_name (i := 4) nd rfl (by first | exact Or.inl rfl | exact Or.inr rfl))) (fun _ _ _ _ _ => pts_nil) (fun _ _ _ _ _ => (pe_callB (cr_all rfl) (by rfl) T.n_all (by decide +kernel) (pa_cons (pe_lc (own := [("one", 5)]) (g := (gName 5)) (tt := tYes) (by rfl) nd (pi_U (pv 4)) (blkOk_by (by kernel_rfl)) (fun _ _ _ _ _ => (pg_name (i := 5) nd rfl (by first | exact Or.inl rfl | exact Or.inr rfl))) (fun _ _ _ _ _ => pts_nil) (fun _ _ _ _ _ => (pe_callD k_is_step hgd hr (by decide) (by rfl) (pa_cons (pv 2) (pa_cons (pe_callB call_lenU (by rfl) T.n_len (by decide +kernel) (pa_cons (pv 3) pa_nil)) (pa_cons (pv 5) pa_nil)))))) pa_nil)))) pa_nil)))))))))
theorem ln_is_machine : ∀ xs P, F_is_machine xs P → xs.length = 1 := fun xs P h => by
  unfold F_is_machine at h
  repeat (first | (obtain ⟨h1, _⟩ := h; rw [h1]; rfl) | (obtain ⟨_, h⟩ := h))
theorem ok_is_machine (T : Tx mg) (D : L2.Stands K mg "is_machine" st_is_machine ["value"]) (k_is_vector : L2.Keeps P w K mg base "is_vector" ["many", "value"] 2 (liftSp K F_is_vector)) (k_is_step : L2.Keeps P w K mg base "is_step" ["outs", "modes", "value"] 3 (liftSp K F_is_step)) : L2.Keeps P w K mg base "is_machine" ["value"] 4 (liftSp K F_is_machine) :=
  D.keeps sc_is_machine ln_is_machine (fun f cdv A outer s H E hgd hr => w_is_machine T k_is_vector k_is_step f cdv A outer s H E hgd hr) fun Γ xs P ha h => d_is_machine ha h
abbrev st_two_steps : Stmt := top 24
theorem sc_two_steps : FnScope N_two_steps ["machine", "mode", "one", "other"] (defScope st_two_steps) := ⟨rfl, rfl, rfl, by decide +kernel, rfl, by decide +kernel, by decide +kernel⟩
theorem w_two_steps (T : Tx mg) (k_added : L2.Keeps P w K mg base "added" ["one", "other"] 1 (liftSp K F_added)) (f : Addr) (cdv : Value) (A : Around) (outer : List Env) (s : Shared) (H : Hp) (E : XK) (hgd : A.guards = some []) (hr : Room 1 (A.deeper (envOfC "two_steps" (defScope st_two_steps) s.heap.objs.size f cdv))) :
    PSs (cxOf CX0 P w K mg base N_two_steps "two_steps" (defScope st_two_steps) f cdv A outer s H E) (defBody st_two_steps) (t_two_steps K) := by
  have nd := sc_two_steps.nd
  have hu1 : (A.deeper (envOfC "two_steps" (defScope st_two_steps) s.heap.objs.size f cdv)).units + 1 < cLine := by have := hr.un; omega
  have hu60 : (A.deeper (envOfC "two_steps" (defScope st_two_steps) s.heap.objs.size f cdv)).units + 60 < cLine := by have := hr.un; omega
  have hu64 : (A.deeper (envOfC "two_steps" (defScope st_two_steps) s.heap.objs.size f cdv)).units + 64 < cLine := by have := hr.un; omega
  have hu65 : (A.deeper (envOfC "two_steps" (defScope st_two_steps) s.heap.objs.size f cdv)).units + 65 < cLine := by have := hr.un; omega
  refine PSs.nox ?_
  exact (pss_cons (ps_set (i := 4) nd rfl (by first | exact Or.inl rfl | exact Or.inr rfl) (pe_ix (ix_U hu1) (pe_ix (ix_U hu1) (pe_ix (ix_U hu1) (pv 0) pe_int (fun _ _ => rfl)) (pv 1) (fun _ _ => rfl)) (pv 2) (fun _ _ => rfl)))
    (pss_cons (ps_set (i := 5) nd rfl (by first | exact Or.inl rfl | exact Or.inr rfl) (pe_ifExp (pt_cmpR op_notN (pv 4) pe_non (nomark _)) (pe_ix (ix_U hu1) (pe_ix (ix_U hu1) (pe_ix (ix_U hu1) (pv 0) pe_int (fun _ _ => rfl)) (pe_ix (ix_U hu1) (pv 4) pe_int (fun _ _ => rfl)) (fun _ _ => rfl)) (pv 3) (fun _ _ => rfl)) pe_non))
    (pss_one (ps_ret (pe_ifExp (pt_cmpR op_notN (pv 5) pe_non (nomark _)) (pe_tup (pa_cons (pe_ix (ix_U hu1) (pv 5) pe_int (fun _ _ => rfl)) (pa_cons (pe_callD k_added hgd hr (by decide) (by rfl) (pa_cons (pe_ix (ix_U hu1) (pv 4) pe_int (fun _ _ => rfl)) (pa_cons (pe_ix (ix_U hu1) (pv 5) pe_int (fun _ _ => rfl)) pa_nil))) pa_nil))) pe_non)))))
theorem ln_two_steps : ∀ xs P, F_two_steps xs P → xs.length = 4 := fun xs P h => by
  unfold F_two_steps at h
  repeat (first | (obtain ⟨h1, _⟩ := h; rw [h1]; rfl) | (obtain ⟨_, h⟩ := h))
theorem ok_two_steps (T : Tx mg) (D : L2.Stands K mg "two_steps" st_two_steps ["machine", "mode", "one", "other"]) (k_added : L2.Keeps P w K mg base "added" ["one", "other"] 1 (liftSp K F_added)) : L2.Keeps P w K mg base "two_steps" ["machine", "mode", "one", "other"] 2 (liftSp K F_two_steps) :=
  D.keeps sc_two_steps ln_two_steps (fun f cdv A outer s H E hgd hr => w_two_steps T k_added f cdv A outer s H E hgd hr) fun Γ xs P ha h => d_two_steps ha h
abbrev st_square_fails : Stmt := top 25
theorem sc_square_fails : FnScope N_square_fails ["machine", "mode", "one", "other"] (defScope st_square_fails) := ⟨rfl, rfl, rfl, by decide +kernel, rfl, by decide +kernel, by decide +kernel⟩
theorem w_square_fails (T : Tx mg) (k_two_steps : L2.Keeps P w K mg base "two_steps" ["machine", "mode", "one", "other"] 2 (liftSp K F_two_steps)) (f : Addr) (cdv : Value) (A : Around) (outer : List Env) (s : Shared) (H : Hp) (E : XK) (hgd : A.guards = some []) (hr : Room 2 (A.deeper (envOfC "square_fails" (defScope st_square_fails) s.heap.objs.size f cdv))) :
    PSs (cxOf CX0 P w K mg base N_square_fails "square_fails" (defScope st_square_fails) f cdv A outer s H E) (defBody st_square_fails) (t_square_fails K) := by
  have nd := sc_square_fails.nd
  have hu1 : (A.deeper (envOfC "square_fails" (defScope st_square_fails) s.heap.objs.size f cdv)).units + 1 < cLine := by have := hr.un; omega
  have hu60 : (A.deeper (envOfC "square_fails" (defScope st_square_fails) s.heap.objs.size f cdv)).units + 60 < cLine := by have := hr.un; omega
  have hu64 : (A.deeper (envOfC "square_fails" (defScope st_square_fails) s.heap.objs.size f cdv)).units + 64 < cLine := by have := hr.un; omega
  have hu65 : (A.deeper (envOfC "square_fails" (defScope st_square_fails) s.heap.objs.size f cdv)).units + 65 < cLine := by have := hr.un; omega
  refine PSs.nox ?_
  exact (pss_one (ps_ret (pe_cmpR (op_neU hu64) (pe_callD k_two_steps hgd hr (by decide) (by rfl) (pa_cons (pv 0) (pa_cons (pv 1) (pa_cons (pv 2) (pa_cons (pv 3) pa_nil))))) (pe_callD k_two_steps hgd hr (by decide) (by rfl) (pa_cons (pv 0) (pa_cons (pv 1) (pa_cons (pv 3) (pa_cons (pv 2) pa_nil))))) (nomark _))))
theorem ln_square_fails : ∀ xs P, F_square_fails xs P → xs.length = 4 := fun xs P h => by
  unfold F_square_fails at h
  repeat (first | (obtain ⟨h1, _⟩ := h; rw [h1]; rfl) | (obtain ⟨_, h⟩ := h))
theorem ok_square_fails (T : Tx mg) (D : L2.Stands K mg "square_fails" st_square_fails ["machine", "mode", "one", "other"]) (k_two_steps : L2.Keeps P w K mg base "two_steps" ["machine", "mode", "one", "other"] 2 (liftSp K F_two_steps)) : L2.Keeps P w K mg base "square_fails" ["machine", "mode", "one", "other"] 3 (liftSp K F_square_fails) :=
  D.keeps sc_square_fails ln_square_fails (fun f cdv A outer s H E hgd hr => w_square_fails T k_two_steps f cdv A outer s H E hgd hr) fun Γ xs P ha h => d_square_fails ha h
abbrev st_modes_behind : Stmt := top 26
theorem sc_modes_behind : FnScope N_modes_behind ["machine", "mode"] (defScope st_modes_behind) := ⟨rfl, rfl, rfl, by decide +kernel, rfl, by decide +kernel, by decide +kernel⟩
theorem w_modes_behind (T : Tx mg)  (f : Addr) (cdv : Value) (A : Around) (outer : List Env) (s : Shared) (H : Hp) (E : XK) (hgd : A.guards = some []) (hr : Room 0 (A.deeper (envOfC "modes_behind" (defScope st_modes_behind) s.heap.objs.size f cdv))) :
    PSs (cxOf CX0 P w K mg base N_modes_behind "modes_behind" (defScope st_modes_behind) f cdv A outer s H E) (defBody st_modes_behind) (t_modes_behind K) := by
  have nd := sc_modes_behind.nd
  have hu1 : (A.deeper (envOfC "modes_behind" (defScope st_modes_behind) s.heap.objs.size f cdv)).units + 1 < cLine := by have := hr.un; omega
  have hu60 : (A.deeper (envOfC "modes_behind" (defScope st_modes_behind) s.heap.objs.size f cdv)).units + 60 < cLine := by have := hr.un; omega
  have hu64 : (A.deeper (envOfC "modes_behind" (defScope st_modes_behind) s.heap.objs.size f cdv)).units + 64 < cLine := by have := hr.un; omega
  have hu65 : (A.deeper (envOfC "modes_behind" (defScope st_modes_behind) s.heap.objs.size f cdv)).units + 65 < cLine := by have := hr.un; omega
  refine PSs.nox ?_
  exact (pss_one (ps_ret (pe_lc (own := [("step", 2)]) (g := (gName 2)) (tt := (tTest (tOp rNoN (tVar 2) (tC .non)))) (by rfl) nd (pi_U (pe_ix (ix_U hu1) (pe_ix (ix_U hu1) (pv 0) pe_int (fun _ _ => rfl)) (pv 1) (fun _ _ => rfl))) (blkOk_by (by kernel_rfl)) (fun _ _ _ _ _ => (pg_name (i := 2) nd rfl (by first | exact Or.inl rfl | exact Or.inr rfl))) (fun _ _ _ _ _ => (pts_one (pt_cmpR op_notN (pv 2) pe_non (nomark _)))) (fun _ _ _ _ _ => (pe_ix (ix_U hu1) (pv 2) pe_int (fun _ _ => rfl))))))
theorem ln_modes_behind : ∀ xs P, F_modes_behind xs P → xs.length = 2 := fun xs P h => by
  unfold F_modes_behind at h
  repeat (first | (obtain ⟨h1, _⟩ := h; rw [h1]; rfl) | (obtain ⟨_, h⟩ := h))
theorem ok_modes_behind (T : Tx mg) (D : L2.Stands K mg "modes_behind" st_modes_behind ["machine", "mode"])  : L2.Keeps P w K mg base "modes_behind" ["machine", "mode"] 1 (liftSp K F_modes_behind) :=
  D.keeps sc_modes_behind ln_modes_behind (fun f cdv A outer s H E hgd hr => w_modes_behind T  f cdv A outer s H E hgd hr) fun Γ xs P ha h => d_modes_behind ha h
abbrev st_modes_come_to : Stmt := top 27
theorem sc_modes_come_to : FnScope N_modes_come_to ["machine"] (defScope st_modes_come_to) := ⟨rfl, rfl, rfl, by decide +kernel, rfl, by decide +kernel, by decide +kernel⟩
theorem w_modes_come_to (T : Tx mg) (k_modes_behind : L2.Keeps P w K mg base "modes_behind" ["machine", "mode"] 1 (liftSp K F_modes_behind)) (f : Addr) (cdv : Value) (A : Around) (outer : List Env) (s : Shared) (H : Hp) (E : XK) (hgd : A.guards = some []) (hr : Room 1 (A.deeper (envOfC "modes_come_to" (defScope st_modes_come_to) s.heap.objs.size f cdv))) :
    PSs (cxOf CX0 P w K mg base N_modes_come_to "modes_come_to" (defScope st_modes_come_to) f cdv A outer s H E) (defBody st_modes_come_to) (t_modes_come_to K) := by
  have nd := sc_modes_come_to.nd
  have hu1 : (A.deeper (envOfC "modes_come_to" (defScope st_modes_come_to) s.heap.objs.size f cdv)).units + 1 < cLine := by have := hr.un; omega
  have hu60 : (A.deeper (envOfC "modes_come_to" (defScope st_modes_come_to) s.heap.objs.size f cdv)).units + 60 < cLine := by have := hr.un; omega
  have hu64 : (A.deeper (envOfC "modes_come_to" (defScope st_modes_come_to) s.heap.objs.size f cdv)).units + 64 < cLine := by have := hr.un; omega
  have hu65 : (A.deeper (envOfC "modes_come_to" (defScope st_modes_come_to) s.heap.objs.size f cdv)).units + 65 < cLine := by have := hr.un; omega
  refine PSs.nox ?_
  exact (pss_cons (ps_par (i := 1) (j := 2) (by rfl) nd rfl rfl (by decide) rfl rfl (pa_cons (pe_lst (pa_cons pe_int pa_nil)) (pa_cons (pe_disp (pps_cons pe_int pe_bl pps_nil) (by rfl) (by rfl) (fun z => by cases z) (by decide)) pa_nil)) (by rfl))
    (pss_cons (ps_set (i := 3) nd rfl (by first | exact Or.inl rfl | exact Or.inr rfl) pe_int)
    (pss_cons (ps_while PassesOwn.never (pt_cmpR op_lt (pv 3) (pe_callB call_lenU (by rfl) T.n_len (by decide +kernel) (pa_cons (pv 1) pa_nil)) (nomark _)) (pss_cons (ps_for PassesOwn.never rfl (pi_U (pe_callD k_modes_behind hgd hr (by decide) (by rfl) (pa_cons (pv 0) (pa_cons (pe_ix (ix_U hu1) (pv 1) (pv 3) (fun _ _ => rfl)) pa_nil)))) (pg_name (i := 4) nd rfl (by first | exact Or.inl rfl | exact Or.inr rfl)) (pss_one (ps_if (pt_cmpR (op_notInU hu65) (pv 4) (pv 2) (by with_unfolding_all rfl)) (pss_cons (ps_dput hu1 (pv 2) (pv 4) pe_bl rfl)
    (pss_one (ps_expr (pe_bm PySem.F.plainAttrs_list PySem.F.slot_list_append PySem.F.type_list_append mt_append (pv 1) (pa_cons (pv 4) pa_nil))))) pss_nil)))
    (pss_one (ps_aug (i := 3) nd rfl (by first | exact Or.inl rfl | exact Or.inr rfl) pe_int ip_add))))
    (pss_one (ps_ret (pe_callTy call_tupU (by rfl) T.n_tuple (by decide +kernel) (pa_cons (pv 1) pa_nil)))))))
theorem ln_modes_come_to : ∀ xs P, F_modes_come_to xs P → xs.length = 1 := fun xs P h => by
  unfold F_modes_come_to at h
  repeat (first | (obtain ⟨h1, _⟩ := h; rw [h1]; rfl) | (obtain ⟨_, h⟩ := h))
theorem ok_modes_come_to (T : Tx mg) (D : L2.Stands K mg "modes_come_to" st_modes_come_to ["machine"]) (k_modes_behind : L2.Keeps P w K mg base "modes_behind" ["machine", "mode"] 1 (liftSp K F_modes_behind)) : L2.Keeps P w K mg base "modes_come_to" ["machine"] 2 (liftSp K F_modes_come_to) :=
  D.keeps sc_modes_come_to ln_modes_come_to (fun f cdv A outer s H E hgd hr => w_modes_come_to T k_modes_behind f cdv A outer s H E hgd hr) fun Γ xs P ha h => d_modes_come_to ha h
abbrev st_first_square : Stmt := top 28
theorem sc_first_square : FnScope N_first_square ["machine"] (defScope st_first_square) := ⟨rfl, rfl, rfl, by decide +kernel, rfl, by decide +kernel, by decide +kernel⟩
theorem w_first_square (T : Tx mg) (k_modes_come_to : L2.Keeps P w K mg base "modes_come_to" ["machine"] 2 (liftSp K F_modes_come_to)) (k_square_fails : L2.Keeps P w K mg base "square_fails" ["machine", "mode", "one", "other"] 3 (liftSp K F_square_fails)) (f : Addr) (cdv : Value) (A : Around) (outer : List Env) (s : Shared) (H : Hp) (E : XK) (hgd : A.guards = some []) (hr : Room 3 (A.deeper (envOfC "first_square" (defScope st_first_square) s.heap.objs.size f cdv))) :
    PSs (cxOf CX0 P w K mg base N_first_square "first_square" (defScope st_first_square) f cdv A outer s H E) (defBody st_first_square) (t_first_square K) := by
  have nd := sc_first_square.nd
  have hu1 : (A.deeper (envOfC "first_square" (defScope st_first_square) s.heap.objs.size f cdv)).units + 1 < cLine := by have := hr.un; omega
  have hu60 : (A.deeper (envOfC "first_square" (defScope st_first_square) s.heap.objs.size f cdv)).units + 60 < cLine := by have := hr.un; omega
  have hu64 : (A.deeper (envOfC "first_square" (defScope st_first_square) s.heap.objs.size f cdv)).units + 64 < cLine := by have := hr.un; omega
  have hu65 : (A.deeper (envOfC "first_square" (defScope st_first_square) s.heap.objs.size f cdv)).units + 65 < cLine := by have := hr.un; omega
  refine PSs.nox ?_
  exact (pss_cons (ps_for PassesOwn.never rfl (pi_U (pe_callB cr_sortedU (by rfl) T.n_sorted (by decide +kernel) (pa_cons (pe_callD k_modes_come_to hgd hr (by decide) (by rfl) (pa_cons (pv 0) pa_nil)) pa_nil))) (pg_name (i := 1) nd rfl (by first | exact Or.inl rfl | exact Or.inr rfl)) (pss_one (ps_for PassesOwn.never rfl (pi_range1 (by rfl) T.n_range (pa_cons (pe_ix (ix_U hu1) (pv 0) pe_int (fun _ _ => rfl)) pa_nil)) (pg_name (i := 2) nd rfl (by first | exact Or.inl rfl | exact Or.inr rfl)) (pss_cons (ps_setLc (i := 3) (own := [("other", 4)]) (g := (gName 4)) (tt := (tB (tCall (liftSp K F_square_fails) [] E0 (tCons (tVar 0) (tCons (tVar 1) (tCons (tVar 2) (tCons (tVar 4) tNil))))))) (by rfl) nd rfl rfl (sw_true rfl rfl rfl (by decide +kernel)) (pi_range2 (by rfl) T.n_range (pa_cons (pe_op op_addU (pv 2) pe_int) (pa_cons (pe_ix (ix_U hu1) (pv 0) pe_int (fun _ _ => rfl)) pa_nil))) (blkOk_by (by kernel_rfl)) (fun _ _ _ _ _ => (pg_name (i := 4) nd rfl (by first | exact Or.inl rfl | exact Or.inr rfl))) (fun _ _ _ _ _ => (pts_one (pt_val (pe_callD k_square_fails hgd hr (by decide) (by rfl) (pa_cons (pv 0) (pa_cons (pv 1) (pa_cons (pv 2) (pa_cons (pv 4) pa_nil)))))))) (fun _ _ _ _ _ => (pv 4)))
    (pss_one (ps_if (pt_cmpR (op_neU hu64) (pv 3) (pe_lst pa_nil) (nomark _)) (pss_one (ps_ret (pe_tup (pa_cons (pv 1) (pa_cons (pv 2) (pa_cons (pe_ix (ix_U hu1) (pv 3) pe_int (fun _ _ => rfl)) pa_nil)))))) pss_nil))))))
    (pss_one (ps_ret pe_non)))
theorem ln_first_square : ∀ xs P, F_first_square xs P → xs.length = 1 := fun xs P h => by
  unfold F_first_square at h
  repeat (first | (obtain ⟨h1, _⟩ := h; rw [h1]; rfl) | (obtain ⟨_, h⟩ := h))
theorem ok_first_square (T : Tx mg) (D : L2.Stands K mg "first_square" st_first_square ["machine"]) (k_modes_come_to : L2.Keeps P w K mg base "modes_come_to" ["machine"] 2 (liftSp K F_modes_come_to)) (k_square_fails : L2.Keeps P w K mg base "square_fails" ["machine", "mode", "one", "other"] 3 (liftSp K F_square_fails)) : L2.Keeps P w K mg base "first_square" ["machine"] 4 (liftSp K F_first_square) :=
  D.keeps sc_first_square ln_first_square (fun f cdv A outer s H E hgd hr => w_first_square T k_modes_come_to k_square_fails f cdv A outer s H E hgd hr) fun Γ xs P ha h => d_first_square ha h
abbrev st_is_commuting : Stmt := top 29
theorem sc_is_commuting : FnScope N_is_commuting ["machine"] (defScope st_is_commuting) := ⟨rfl, rfl, rfl, by decide +kernel, rfl, by decide +kernel, by decide +kernel⟩
theorem w_is_commuting (T : Tx mg) (k_first_square : L2.Keeps P w K mg base "first_square" ["machine"] 4 (liftSp K F_first_square)) (f : Addr) (cdv : Value) (A : Around) (outer : List Env) (s : Shared) (H : Hp) (E : XK) (hgd : A.guards = some []) (hr : Room 4 (A.deeper (envOfC "is_commuting" (defScope st_is_commuting) s.heap.objs.size f cdv))) :
    PSs (cxOf CX0 P w K mg base N_is_commuting "is_commuting" (defScope st_is_commuting) f cdv A outer s H E) (defBody st_is_commuting) (t_is_commuting K) := by
  have nd := sc_is_commuting.nd
  have hu1 : (A.deeper (envOfC "is_commuting" (defScope st_is_commuting) s.heap.objs.size f cdv)).units + 1 < cLine := by have := hr.un; omega
  have hu60 : (A.deeper (envOfC "is_commuting" (defScope st_is_commuting) s.heap.objs.size f cdv)).units + 60 < cLine := by have := hr.un; omega
  have hu64 : (A.deeper (envOfC "is_commuting" (defScope st_is_commuting) s.heap.objs.size f cdv)).units + 64 < cLine := by have := hr.un; omega
  have hu65 : (A.deeper (envOfC "is_commuting" (defScope st_is_commuting) s.heap.objs.size f cdv)).units + 65 < cLine := by have := hr.un; omega
  refine PSs.nox ?_
  exact (pss_one (ps_ret (pe_cmpR op_isN (pe_callD k_first_square hgd hr (by decide) (by rfl) (pa_cons (pv 0) pa_nil)) pe_non (nomark _))))
theorem ln_is_commuting : ∀ xs P, F_is_commuting xs P → xs.length = 1 := fun xs P h => by
  unfold F_is_commuting at h
  repeat (first | (obtain ⟨h1, _⟩ := h; rw [h1]; rfl) | (obtain ⟨_, h⟩ := h))
theorem ok_is_commuting (T : Tx mg) (D : L2.Stands K mg "is_commuting" st_is_commuting ["machine"]) (k_first_square : L2.Keeps P w K mg base "first_square" ["machine"] 4 (liftSp K F_first_square)) : L2.Keeps P w K mg base "is_commuting" ["machine"] 5 (liftSp K F_is_commuting) :=
  D.keeps sc_is_commuting ln_is_commuting (fun f cdv A outer s H E hgd hr => w_is_commuting T k_first_square f cdv A outer s H E hgd hr) fun Γ xs P ha h => d_is_commuting ha h
abbrev st__law_source : Stmt := top 31
theorem sc__law_source : FnScope N__law_source ["script"] (defScope st__law_source) := ⟨rfl, rfl, rfl, by decide +kernel, rfl, by decide +kernel, by decide +kernel⟩
theorem w__law_source (T : Tx mg)  (f : Addr) (cdv : Value) (A : Around) (outer : List Env) (s : Shared) (H : Hp) (E : XK) (hgd : A.guards = some []) (hr : Room 0 (A.deeper (envOfC "_law_source" (defScope st__law_source) s.heap.objs.size f cdv))) :
    PSs (cxOf CX0 P w K mg base N__law_source "_law_source" (defScope st__law_source) f cdv A outer s H E) (defBody st__law_source) (t__law_source K) := by
  have nd := sc__law_source.nd
  have hu1 : (A.deeper (envOfC "_law_source" (defScope st__law_source) s.heap.objs.size f cdv)).units + 1 < cLine := by have := hr.un; omega
  have hu60 : (A.deeper (envOfC "_law_source" (defScope st__law_source) s.heap.objs.size f cdv)).units + 60 < cLine := by have := hr.un; omega
  have hu64 : (A.deeper (envOfC "_law_source" (defScope st__law_source) s.heap.objs.size f cdv)).units + 64 < cLine := by have := hr.un; omega
  have hu65 : (A.deeper (envOfC "_law_source" (defScope st__law_source) s.heap.objs.size f cdv)).units + 65 < cLine := by have := hr.un; omega
  refine PSs.nox ?_
  exact (pss_cons (ps_set (i := 1) nd rfl (by first | exact Or.inl rfl | exact Or.inr rfl) pe_int)
    (pss_cons (ps_for PassesOwn.never rfl (pi_U (pv 0)) (pg_name (i := 2) nd rfl (by first | exact Or.inl rfl | exact Or.inr rfl)) (pss_one (ps_set (i := 1) nd rfl (by first | exact Or.inl rfl | exact Or.inr rfl) (pe_op op_mod (pe_callTy call_intU (by rfl) T.n_int (by decide +kernel) (pa_cons (pe_op op_addU (pe_op op_addU (pe_op op_mulU (pv 1) pe_int) (pe_op op_mulU (pv 2) pe_int)) pe_int) pa_nil)) pe_int))))
    (pss_one (ps_ret (pe_disp (pps_cons pe_str (pe_revL (pe_lc (own := [("cell", 2)]) (g := (gName 2)) (tt := tYes) (by rfl) nd (pi_U (pv 0)) (blkOk_by (by kernel_rfl)) (fun _ _ _ _ _ => (pg_name (i := 2) nd rfl (by first | exact Or.inl rfl | exact Or.inr rfl))) (fun _ _ _ _ _ => pts_nil) (fun _ _ _ _ _ => (pe_callB call_absU (by rfl) T.n_abs (by decide +kernel) (pa_cons (pv 2) pa_nil))))) (pps_cons pe_str pe_int (pps_cons pe_str (pv 1) (pps_cons pe_str pe_int pps_nil)))) (by rfl) (by rfl) (fun z => by cases z) (by decide))))))
theorem ok__law_source (T : Tx mg) (D : L2.Stands K mg "_law_source" st__law_source ["script"])  : L2.Keeps P w K mg base "_law_source" ["script"] 1 (spSrc K) :=
  D.keepsSp sc__law_source len_src (fun f cdv A outer s H E hgd hr => w__law_source T  f cdv A outer s H E hgd hr) fun vs H Q E h => src_body h
abbrev st__law_pick : Stmt := top 32
theorem sc__law_pick : FnScope N__law_pick ["source", "many"] (defScope st__law_pick) := ⟨rfl, rfl, rfl, by decide +kernel, rfl, by decide +kernel, by decide +kernel⟩
theorem w__law_pick (T : Tx mg)  (f : Addr) (cdv : Value) (A : Around) (outer : List Env) (s : Shared) (H : Hp) (E : XK) (hgd : A.guards = some []) (hr : Room 0 (A.deeper (envOfC "_law_pick" (defScope st__law_pick) s.heap.objs.size f cdv))) :
    PSs (cxOf CX0 P w K mg base N__law_pick "_law_pick" (defScope st__law_pick) f cdv A outer s H E) (defBody st__law_pick) (t__law_pick K) := by
  have nd := sc__law_pick.nd
  have hu1 : (A.deeper (envOfC "_law_pick" (defScope st__law_pick) s.heap.objs.size f cdv)).units + 1 < cLine := by have := hr.un; omega
  have hu60 : (A.deeper (envOfC "_law_pick" (defScope st__law_pick) s.heap.objs.size f cdv)).units + 60 < cLine := by have := hr.un; omega
  have hu64 : (A.deeper (envOfC "_law_pick" (defScope st__law_pick) s.heap.objs.size f cdv)).units + 64 < cLine := by have := hr.un; omega
  have hu65 : (A.deeper (envOfC "_law_pick" (defScope st__law_pick) s.heap.objs.size f cdv)).units + 65 < cLine := by have := hr.un; omega
  refine PSs.nox ?_
  exact (pss_cons (ps_while PassesOwn.never (PW.pt (pw_and (pt_cmpR op_gt (pv 1) pe_int (nomark _)) (pw_and (pt_cmpR op_lt (pe_ix (ix_U hu1) (pv 0) pe_str (fun _ _ => rfl)) pe_int (nomark _)) (pw_and1 (pt_cmpR op_gt (pe_callB call_lenU (by rfl) T.n_len (by decide +kernel) (pa_cons (pe_ix (ix_U hu1) (pv 0) pe_str (fun _ _ => rfl)) pa_nil)) pe_int (nomark _)))))) (pss_one (ps_dput hu1 (pv 0) pe_str (pe_bm0 PySem.F.plainAttrs_list PySem.F.slot_list_pop PySem.F.type_list_pop mt_pop (pe_ix (ix_U hu1) (pv 0) pe_str (fun _ _ => rfl))) rfl)))
    (pss_cons (ps_set (i := 2) nd rfl (by first | exact Or.inl rfl | exact Or.inr rfl) (pe_ix (ix_U hu1) (pv 0) pe_str (fun _ _ => rfl)))
    (pss_cons (ps_if (PW.pt (pw_or (pt_cmpR op_lt (pv 1) pe_int (nomark _)) (pw_or1 (pt_cmpR op_gt (pv 2) pe_int (nomark _))))) (pss_cons (ps_dput hu1 (pv 0) pe_str (pe_op op_fdivW (pv 2) (pe_callB (call_maxU rfl) (by rfl) T.n_max (by decide +kernel) (pa_cons pe_int (pa_cons (pv 1) pa_nil)))) rfl)
    (pss_one (ps_ret (pe_op op_mod (pe_callTy call_intU (by rfl) T.n_int (by decide +kernel) (pa_cons (pv 2) pa_nil)) (pe_callB (call_maxU rfl) (by rfl) T.n_max (by decide +kernel) (pa_cons pe_int (pa_cons (pv 1) pa_nil))))))) pss_nil)
    (pss_cons (ps_dput hu1 (pv 0) pe_str (pe_op op_addU (pe_ix (ix_U hu1) (pv 0) pe_str (fun _ _ => rfl)) pe_int) rfl)
    (pss_cons (ps_set (i := 3) nd rfl (by first | exact Or.inl rfl | exact Or.inr rfl) (pe_op op_mod (pe_callTy call_intU (by rfl) T.n_int (by decide +kernel) (pa_cons (pe_op op_addU (pe_ix (ix_U hu1) (pv 0) pe_str (fun _ _ => rfl)) (pe_op op_mulU (pe_ix (ix_U hu1) (pv 0) pe_str (fun _ _ => rfl)) pe_int)) pa_nil)) pe_int))
    (pss_cons (ps_set (i := 3) nd rfl (by first | exact Or.inl rfl | exact Or.inr rfl) (pe_op op_mod (pe_callTy call_intU (by rfl) T.n_int (by decide +kernel) (pa_cons (pe_op op_addU (pe_op op_mulU (pv 3) (pv 3)) (pe_op op_mulU (pe_ix (ix_U hu1) (pv 0) pe_str (fun _ _ => rfl)) pe_int)) pa_nil)) pe_int))
    (pss_cons (ps_dput hu1 (pv 0) pe_str (pv 3) rfl)
    (pss_one (ps_ret (pe_op op_mod (pe_callTy call_intU (by rfl) T.n_int (by decide +kernel) (pa_cons (pe_op op_fdivW (pv 3) pe_int) pa_nil)) (pv 1)))))))))))
theorem ln__law_pick : ∀ xs P, F__law_pick xs P → xs.length = 2 := fun xs P h => by
  unfold F__law_pick at h
  repeat (first | (obtain ⟨h1, _⟩ := h; rw [h1]; rfl) | (obtain ⟨_, h⟩ := h))
theorem ok__law_pick (T : Tx mg) (D : L2.Stands K mg "_law_pick" st__law_pick ["source", "many"])  : L2.Keeps P w K mg base "_law_pick" ["source", "many"] 1 (liftSp K F__law_pick) :=
  D.keeps sc__law_pick ln__law_pick (fun f cdv A outer s H E hgd hr => w__law_pick T  f cdv A outer s H E hgd hr) fun Γ xs P ha h => d__law_pick ha h
abbrev st__law_of : Stmt := top 33
theorem sc__law_of : FnScope N__law_of ["source", "some"] (defScope st__law_of) := ⟨rfl, rfl, rfl, by decide +kernel, rfl, by decide +kernel, by decide +kernel⟩
theorem w__law_of (T : Tx mg) (k__law_pick : L2.Keeps P w K mg base "_law_pick" ["source", "many"] 1 (liftSp K F__law_pick)) (f : Addr) (cdv : Value) (A : Around) (outer : List Env) (s : Shared) (H : Hp) (E : XK) (hgd : A.guards = some []) (hr : Room 1 (A.deeper (envOfC "_law_of" (defScope st__law_of) s.heap.objs.size f cdv))) :
    PSs (cxOf CX0 P w K mg base N__law_of "_law_of" (defScope st__law_of) f cdv A outer s H E) (defBody st__law_of) (t__law_of K) := by
  have nd := sc__law_of.nd
  have hu1 : (A.deeper (envOfC "_law_of" (defScope st__law_of) s.heap.objs.size f cdv)).units + 1 < cLine := by have := hr.un; omega
  have hu60 : (A.deeper (envOfC "_law_of" (defScope st__law_of) s.heap.objs.size f cdv)).units + 60 < cLine := by have := hr.un; omega
  have hu64 : (A.deeper (envOfC "_law_of" (defScope st__law_of) s.heap.objs.size f cdv)).units + 64 < cLine := by have := hr.un; omega
  have hu65 : (A.deeper (envOfC "_law_of" (defScope st__law_of) s.heap.objs.size f cdv)).units + 65 < cLine := by have := hr.un; omega
  refine PSs.nox ?_
  exact (pss_one (ps_ret (pe_ix (ix_U hu1) (pv 1) (pe_callD k__law_pick hgd hr (by decide) (by rfl) (pa_cons (pv 0) (pa_cons (pe_callB call_lenU (by rfl) T.n_len (by decide +kernel) (pa_cons (pv 1) pa_nil)) pa_nil))) (fun _ _ => rfl))))
theorem ln__law_of : ∀ xs P, F__law_of xs P → xs.length = 2 := fun xs P h => by
  unfold F__law_of at h
  repeat (first | (obtain ⟨h1, _⟩ := h; rw [h1]; rfl) | (obtain ⟨_, h⟩ := h))
theorem ok__law_of (T : Tx mg) (D : L2.Stands K mg "_law_of" st__law_of ["source", "some"]) (k__law_pick : L2.Keeps P w K mg base "_law_pick" ["source", "many"] 1 (liftSp K F__law_pick)) : L2.Keeps P w K mg base "_law_of" ["source", "some"] 2 (liftSp K F__law_of) :=
  D.keeps sc__law_of ln__law_of (fun f cdv A outer s H E hgd hr => w__law_of T k__law_pick f cdv A outer s H E hgd hr) fun Γ xs P ha h => d__law_of ha h
abbrev st__law_function : Stmt := top 34
theorem sc__law_function : FnScope N__law_function ["source"] (defScope st__law_function) := ⟨rfl, rfl, rfl, by decide +kernel, rfl, by decide +kernel, by decide +kernel⟩
theorem w__law_function (T : Tx mg) (k__law_pick : L2.Keeps P w K mg base "_law_pick" ["source", "many"] 1 (liftSp K F__law_pick)) (k__law_of : L2.Keeps P w K mg base "_law_of" ["source", "some"] 2 (liftSp K F__law_of)) (f : Addr) (cdv : Value) (A : Around) (outer : List Env) (s : Shared) (H : Hp) (E : XK) (hgd : A.guards = some []) (hr : Room 2 (A.deeper (envOfC "_law_function" (defScope st__law_function) s.heap.objs.size f cdv))) :
    PSs (cxOf CX0 P w K mg base N__law_function "_law_function" (defScope st__law_function) f cdv A outer s H E) (defBody st__law_function) (t__law_function K) := by
  have nd := sc__law_function.nd
  have hu1 : (A.deeper (envOfC "_law_function" (defScope st__law_function) s.heap.objs.size f cdv)).units + 1 < cLine := by have := hr.un; omega
  have hu60 : (A.deeper (envOfC "_law_function" (defScope st__law_function) s.heap.objs.size f cdv)).units + 60 < cLine := by have := hr.un; omega
  have hu64 : (A.deeper (envOfC "_law_function" (defScope st__law_function) s.heap.objs.size f cdv)).units + 64 < cLine := by have := hr.un; omega
  have hu65 : (A.deeper (envOfC "_law_function" (defScope st__law_function) s.heap.objs.size f cdv)).units + 65 < cLine := by have := hr.un; omega
  refine PSs.nox ?_
  exact (pss_cons (ps_asg (pe_tup (pa_cons (pe_op op_addU pe_int (pe_callD k__law_pick hgd hr (by decide) (by rfl) (pa_cons (pv 0) (pa_cons pe_int pa_nil)))) (pa_cons (pe_op op_addU pe_int (pe_callD k__law_pick hgd hr (by decide) (by rfl) (pa_cons (pv 0) (pa_cons pe_int pa_nil)))) (pa_cons (pe_callD k__law_of hgd hr (by decide) (by rfl) (pa_cons (pv 0) (pa_cons (pe_lst (pa_cons pe_int (pa_cons pe_int (pa_cons pe_int (pa_cons pe_int (pa_cons pe_int pa_nil)))))) pa_nil))) pa_nil)))) (pg_tup (by rfl) (pgs_cons (pg_name (i := 1) nd rfl (by first | exact Or.inl rfl | exact Or.inr rfl)) (pgs_cons (pg_name (i := 2) nd rfl (by first | exact Or.inl rfl | exact Or.inr rfl)) (pgs_cons (pg_name (i := 3) nd rfl (by first | exact Or.inl rfl | exact Or.inr rfl)) pgs_nil)))))
    (pss_cons (ps_setLc (i := 4) (own := [("out", 6)]) (g := (gName 6)) (tt := tYes) (by rfl) nd rfl rfl (sw_true rfl rfl rfl (by decide +kernel)) (pi_range1 (by rfl) T.n_range (pa_cons (pv 2) pa_nil)) (blkOk_by (by kernel_rfl)) (fun _ _ _ _ _ => (pg_name (i := 6) nd rfl (by first | exact Or.inl rfl | exact Or.inr rfl))) (fun _ _ _ _ _ => pts_nil) (fun _ _ _ _ _ => (pe_lc (own := [("i", 5)]) (g := (gName 5)) (tt := tYes) (by rfl) nd (pi_range1 (by rfl) T.n_range (pa_cons (pv 1) pa_nil)) (blkOk_by (by kernel_rfl)) (fun _ _ _ _ _ => (pg_name (i := 5) nd rfl (by first | exact Or.inl rfl | exact Or.inr rfl))) (fun _ _ _ _ _ => pts_nil) (fun _ _ _ _ _ => (pe_callD k__law_of hgd hr (by decide) (by rfl) (pa_cons (pv 0) (pa_cons (pe_lst (pa_cons pe_int (pa_cons pe_int (pa_cons pe_int (pa_cons pe_int (pa_cons pe_int pa_nil)))))) pa_nil)))))))
    (pss_cons (ps_setLc (i := 7) (own := [("out", 6)]) (g := (gName 6)) (tt := tYes) (by rfl) nd rfl rfl (sw_true rfl rfl rfl (by decide +kernel)) (pi_range1 (by rfl) T.n_range (pa_cons (pv 2) pa_nil)) (blkOk_by (by kernel_rfl)) (fun _ _ _ _ _ => (pg_name (i := 6) nd rfl (by first | exact Or.inl rfl | exact Or.inr rfl))) (fun _ _ _ _ _ => pts_nil) (fun _ _ _ _ _ => (pe_callD k__law_pick hgd hr (by decide) (by rfl) (pa_cons (pv 0) (pa_cons (pv 3) pa_nil)))))
    (pss_cons (ps_set (i := 8) nd rfl (by first | exact Or.inl rfl | exact Or.inr rfl) (pe_lc (own := [("i", 5)]) (g := (gName 5)) (tt := tYes) (by rfl) nd (pi_range1 (by rfl) T.n_range (pa_cons (pv 1) pa_nil)) (blkOk_by (by kernel_rfl)) (fun _ _ _ _ _ => (pg_name (i := 5) nd rfl (by first | exact Or.inl rfl | exact Or.inr rfl))) (fun _ _ _ _ _ => pts_nil) (fun _ _ _ _ _ => (pe_callD k__law_pick hgd hr (by decide) (by rfl) (pa_cons (pv 0) (pa_cons pe_int pa_nil))))))
    (pss_cons (ps_setLc (i := 9) (own := [("out", 6)]) (g := (gName 6)) (tt := tYes) (by rfl) nd rfl rfl (sw_true rfl rfl rfl (by decide +kernel)) (pi_range1 (by rfl) T.n_range (pa_cons (pv 2) pa_nil)) (blkOk_by (by kernel_rfl)) (fun _ _ _ _ _ => (pg_name (i := 6) nd rfl (by first | exact Or.inl rfl | exact Or.inr rfl))) (fun _ _ _ _ _ => pts_nil) (fun _ _ _ _ _ => (pe_lc (own := [("i", 5)]) (g := (gName 5)) (tt := tYes) (by rfl) nd (pi_range1 (by rfl) T.n_range (pa_cons (pv 1) pa_nil)) (blkOk_by (by kernel_rfl)) (fun _ _ _ _ _ => (pg_name (i := 5) nd rfl (by first | exact Or.inl rfl | exact Or.inr rfl))) (fun _ _ _ _ _ => pts_nil) (fun _ _ _ _ _ => (pe_callD k__law_of hgd hr (by decide) (by rfl) (pa_cons (pv 0) (pa_cons (pe_lst (pa_cons pe_int (pa_cons pe_int (pa_cons pe_int pa_nil)))) pa_nil)))))))
    (pss_cons (ps_set (i := 10) nd rfl (by first | exact Or.inl rfl | exact Or.inr rfl) (pe_lc (own := [("k", 11)]) (g := (gName 11)) (tt := tYes) (by rfl) nd (pi_range1 (by rfl) T.n_range (pa_cons (pe_callD k__law_of hgd hr (by decide) (by rfl) (pa_cons (pv 0) (pa_cons (pe_lst (pa_cons pe_int (pa_cons pe_int (pa_cons pe_int (pa_cons pe_int pa_nil))))) pa_nil))) pa_nil)) (blkOk_by (by kernel_rfl)) (fun _ _ _ _ _ => (pg_name (i := 11) nd rfl (by first | exact Or.inl rfl | exact Or.inr rfl))) (fun _ _ _ _ _ => pts_nil) (fun _ _ _ _ _ => (pe_callTy call_tupU (by rfl) T.n_tuple (by decide +kernel) (pa_cons (pe_lc (own := [("i", 5)]) (g := (gName 5)) (tt := tYes) (by rfl) nd (pi_range1 (by rfl) T.n_range (pa_cons (pv 1) pa_nil)) (blkOk_by (by kernel_rfl)) (fun _ _ _ _ _ => (pg_name (i := 5) nd rfl (by first | exact Or.inl rfl | exact Or.inr rfl))) (fun _ _ _ _ _ => pts_nil) (fun _ _ _ _ _ => (pe_callD k__law_pick hgd hr (by decide) (by rfl) (pa_cons (pv 0) (pa_cons pe_int pa_nil))))) pa_nil)))))
    (pss_cons (ps_set (i := 10) nd rfl (by first | exact Or.inl rfl | exact Or.inr rfl) (pe_lc (own := [("corner", 12)]) (g := (gName 12)) (tt := (tTest (tOp (rI0 fun i j => .bl (decide (i > j))) (tCB (rMaxU K) (tCons (tVar 12) tNil)) (tC (.int 0))))) (by rfl) nd (pi_U (pv 10)) (blkOk_by (by kernel_rfl)) (fun _ _ _ _ _ => (pg_name (i := 12) nd rfl (by first | exact Or.inl rfl | exact Or.inr rfl))) (fun _ _ _ _ _ => (pts_one (pt_cmpR op_gt (pe_callB (call_maxU rfl) (by rfl) T.n_max (by decide +kernel) (pa_cons (pv 12) pa_nil)) pe_int (nomark _)))) (fun _ _ _ _ _ => (pv 12))))
    (pss_cons (ps_setLc (i := 13) (own := [("i", 5)]) (g := (gName 5)) (tt := tYes) (by rfl) nd rfl rfl (sw_true rfl rfl rfl (by decide +kernel)) (pi_range1 (by rfl) T.n_range (pa_cons (pv 1) pa_nil)) (blkOk_by (by kernel_rfl)) (fun _ _ _ _ _ => (pg_name (i := 5) nd rfl (by first | exact Or.inl rfl | exact Or.inr rfl))) (fun _ _ _ _ _ => pts_nil) (fun _ _ _ _ _ => (pe_callB (call_maxU rfl) (by rfl) T.n_max (by decide +kernel) (pa_cons (pe_op op_addU (pe_lst (pa_cons (pe_ix (ix_U hu1) (pv 8) (pv 5) (fun _ _ => rfl)) pa_nil)) (pe_lc (own := [("corner", 12)]) (g := (gName 12)) (tt := tYes) (by rfl) nd (pi_U (pv 10)) (blkOk_by (by kernel_rfl)) (fun _ _ _ _ _ => (pg_name (i := 12) nd rfl (by first | exact Or.inl rfl | exact Or.inr rfl))) (fun _ _ _ _ _ => pts_nil) (fun _ _ _ _ _ => (pe_ix (ix_U hu1) (pv 12) (pv 5) (fun _ _ => rfl))))) pa_nil))))
    (pss_one (ps_ret (pe_tup (pa_cons (pv 1) (pa_cons (pv 2) (pa_cons (pv 3) (pa_cons (pv 4) (pa_cons (pv 7) (pa_cons (pv 8) (pa_cons (pv 9) (pa_cons (pv 10) (pa_cons (pv 13) pa_nil))))))))))))))))))))
theorem ln__law_function : ∀ xs P, F__law_function xs P → xs.length = 1 := fun xs P h => by
  unfold F__law_function at h
  repeat (first | (obtain ⟨h1, _⟩ := h; rw [h1]; rfl) | (obtain ⟨_, h⟩ := h))
theorem ok__law_function (T : Tx mg) (D : L2.Stands K mg "_law_function" st__law_function ["source"]) (k__law_pick : L2.Keeps P w K mg base "_law_pick" ["source", "many"] 1 (liftSp K F__law_pick)) (k__law_of : L2.Keeps P w K mg base "_law_of" ["source", "some"] 2 (liftSp K F__law_of)) : L2.Keeps P w K mg base "_law_function" ["source"] 3 (liftSp K F__law_function) :=
  D.keeps sc__law_function ln__law_function (fun f cdv A outer s H E hgd hr => w__law_function T k__law_pick k__law_of f cdv A outer s H E hgd hr) fun Γ xs P ha h => d__law_function ha h
abbrev st__law_is_never : Stmt := top 35
theorem sc__law_is_never : FnScope N__law_is_never ["function", "x"] (defScope st__law_is_never) := ⟨rfl, rfl, rfl, by decide +kernel, rfl, by decide +kernel, by decide +kernel⟩
theorem w__law_is_never (T : Tx mg)  (f : Addr) (cdv : Value) (A : Around) (outer : List Env) (s : Shared) (H : Hp) (E : XK) (hgd : A.guards = some []) (hr : Room 0 (A.deeper (envOfC "_law_is_never" (defScope st__law_is_never) s.heap.objs.size f cdv))) :
    PSs (cxOf CX0 P w K mg base N__law_is_never "_law_is_never" (defScope st__law_is_never) f cdv A outer s H E) (defBody st__law_is_never) (t__law_is_never K) := by
  have nd := sc__law_is_never.nd
  have hu1 : (A.deeper (envOfC "_law_is_never" (defScope st__law_is_never) s.heap.objs.size f cdv)).units + 1 < cLine := by have := hr.un; omega
  have hu60 : (A.deeper (envOfC "_law_is_never" (defScope st__law_is_never) s.heap.objs.size f cdv)).units + 60 < cLine := by have := hr.un; omega
  have hu64 : (A.deeper (envOfC "_law_is_never" (defScope st__law_is_never) s.heap.objs.size f cdv)).units + 64 < cLine := by have := hr.un; omega
  have hu65 : (A.deeper (envOfC "_law_is_never" (defScope st__law_is_never) s.heap.objs.size f cdv)).units + 65 < cLine := by have := hr.un; omega
  refine PSs.nox ?_
  exact (pss_one (ps_ret (pe_cmpR (op_neU hu64) (pe_lc (own := [("corner", 2)]) (g := (gName 2)) (tt := (tTest (tOp (rEqU K) (tLc (iZipK K false (tCons (tVar 2) (tCons (tVar 1) tNil))) (gTup K 2 (gCons (gName 3) (gCons (gName 4) gNil))) (tTest (tOp (rI0 fun i j => .bl (decide (i < j))) (tVar 4) (tVar 3))) (tC (.int 1)) [3, 4]) (tLst tNil)))) (by rfl) nd (pi_U (pe_ix (ix_U hu1) (pv 0) pe_int (fun _ _ => rfl))) (blkOk_by (by kernel_rfl)) (fun _ _ _ _ _ => (pg_name (i := 2) nd rfl (by first | exact Or.inl rfl | exact Or.inr rfl))) (fun _ _ _ _ _ => (pts_one (pt_cmpR (op_eqU hu64) (pe_lc (own := [("c", 3), ("many", 4)]) (g := (gTup K 2 (gCons (gName 3) (gCons (gName 4) gNil)))) (tt := (tTest (tOp (rI0 fun i j => .bl (decide (i < j))) (tVar 4) (tVar 3)))) (by rfl) nd (pi_zK (by rfl) T.n_zip (pa_cons (pv 2) (pa_cons (pv 1) pa_nil))) (blkOk_by (by kernel_rfl)) (fun _ _ _ _ _ => (pg_tup (by rfl) (pgs_cons (pg_name (i := 3) nd rfl (by first | exact Or.inl rfl | exact Or.inr rfl)) (pgs_cons (pg_name (i := 4) nd rfl (by first | exact Or.inl rfl | exact Or.inr rfl)) pgs_nil)))) (fun _ _ _ _ _ => (pts_one (pt_cmpR op_lt (pv 4) (pv 3) (nomark _)))) (fun _ _ _ _ _ => pe_int)) (pe_lst pa_nil) (nomark _)))) (fun _ _ _ _ _ => pe_int)) (pe_lst pa_nil) (nomark _))))
theorem ln__law_is_never : ∀ xs P, F__law_is_never xs P → xs.length = 2 := fun xs P h => by
  unfold F__law_is_never at h
  repeat (first | (obtain ⟨h1, _⟩ := h; rw [h1]; rfl) | (obtain ⟨_, h⟩ := h))
theorem ok__law_is_never (T : Tx mg) (D : L2.Stands K mg "_law_is_never" st__law_is_never ["function", "x"])  : L2.Keeps P w K mg base "_law_is_never" ["function", "x"] 1 (liftSp K F__law_is_never) :=
  D.keeps sc__law_is_never ln__law_is_never (fun f cdv A outer s H E hgd hr => w__law_is_never T  f cdv A outer s H E hgd hr) fun Γ xs P ha h => d__law_is_never ha h
abbrev st__law_given : Stmt := top 36
theorem sc__law_given : FnScope N__law_given ["function", "x"] (defScope st__law_given) := ⟨rfl, rfl, rfl, by decide +kernel, rfl, by decide +kernel, by decide +kernel⟩
theorem w__law_given (T : Tx mg)  (f : Addr) (cdv : Value) (A : Around) (outer : List Env) (s : Shared) (H : Hp) (E : XK) (hgd : A.guards = some []) (hr : Room 0 (A.deeper (envOfC "_law_given" (defScope st__law_given) s.heap.objs.size f cdv))) :
    PSs (cxOf CX0 P w K mg base N__law_given "_law_given" (defScope st__law_given) f cdv A outer s H E) (defBody st__law_given) (t__law_given K) := by
  have nd := sc__law_given.nd
  have hu1 : (A.deeper (envOfC "_law_given" (defScope st__law_given) s.heap.objs.size f cdv)).units + 1 < cLine := by have := hr.un; omega
  have hu60 : (A.deeper (envOfC "_law_given" (defScope st__law_given) s.heap.objs.size f cdv)).units + 60 < cLine := by have := hr.un; omega
  have hu64 : (A.deeper (envOfC "_law_given" (defScope st__law_given) s.heap.objs.size f cdv)).units + 64 < cLine := by have := hr.un; omega
  have hu65 : (A.deeper (envOfC "_law_given" (defScope st__law_given) s.heap.objs.size f cdv)).units + 65 < cLine := by have := hr.un; omega
  refine PSs.nox ?_
  exact (pss_cons (ps_asg (pv 0) (pg_tup (by rfl) (pgs_cons (pg_name (i := 2) nd rfl (by first | exact Or.inl rfl | exact Or.inr rfl)) (pgs_cons (pg_name (i := 3) nd rfl (by first | exact Or.inl rfl | exact Or.inr rfl)) (pgs_cons (pg_name (i := 4) nd rfl (by first | exact Or.inl rfl | exact Or.inr rfl)) (pgs_cons (pg_name (i := 5) nd rfl (by first | exact Or.inl rfl | exact Or.inr rfl)) (pgs_cons (pg_name (i := 6) nd rfl (by first | exact Or.inl rfl | exact Or.inr rfl)) (pgs_cons (pg_name (i := 7) nd rfl (by first | exact Or.inl rfl | exact Or.inr rfl)) (pgs_cons (pg_name (i := 8) nd rfl (by first | exact Or.inl rfl | exact Or.inr rfl)) (pgs_cons (pg_name (i := 9) nd rfl (by first | exact Or.inl rfl | exact Or.inr rfl)) (pgs_cons (pg_name (i := 10) nd rfl (by first | exact Or.inl rfl | exact Or.inr rfl)) pgs_nil)))))))))))
    (pss_cons (ps_set (i := 11) nd rfl (by first | exact Or.inl rfl | exact Or.inr rfl) (pe_lst pa_nil))
    (pss_cons (ps_for PassesOwn.never rfl (pi_range1 (by rfl) T.n_range (pa_cons (pv 3) pa_nil)) (pg_name (i := 12) nd rfl (by first | exact Or.inl rfl | exact Or.inr rfl)) (pss_cons (ps_set (i := 13) nd rfl (by first | exact Or.inl rfl | exact Or.inr rfl) (pe_op op_fdivW (pe_op op_addU (pe_callB (cr_sum rfl) (by rfl) T.n_sum (by decide +kernel) (pa_cons (pe_lc (own := [("i", 14)]) (g := (gName 14)) (tt := tYes) (by rfl) nd (pi_range1 (by rfl) T.n_range (pa_cons (pv 2) pa_nil)) (blkOk_by (by kernel_rfl)) (fun _ _ _ _ _ => (pg_name (i := 14) nd rfl (by first | exact Or.inl rfl | exact Or.inr rfl))) (fun _ _ _ _ _ => pts_nil) (fun _ _ _ _ _ => (pe_op op_mulU (pe_ix (ix_U hu1) (pe_ix (ix_U hu1) (pv 5) (pv 12) (fun _ _ => rfl)) (pv 14) (fun _ _ => rfl)) (pe_ix (ix_U hu1) (pv 1) (pv 14) (fun _ _ => rfl))))) pa_nil)) (pe_ix (ix_U hu1) (pv 6) (pv 12) (fun _ _ => rfl))) (pv 4)))
    (pss_cons (ps_setLc (i := 15) (own := [("i", 14)]) (g := (gName 14)) (tt := (tAnd (tTest (tOp (rI0 fun i j => .bl (decide (i > j))) (tOp (rIxU K) (tVar 7) (tVar 14)) (tC (.int 0)))) (tTest (tOp (rI0 fun i j => .bl (decide (i ≥ j))) (tOp (rIxU K) (tVar 1) (tVar 14)) (tOp (rIxU K) (tVar 7) (tVar 14)))))) (by rfl) nd rfl rfl (sw_true rfl rfl rfl (by decide +kernel)) (pi_range1 (by rfl) T.n_range (pa_cons (pv 2) pa_nil)) (blkOk_by (by kernel_rfl)) (fun _ _ _ _ _ => (pg_name (i := 14) nd rfl (by first | exact Or.inl rfl | exact Or.inr rfl))) (fun _ _ _ _ _ => (pts_one (PW.pt (pw_and (pt_cmpR op_gt (pe_ix (ix_U hu1) (pv 7) (pv 14) (fun _ _ => rfl)) pe_int (nomark _)) (pw_and1 (pt_cmpR op_ge (pe_ix (ix_U hu1) (pv 1) (pv 14) (fun _ _ => rfl)) (pe_ix (ix_U hu1) (pv 7) (pv 14) (fun _ _ => rfl)) (nomark _))))))) (fun _ _ _ _ _ => (pe_ix (ix_U hu1) (pe_ix (ix_U hu1) (pv 8) (pv 12) (fun _ _ => rfl)) (pv 14) (fun _ _ => rfl))))
    (pss_one (ps_expr (pe_bm PySem.F.plainAttrs_list PySem.F.slot_list_append PySem.F.type_list_append mt_append (pv 11) (pa_cons (pe_op op_addU (pv 13) (pe_callB (cr_sum rfl) (by rfl) T.n_sum (by decide +kernel) (pa_cons (pv 15) pa_nil))) pa_nil)))))))
    (pss_one (ps_ret (pe_callTy call_tupU (by rfl) T.n_tuple (by decide +kernel) (pa_cons (pv 11) pa_nil)))))))
theorem ln__law_given : ∀ xs P, F__law_given xs P → xs.length = 2 := fun xs P h => by
  unfold F__law_given at h
  repeat (first | (obtain ⟨h1, _⟩ := h; rw [h1]; rfl) | (obtain ⟨_, h⟩ := h))
theorem ok__law_given (T : Tx mg) (D : L2.Stands K mg "_law_given" st__law_given ["function", "x"])  : L2.Keeps P w K mg base "_law_given" ["function", "x"] 1 (liftSp K F__law_given) :=
  D.keeps sc__law_given ln__law_given (fun f cdv A outer s H E hgd hr => w__law_given T  f cdv A outer s H E hgd hr) fun Γ xs P ha h => d__law_given ha h
abbrev st__law_at : Stmt := top 37
theorem sc__law_at : FnScope N__law_at ["function", "x"] (defScope st__law_at) := ⟨rfl, rfl, rfl, by decide +kernel, rfl, by decide +kernel, by decide +kernel⟩
theorem w__law_at (T : Tx mg)  (f : Addr) (cdv : Value) (A : Around) (outer : List Env) (s : Shared) (H : Hp) (E : XK) (hgd : A.guards = some []) (hr : Room 0 (A.deeper (envOfC "_law_at" (defScope st__law_at) s.heap.objs.size f cdv))) :
    PSs (cxOf CX0 P w K mg base N__law_at "_law_at" (defScope st__law_at) f cdv A outer s H E) (defBody st__law_at) (t__law_at K) := by
  have nd := sc__law_at.nd
  have hu1 : (A.deeper (envOfC "_law_at" (defScope st__law_at) s.heap.objs.size f cdv)).units + 1 < cLine := by have := hr.un; omega
  have hu60 : (A.deeper (envOfC "_law_at" (defScope st__law_at) s.heap.objs.size f cdv)).units + 60 < cLine := by have := hr.un; omega
  have hu64 : (A.deeper (envOfC "_law_at" (defScope st__law_at) s.heap.objs.size f cdv)).units + 64 < cLine := by have := hr.un; omega
  have hu65 : (A.deeper (envOfC "_law_at" (defScope st__law_at) s.heap.objs.size f cdv)).units + 65 < cLine := by have := hr.un; omega
  refine PSs.nox ?_
  exact (pss_cons (ps_asg (pe_tup (pa_cons (pe_ix (ix_U hu1) (pv 0) pe_int (fun _ _ => rfl)) (pa_cons (pe_ix (ix_U hu1) (pv 0) pe_int (fun _ _ => rfl)) pa_nil))) (pg_tup (by rfl) (pgs_cons (pg_name (i := 2) nd rfl (by first | exact Or.inl rfl | exact Or.inr rfl)) (pgs_cons (pg_name (i := 3) nd rfl (by first | exact Or.inl rfl | exact Or.inr rfl)) pgs_nil))))
    (pss_one (ps_ret (pe_callTy call_tupU (by rfl) T.n_tuple (by decide +kernel) (pa_cons (pe_lc (own := [("many", 4), ("t", 5)]) (g := (gTup K 2 (gCons (gName 4) (gCons (gName 5) gNil)))) (tt := tYes) (by rfl) nd (pi_zK (by rfl) T.n_zip (pa_cons (pv 1) (pa_cons (pv 3) pa_nil))) (blkOk_by (by kernel_rfl)) (fun _ _ _ _ _ => (pg_tup (by rfl) (pgs_cons (pg_name (i := 4) nd rfl (by first | exact Or.inl rfl | exact Or.inr rfl)) (pgs_cons (pg_name (i := 5) nd rfl (by first | exact Or.inl rfl | exact Or.inr rfl)) pgs_nil)))) (fun _ _ _ _ _ => pts_nil) (fun _ _ _ _ _ => (pe_ifExp (pt_cmpR op_lt (pv 4) (pe_op op_addU (pv 5) (pv 2)) (nomark _)) (pv 4) (pe_op op_addU (pv 5) (pe_op op_mod (pe_callTy call_intU (by rfl) T.n_int (by decide +kernel) (pa_cons (pe_op op_sub (pv 4) (pv 5)) pa_nil)) (pv 2)))))) pa_nil)))))
theorem ln__law_at : ∀ xs P, F__law_at xs P → xs.length = 2 := fun xs P h => by
  unfold F__law_at at h
  repeat (first | (obtain ⟨h1, _⟩ := h; rw [h1]; rfl) | (obtain ⟨_, h⟩ := h))
theorem ok__law_at (T : Tx mg) (D : L2.Stands K mg "_law_at" st__law_at ["function", "x"])  : L2.Keeps P w K mg base "_law_at" ["function", "x"] 1 (liftSp K F__law_at) :=
  D.keeps sc__law_at ln__law_at (fun f cdv A outer s H E hgd hr => w__law_at T  f cdv A outer s H E hgd hr) fun Γ xs P ha h => d__law_at ha h
abbrev st__law_one_more : Stmt := top 38
theorem sc__law_one_more : FnScope N__law_one_more ["x", "i"] (defScope st__law_one_more) := ⟨rfl, rfl, rfl, by decide +kernel, rfl, by decide +kernel, by decide +kernel⟩
theorem w__law_one_more (T : Tx mg)  (f : Addr) (cdv : Value) (A : Around) (outer : List Env) (s : Shared) (H : Hp) (E : XK) (hgd : A.guards = some []) (hr : Room 0 (A.deeper (envOfC "_law_one_more" (defScope st__law_one_more) s.heap.objs.size f cdv))) :
    PSs (cxOf CX0 P w K mg base N__law_one_more "_law_one_more" (defScope st__law_one_more) f cdv A outer s H E) (defBody st__law_one_more) (t__law_one_more K) := by
  have nd := sc__law_one_more.nd
  have hu1 : (A.deeper (envOfC "_law_one_more" (defScope st__law_one_more) s.heap.objs.size f cdv)).units + 1 < cLine := by have := hr.un; omega
  have hu60 : (A.deeper (envOfC "_law_one_more" (defScope st__law_one_more) s.heap.objs.size f cdv)).units + 60 < cLine := by have := hr.un; omega
  have hu64 : (A.deeper (envOfC "_law_one_more" (defScope st__law_one_more) s.heap.objs.size f cdv)).units + 64 < cLine := by have := hr.un; omega
  have hu65 : (A.deeper (envOfC "_law_one_more" (defScope st__law_one_more) s.heap.objs.size f cdv)).units + 65 < cLine := by have := hr.un; omega
  refine PSs.nox ?_
  exact (pss_one (ps_ret (pe_op op_addU (pe_op op_addU (pe_slice sl_U (pv 0) po_none (po_some (pv 1))) (pe_tup (pa_cons (pe_op op_addU (pe_ix (ix_U hu1) (pv 0) (pv 1) (fun _ _ => rfl)) pe_int) pa_nil))) (pe_slice sl_U (pv 0) (po_some (pe_op op_addU (pv 1) pe_int)) po_none))))
theorem ln__law_one_more : ∀ xs P, F__law_one_more xs P → xs.length = 2 := fun xs P h => by
  unfold F__law_one_more at h
  repeat (first | (obtain ⟨h1, _⟩ := h; rw [h1]; rfl) | (obtain ⟨_, h⟩ := h))
theorem ok__law_one_more (T : Tx mg) (D : L2.Stands K mg "_law_one_more" st__law_one_more ["x", "i"])  : L2.Keeps P w K mg base "_law_one_more" ["x", "i"] 1 (liftSp K F__law_one_more) :=
  D.keeps sc__law_one_more ln__law_one_more (fun f cdv A outer s H E hgd hr => w__law_one_more T  f cdv A outer s H E hgd hr) fun Γ xs P ha h => d__law_one_more ha h
abbrev st__law_machine : Stmt := top 39
theorem sc__law_machine : FnScope N__law_machine ["function"] (defScope st__law_machine) := ⟨rfl, rfl, rfl, by decide +kernel, rfl, by decide +kernel, by decide +kernel⟩
theorem w__law_machine (T : Tx mg) (k__law_one_more : L2.Keeps P w K mg base "_law_one_more" ["x", "i"] 1 (liftSp K F__law_one_more)) (k__law_is_never : L2.Keeps P w K mg base "_law_is_never" ["function", "x"] 1 (liftSp K F__law_is_never)) (k__law_given : L2.Keeps P w K mg base "_law_given" ["function", "x"] 1 (liftSp K F__law_given)) (k__law_at : L2.Keeps P w K mg base "_law_at" ["function", "x"] 1 (liftSp K F__law_at)) (f : Addr) (cdv : Value) (A : Around) (outer : List Env) (s : Shared) (H : Hp) (E : XK) (hgd : A.guards = some []) (hr : Room 1 (A.deeper (envOfC "_law_machine" (defScope st__law_machine) s.heap.objs.size f cdv))) :
    PSs (cxOf CX0 P w K mg base N__law_machine "_law_machine" (defScope st__law_machine) f cdv A outer s H E) (defBody st__law_machine) (t__law_machine K) := by
  have nd := sc__law_machine.nd
  have hu1 : (A.deeper (envOfC "_law_machine" (defScope st__law_machine) s.heap.objs.size f cdv)).units + 1 < cLine := by have := hr.un; omega
  have hu60 : (A.deeper (envOfC "_law_machine" (defScope st__law_machine) s.heap.objs.size f cdv)).units + 60 < cLine := by have := hr.un; omega
  have hu64 : (A.deeper (envOfC "_law_machine" (defScope st__law_machine) s.heap.objs.size f cdv)).units + 64 < cLine := by have := hr.un; omega
  have hu65 : (A.deeper (envOfC "_law_machine" (defScope st__law_machine) s.heap.objs.size f cdv)).units + 65 < cLine := by have := hr.un; omega
  refine PSs.nox ?_
  exact (pss_cons (ps_par3 (i := 1) (j := 2) (l := 3) (by rfl) nd rfl rfl rfl (by decide) (by decide) (by decide) rfl rfl rfl (pa_cons (pe_lst (pa_cons (pe_op op_mulU (pe_tup (pa_cons pe_int pa_nil)) (pe_ix (ix_U hu1) (pv 0) pe_int (fun _ _ => rfl))) pa_nil)) (pa_cons (pe_lst pa_nil) (pa_cons pe_int pa_nil))) (by rfl))
    (pss_cons (ps_while PassesOwn.never (pt_cmpR op_lt (pv 3) (pe_callB call_lenU (by rfl) T.n_len (by decide +kernel) (pa_cons (pv 1) pa_nil)) (nomark _)) (pss_cons (ps_set (i := 4) nd rfl (by first | exact Or.inl rfl | exact Or.inr rfl) (pe_lst pa_nil))
    (pss_cons (ps_for PassesOwn.never rfl (pi_range1 (by rfl) T.n_range (pa_cons (pe_ix (ix_U hu1) (pv 0) pe_int (fun _ _ => rfl)) pa_nil)) (pg_name (i := 5) nd rfl (by first | exact Or.inl rfl | exact Or.inr rfl)) (pss_cons (ps_set (i := 6) nd rfl (by first | exact Or.inl rfl | exact Or.inr rfl) (pe_callD k__law_one_more hgd hr (by decide) (by rfl) (pa_cons (pe_ix (ix_U hu1) (pv 1) (pv 3) (fun _ _ => rfl)) (pa_cons (pv 5) pa_nil))))
    (pss_one (ps_if (pt_val (pe_callD k__law_is_never hgd hr (by decide) (by rfl) (pa_cons (pv 0) (pa_cons (pv 6) pa_nil)))) (pss_one (ps_expr (pe_bm PySem.F.plainAttrs_list PySem.F.slot_list_append PySem.F.type_list_append mt_append (pv 4) (pa_cons pe_non pa_nil)))) (pss_cons (ps_setLc (i := 7) (own := [("a", 8), ("b", 9)]) (g := (gTup K 2 (gCons (gName 8) (gCons (gName 9) gNil)))) (tt := tYes) (by rfl) nd rfl rfl (sw_true rfl rfl rfl (by decide +kernel)) (pi_zK (by rfl) T.n_zip (pa_cons (pe_callD k__law_given hgd hr (by decide) (by rfl) (pa_cons (pv 0) (pa_cons (pe_ix (ix_U hu1) (pv 1) (pv 3) (fun _ _ => rfl)) pa_nil))) (pa_cons (pe_callD k__law_given hgd hr (by decide) (by rfl) (pa_cons (pv 0) (pa_cons (pv 6) pa_nil))) pa_nil))) (blkOk_by (by kernel_rfl)) (fun _ _ _ _ _ => (pg_tup (by rfl) (pgs_cons (pg_name (i := 8) nd rfl (by first | exact Or.inl rfl | exact Or.inr rfl)) (pgs_cons (pg_name (i := 9) nd rfl (by first | exact Or.inl rfl | exact Or.inr rfl)) pgs_nil)))) (fun _ _ _ _ _ => pts_nil) (fun _ _ _ _ _ => (pe_op op_sub (pv 9) (pv 8))))
    (pss_cons (ps_set (i := 6) nd rfl (by first | exact Or.inl rfl | exact Or.inr rfl) (pe_callD k__law_at hgd hr (by decide) (by rfl) (pa_cons (pv 0) (pa_cons (pv 6) pa_nil))))
    (pss_cons (ps_set (i := 1) nd rfl (by first | exact Or.inl rfl | exact Or.inr rfl) (pe_op op_addU (pv 1) (pe_op op_mulU (pe_lst (pa_cons (pv 6) pa_nil)) (pe_callTy call_intU (by rfl) T.n_int (by decide +kernel) (pa_cons (pe_cmpR (op_notInU hu65) (pv 6) (pv 1) (by with_unfolding_all rfl)) pa_nil)))))
    (pss_one (ps_expr (pe_bm PySem.F.plainAttrs_list PySem.F.slot_list_append PySem.F.type_list_append mt_append (pv 4) (pa_cons (pe_tup (pa_cons (pe_bm PySem.F.plainAttrs_list PySem.F.slot_list_index PySem.F.type_list_index (mt_indexD hu65) (pv 1) (pa_cons (pv 6) pa_nil)) (pa_cons (pe_callTy call_tupU (by rfl) T.n_tuple (by decide +kernel) (pa_cons (pv 7) pa_nil)) pa_nil))) pa_nil)))))))))))
    (pss_cons (ps_expr (pe_bm PySem.F.plainAttrs_list PySem.F.slot_list_append PySem.F.type_list_append mt_append (pv 2) (pa_cons (pe_callTy call_tupU (by rfl) T.n_tuple (by decide +kernel) (pa_cons (pv 4) pa_nil)) pa_nil)))
    (pss_one (ps_set (i := 3) nd rfl (by first | exact Or.inl rfl | exact Or.inr rfl) (pe_op op_addU (pv 3) pe_int)))))))
    (pss_one (ps_ret (pe_tup (pa_cons (pe_tup (pa_cons (pe_ix (ix_U hu1) (pv 0) pe_int (fun _ _ => rfl)) (pa_cons (pe_ix (ix_U hu1) (pv 0) pe_int (fun _ _ => rfl)) (pa_cons (pe_callTy call_tupU (by rfl) T.n_tuple (by decide +kernel) (pa_cons (pv 2) pa_nil)) pa_nil)))) (pa_cons (pv 1) pa_nil)))))))
theorem ln__law_machine : ∀ xs P, F__law_machine xs P → xs.length = 1 := fun xs P h => by
  unfold F__law_machine at h
  repeat (first | (obtain ⟨h1, _⟩ := h; rw [h1]; rfl) | (obtain ⟨_, h⟩ := h))
theorem ok__law_machine (T : Tx mg) (D : L2.Stands K mg "_law_machine" st__law_machine ["function"]) (k__law_one_more : L2.Keeps P w K mg base "_law_one_more" ["x", "i"] 1 (liftSp K F__law_one_more)) (k__law_is_never : L2.Keeps P w K mg base "_law_is_never" ["function", "x"] 1 (liftSp K F__law_is_never)) (k__law_given : L2.Keeps P w K mg base "_law_given" ["function", "x"] 1 (liftSp K F__law_given)) (k__law_at : L2.Keeps P w K mg base "_law_at" ["function", "x"] 1 (liftSp K F__law_at)) : L2.Keeps P w K mg base "_law_machine" ["function"] 2 (liftSp K F__law_machine) :=
  D.keeps sc__law_machine ln__law_machine (fun f cdv A outer s H E hgd hr => w__law_machine T k__law_one_more k__law_is_never k__law_given k__law_at f cdv A outer s H E hgd hr) fun Γ xs P ha h => d__law_machine ha h
abbrev st__law_alone : Stmt := top 40
theorem sc__law_alone : FnScope N__law_alone ["function", "i"] (defScope st__law_alone) := ⟨rfl, rfl, rfl, by decide +kernel, rfl, by decide +kernel, by decide +kernel⟩
theorem w__law_alone (T : Tx mg)  (f : Addr) (cdv : Value) (A : Around) (outer : List Env) (s : Shared) (H : Hp) (E : XK) (hgd : A.guards = some []) (hr : Room 0 (A.deeper (envOfC "_law_alone" (defScope st__law_alone) s.heap.objs.size f cdv))) :
    PSs (cxOf CX0 P w K mg base N__law_alone "_law_alone" (defScope st__law_alone) f cdv A outer s H E) (defBody st__law_alone) (t__law_alone K) := by
  have nd := sc__law_alone.nd
  have hu1 : (A.deeper (envOfC "_law_alone" (defScope st__law_alone) s.heap.objs.size f cdv)).units + 1 < cLine := by have := hr.un; omega
  have hu60 : (A.deeper (envOfC "_law_alone" (defScope st__law_alone) s.heap.objs.size f cdv)).units + 60 < cLine := by have := hr.un; omega
  have hu64 : (A.deeper (envOfC "_law_alone" (defScope st__law_alone) s.heap.objs.size f cdv)).units + 64 < cLine := by have := hr.un; omega
  have hu65 : (A.deeper (envOfC "_law_alone" (defScope st__law_alone) s.heap.objs.size f cdv)).units + 65 < cLine := by have := hr.un; omega
  refine PSs.nox ?_
  exact (pss_cons (ps_setLc (i := 2) (own := [("corner", 3)]) (g := (gName 3)) (tt := (tTest (tOp (rEqU K) (tLc (iRng1 (tCons (tOp (rIxU K) (tVar 0) (tC (.int 0))) tNil)) (gName 4) (tAnd (tTest (tOp (rNeU K) (tVar 4) (tVar 1))) (tTest (tOp (rI0 fun i j => .bl (decide (i > j))) (tOp (rIxU K) (tVar 3) (tVar 4)) (tC (.int 0))))) (tC (.int 1)) [4]) (tLst tNil)))) (by rfl) nd rfl rfl (sw_true rfl rfl rfl (by decide +kernel)) (pi_U (pe_ix (ix_U hu1) (pv 0) pe_int (fun _ _ => rfl))) (blkOk_by (by kernel_rfl)) (fun _ _ _ _ _ => (pg_name (i := 3) nd rfl (by first | exact Or.inl rfl | exact Or.inr rfl))) (fun _ _ _ _ _ => (pts_one (pt_cmpR (op_eqU hu64) (pe_lc (own := [("j", 4)]) (g := (gName 4)) (tt := (tAnd (tTest (tOp (rNeU K) (tVar 4) (tVar 1))) (tTest (tOp (rI0 fun i j => .bl (decide (i > j))) (tOp (rIxU K) (tVar 3) (tVar 4)) (tC (.int 0)))))) (by rfl) nd (pi_range1 (by rfl) T.n_range (pa_cons (pe_ix (ix_U hu1) (pv 0) pe_int (fun _ _ => rfl)) pa_nil)) (blkOk_by (by kernel_rfl)) (fun _ _ _ _ _ => (pg_name (i := 4) nd rfl (by first | exact Or.inl rfl | exact Or.inr rfl))) (fun _ _ _ _ _ => (pts_one (PW.pt (pw_and (pt_cmpR (op_neU hu64) (pv 4) (pv 1) (nomark _)) (pw_and1 (pt_cmpR op_gt (pe_ix (ix_U hu1) (pv 3) (pv 4) (fun _ _ => rfl)) pe_int (nomark _))))))) (fun _ _ _ _ _ => pe_int)) (pe_lst pa_nil) (nomark _)))) (fun _ _ _ _ _ => (pe_ix (ix_U hu1) (pv 3) (pv 1) (fun _ _ => rfl))))
    (pss_one (ps_ret (pe_ifExp (pt_cmpR (op_neU hu64) (pv 2) (pe_lst pa_nil) (nomark _)) (pe_op op_sub (pe_callB (call_minU rfl) (by rfl) T.n_min (by decide +kernel) (pa_cons (pv 2) pa_nil)) pe_int) pe_non))))
theorem ln__law_alone : ∀ xs P, F__law_alone xs P → xs.length = 2 := fun xs P h => by
  unfold F__law_alone at h
  repeat (first | (obtain ⟨h1, _⟩ := h; rw [h1]; rfl) | (obtain ⟨_, h⟩ := h))
theorem ok__law_alone (T : Tx mg) (D : L2.Stands K mg "_law_alone" st__law_alone ["function", "i"])  : L2.Keeps P w K mg base "_law_alone" ["function", "i"] 1 (liftSp K F__law_alone) :=
  D.keeps sc__law_alone ln__law_alone (fun f cdv A outer s H E hgd hr => w__law_alone T  f cdv A outer s H E hgd hr) fun Γ xs P ha h => d__law_alone ha h
abbrev st__law_slopes : Stmt := top 41
theorem sc__law_slopes : FnScope N__law_slopes ["function"] (defScope st__law_slopes) := ⟨rfl, rfl, rfl, by decide +kernel, rfl, by decide +kernel, by decide +kernel⟩
theorem w__law_slopes (T : Tx mg) (k__law_alone : L2.Keeps P w K mg base "_law_alone" ["function", "i"] 1 (liftSp K F__law_alone)) (f : Addr) (cdv : Value) (A : Around) (outer : List Env) (s : Shared) (H : Hp) (E : XK) (hgd : A.guards = some []) (hr : Room 1 (A.deeper (envOfC "_law_slopes" (defScope st__law_slopes) s.heap.objs.size f cdv))) :
    PSs (cxOf CX0 P w K mg base N__law_slopes "_law_slopes" (defScope st__law_slopes) f cdv A outer s H E) (defBody st__law_slopes) (t__law_slopes K) := by
  have nd := sc__law_slopes.nd
  have hu1 : (A.deeper (envOfC "_law_slopes" (defScope st__law_slopes) s.heap.objs.size f cdv)).units + 1 < cLine := by have := hr.un; omega
  have hu60 : (A.deeper (envOfC "_law_slopes" (defScope st__law_slopes) s.heap.objs.size f cdv)).units + 60 < cLine := by have := hr.un; omega
  have hu64 : (A.deeper (envOfC "_law_slopes" (defScope st__law_slopes) s.heap.objs.size f cdv)).units + 64 < cLine := by have := hr.un; omega
  have hu65 : (A.deeper (envOfC "_law_slopes" (defScope st__law_slopes) s.heap.objs.size f cdv)).units + 65 < cLine := by have := hr.un; omega
  refine PSs.nox ?_
  exact (pss_cons (ps_set (i := 1) nd rfl (by first | exact Or.inl rfl | exact Or.inr rfl) (pe_lst pa_nil))
    (pss_cons (ps_for PassesOwn.never rfl (pi_range1 (by rfl) T.n_range (pa_cons (pe_ix (ix_U hu1) (pv 0) pe_int (fun _ _ => rfl)) pa_nil)) (pg_name (i := 2) nd rfl (by first | exact Or.inl rfl | exact Or.inr rfl)) (pss_cons (ps_set (i := 3) nd rfl (by first | exact Or.inl rfl | exact Or.inr rfl) (pe_callTy call_tupU (by rfl) T.n_tuple (by decide +kernel) (pa_cons (pe_lc (own := [("weights", 4)]) (g := (gName 4)) (tt := tYes) (by rfl) nd (pi_U (pe_ix (ix_U hu1) (pv 0) pe_int (fun _ _ => rfl))) (blkOk_by (by kernel_rfl)) (fun _ _ _ _ _ => (pg_name (i := 4) nd rfl (by first | exact Or.inl rfl | exact Or.inr rfl))) (fun _ _ _ _ _ => pts_nil) (fun _ _ _ _ _ => (pe_ix (ix_U hu1) (pv 4) (pv 2) (fun _ _ => rfl)))) pa_nil)))
    (pss_one (ps_expr (pe_bm PySem.F.plainAttrs_list PySem.F.slot_list_append PySem.F.type_list_append mt_append (pv 1) (pa_cons (pe_ifExp (pt_cmpR op_isN (pe_callD k__law_alone hgd hr (by decide) (by rfl) (pa_cons (pv 0) (pa_cons (pv 2) pa_nil))) pe_non (nomark _)) (pe_tup (pa_cons (pe_ix (ix_U hu1) (pe_ix (ix_U hu1) (pv 0) pe_int (fun _ _ => rfl)) (pv 2) (fun _ _ => rfl)) (pa_cons (pe_ix (ix_U hu1) (pv 0) pe_int (fun _ _ => rfl)) (pa_cons (pv 3) pa_nil)))) pe_non) pa_nil))))))
    (pss_one (ps_ret (pe_callTy call_tupU (by rfl) T.n_tuple (by decide +kernel) (pa_cons (pv 1) pa_nil))))))
theorem ln__law_slopes : ∀ xs P, F__law_slopes xs P → xs.length = 1 := fun xs P h => by
  unfold F__law_slopes at h
  repeat (first | (obtain ⟨h1, _⟩ := h; rw [h1]; rfl) | (obtain ⟨_, h⟩ := h))
theorem ok__law_slopes (T : Tx mg) (D : L2.Stands K mg "_law_slopes" st__law_slopes ["function"]) (k__law_alone : L2.Keeps P w K mg base "_law_alone" ["function", "i"] 1 (liftSp K F__law_alone)) : L2.Keeps P w K mg base "_law_slopes" ["function"] 2 (liftSp K F__law_slopes) :=
  D.keeps sc__law_slopes ln__law_slopes (fun f cdv A outer s H E hgd hr => w__law_slopes T k__law_alone f cdv A outer s H E hgd hr) fun Γ xs P ha h => d__law_slopes ha h
abbrev st__law_inputs : Stmt := top 42
theorem sc__law_inputs : FnScope N__law_inputs ["source", "ins"] (defScope st__law_inputs) := ⟨rfl, rfl, rfl, by decide +kernel, rfl, by decide +kernel, by decide +kernel⟩
theorem w__law_inputs (T : Tx mg) (k__law_of : L2.Keeps P w K mg base "_law_of" ["source", "some"] 2 (liftSp K F__law_of)) (k__law_pick : L2.Keeps P w K mg base "_law_pick" ["source", "many"] 1 (liftSp K F__law_pick)) (f : Addr) (cdv : Value) (A : Around) (outer : List Env) (s : Shared) (H : Hp) (E : XK) (hgd : A.guards = some []) (hr : Room 2 (A.deeper (envOfC "_law_inputs" (defScope st__law_inputs) s.heap.objs.size f cdv))) :
    PSs (cxOf CX0 P w K mg base N__law_inputs "_law_inputs" (defScope st__law_inputs) f cdv A outer s H E) (defBody st__law_inputs) (t__law_inputs K) := by
  have nd := sc__law_inputs.nd
  have hu1 : (A.deeper (envOfC "_law_inputs" (defScope st__law_inputs) s.heap.objs.size f cdv)).units + 1 < cLine := by have := hr.un; omega
  have hu60 : (A.deeper (envOfC "_law_inputs" (defScope st__law_inputs) s.heap.objs.size f cdv)).units + 60 < cLine := by have := hr.un; omega
  have hu64 : (A.deeper (envOfC "_law_inputs" (defScope st__law_inputs) s.heap.objs.size f cdv)).units + 64 < cLine := by have := hr.un; omega
  have hu65 : (A.deeper (envOfC "_law_inputs" (defScope st__law_inputs) s.heap.objs.size f cdv)).units + 65 < cLine := by have := hr.un; omega
  refine PSs.nox ?_
  exact (pss_cons (ps_set (i := 2) nd rfl (by first | exact Or.inl rfl | exact Or.inr rfl) (pe_lst pa_nil))
    (pss_cons (ps_for PassesOwn.never rfl (pi_range1 (by rfl) T.n_range (pa_cons pe_int pa_nil)) (pg_name (i := 3) nd rfl (by first | exact Or.inl rfl | exact Or.inr rfl)) (pss_cons (ps_set (i := 4) nd rfl (by first | exact Or.inl rfl | exact Or.inr rfl) (pe_ix (ix_U hu1) (pe_lst (pa_cons pe_int (pa_cons pe_int (pa_cons pe_int (pa_cons pe_int (pa_cons (pe_op op_pow pe_int pe_int) (pa_cons (pe_op op_pow pe_int pe_int) (pa_cons (pe_op op_pow pe_int pe_int) pa_nil)))))))) (pv 3) (fun _ _ => rfl)))
    (pss_cons (ps_setLc (i := 5) (own := [("i", 6)]) (g := (gName 6)) (tt := tYes) (by rfl) nd rfl rfl (sw_true rfl rfl rfl (by decide +kernel)) (pi_range1 (by rfl) T.n_range (pa_cons (pv 1) pa_nil)) (blkOk_by (by kernel_rfl)) (fun _ _ _ _ _ => (pg_name (i := 6) nd rfl (by first | exact Or.inl rfl | exact Or.inr rfl))) (fun _ _ _ _ _ => pts_nil) (fun _ _ _ _ _ => (pe_callD k__law_of hgd hr (by decide) (by rfl) (pa_cons (pv 0) (pa_cons (pe_lst (pa_cons pe_int (pa_cons (pe_callD k__law_pick hgd hr (by decide) (by rfl) (pa_cons (pv 0) (pa_cons (pe_op op_addU (pv 4) pe_int) pa_nil))) (pa_cons (pv 4) (pa_cons (pe_callD k__law_pick hgd hr (by decide) (by rfl) (pa_cons (pv 0) (pa_cons pe_int pa_nil))) pa_nil))))) pa_nil)))))
    (pss_one (ps_expr (pe_bm PySem.F.plainAttrs_list PySem.F.slot_list_append PySem.F.type_list_append mt_append (pv 2) (pa_cons (pe_callTy call_tupU (by rfl) T.n_tuple (by decide +kernel) (pa_cons (pv 5) pa_nil)) pa_nil)))))))
    (pss_one (ps_ret (pv 2)))))
theorem ln__law_inputs : ∀ xs P, F__law_inputs xs P → xs.length = 2 := fun xs P h => by
  unfold F__law_inputs at h
  repeat (first | (obtain ⟨h1, _⟩ := h; rw [h1]; rfl) | (obtain ⟨_, h⟩ := h))
theorem ok__law_inputs (T : Tx mg) (D : L2.Stands K mg "_law_inputs" st__law_inputs ["source", "ins"]) (k__law_of : L2.Keeps P w K mg base "_law_of" ["source", "some"] 2 (liftSp K F__law_of)) (k__law_pick : L2.Keeps P w K mg base "_law_pick" ["source", "many"] 1 (liftSp K F__law_pick)) : L2.Keeps P w K mg base "_law_inputs" ["source", "ins"] 3 (liftSp K F__law_inputs) :=
  D.keeps sc__law_inputs ln__law_inputs (fun f cdv A outer s H E hgd hr => w__law_inputs T k__law_of k__law_pick f cdv A outer s H E hgd hr) fun Γ xs P ha h => d__law_inputs ha h
abbrev st_law : Stmt := top 43
theorem sc_law : FnScope N_law ["script"] (defScope st_law) := ⟨rfl, rfl, rfl, by decide +kernel, rfl, by decide +kernel, by decide +kernel⟩
theorem w_law (T : Tx mg) (k__law_source : L2.Keeps P w K mg base "_law_source" ["script"] 1 (spSrc K)) (k__law_function : L2.Keeps P w K mg base "_law_function" ["source"] 3 (liftSp K F__law_function)) (k__law_machine : L2.Keeps P w K mg base "_law_machine" ["function"] 2 (liftSp K F__law_machine)) (k_is_machine : L2.Keeps P w K mg base "is_machine" ["value"] 4 (liftSp K F_is_machine)) (k_is_commuting : L2.Keeps P w K mg base "is_commuting" ["machine"] 5 (liftSp K F_is_commuting)) (k_slopes : L2.Keeps P w K mg base "slopes" ["machine"] 4 (liftSp K F_slopes)) (k__law_slopes : L2.Keeps P w K mg base "_law_slopes" ["function"] 2 (liftSp K F__law_slopes)) (k__law_alone : L2.Keeps P w K mg base "_law_alone" ["function", "i"] 1 (liftSp K F__law_alone)) (k_alone : L2.Keeps P w K mg base "alone" ["machine", "wire"] 3 (liftSp K F_alone)) (k__law_inputs : L2.Keeps P w K mg base "_law_inputs" ["source", "ins"] 3 (liftSp K F__law_inputs)) (k__law_is_never : L2.Keeps P w K mg base "_law_is_never" ["function", "x"] 1 (liftSp K F__law_is_never)) (k__law_given : L2.Keeps P w K mg base "_law_given" ["function", "x"] 1 (liftSp K F__law_given)) (k__law_at : L2.Keeps P w K mg base "_law_at" ["function", "x"] 1 (liftSp K F__law_at)) (k_does_rest : L2.Keeps P w K mg base "does_rest" ["machine", "vector"] 6 (liftSp K F_does_rest)) (k_answer_to : L2.Keeps P w K mg base "answer_to" ["machine", "vector"] 6 (liftSp K F_answer_to)) (k_mode_behind : L2.Keeps P w K mg base "mode_behind" ["machine", "vector"] 6 (liftSp K F_mode_behind)) (k__law_pick : L2.Keeps P w K mg base "_law_pick" ["source", "many"] 1 (liftSp K F__law_pick)) (k_led : L2.Keeps P w K mg base "led" ["machine", "mode", "vector"] 5 (liftSp K F_led)) (k_led_by : L2.Keeps P w K mg base "led_by" ["machine", "mode", "wire", "many"] 4 (liftSp K F_led_by)) (f : Addr) (cdv : Value) (A : Around) (outer : List Env) (s : Shared) (H : Hp) (E : XK) (hgd : A.guards = some []) (hr : Room 6 (A.deeper (envOfC "law" (defScope st_law) s.heap.objs.size f cdv))) :
    PSs (cxOf CX0 P w K mg base N_law "law" (defScope st_law) f cdv A outer s H E) (defBody st_law) (t_law K) := by
  have nd := sc_law.nd
  have hu1 : (A.deeper (envOfC "law" (defScope st_law) s.heap.objs.size f cdv)).units + 1 < cLine := by have := hr.un; omega
  have hu60 : (A.deeper (envOfC "law" (defScope st_law) s.heap.objs.size f cdv)).units + 60 < cLine := by have := hr.un; omega
  have hu64 : (A.deeper (envOfC "law" (defScope st_law) s.heap.objs.size f cdv)).units + 64 < cLine := by have := hr.un; omega
  have hu65 : (A.deeper (envOfC "law" (defScope st_law) s.heap.objs.size f cdv)).units + 65 < cLine := by have := hr.un; omega
  refine PSs.nox ?_
  exact (pss_cons (ps_set (i := 1) nd rfl (by first | exact Or.inl rfl | exact Or.inr rfl) (pe_callD k__law_source hgd hr (by decide) (by rfl) (pa_cons (pv 0) pa_nil)))
    (pss_cons (ps_set (i := 2) nd rfl (by first | exact Or.inl rfl | exact Or.inr rfl) (pe_callD k__law_function hgd hr (by decide) (by rfl) (pa_cons (pv 1) pa_nil)))
    (pss_cons (ps_asg (pe_callD k__law_machine hgd hr (by decide) (by rfl) (pa_cons (pv 2) pa_nil)) (pg_tup (by rfl) (pgs_cons (pg_name (i := 3) nd rfl (by first | exact Or.inl rfl | exact Or.inr rfl)) (pgs_cons (pg_name (i := 4) nd rfl (by first | exact Or.inl rfl | exact Or.inr rfl)) pgs_nil))))
    (pss_cons (ps_if (PW.pt (pw_or (pt_cmpR op_notBl (pe_callD k_is_machine hgd hr (by decide) (by rfl) (pa_cons (pv 3) pa_nil)) pe_bl (nomark _)) (pw_or1 (pt_cmpR op_notBl (pe_callD k_is_commuting hgd hr (by decide) (by rfl) (pa_cons (pv 3) pa_nil)) pe_bl (nomark _))))) (pss_one (ps_ret pe_bl)) pss_nil)
    (pss_cons (ps_if (pt_cmpR (op_neU hu64) (pe_callB (call_repr hgd hu60) (by rfl) T.n_repr (by decide +kernel) (pa_cons (pe_callD k_slopes hgd hr (by decide) (by rfl) (pa_cons (pv 3) pa_nil)) pa_nil)) (pe_callB (call_repr hgd hu60) (by rfl) T.n_repr (by decide +kernel) (pa_cons (pe_callD k__law_slopes hgd hr (by decide) (by rfl) (pa_cons (pv 2) pa_nil)) pa_nil)) (nomark _)) (pss_one (ps_ret pe_bl)) pss_nil)
    (pss_cons (ps_setLc (i := 5) (own := [("i", 6)]) (g := (gName 6)) (tt := tYes) (by rfl) nd rfl rfl (sw_true rfl rfl rfl (by decide +kernel)) (pi_range1 (by rfl) T.n_range (pa_cons (pe_ix (ix_U hu1) (pv 2) pe_int (fun _ _ => rfl)) pa_nil)) (blkOk_by (by kernel_rfl)) (fun _ _ _ _ _ => (pg_name (i := 6) nd rfl (by first | exact Or.inl rfl | exact Or.inr rfl))) (fun _ _ _ _ _ => pts_nil) (fun _ _ _ _ _ => (pe_callD k__law_alone hgd hr (by decide) (by rfl) (pa_cons (pv 2) (pa_cons (pv 6) pa_nil)))))
    (pss_cons (ps_if (pt_cmpR (op_neU hu64) (pe_callB (call_repr hgd hu60) (by rfl) T.n_repr (by decide +kernel) (pa_cons (pe_lc (own := [("i", 6)]) (g := (gName 6)) (tt := tYes) (by rfl) nd (pi_range1 (by rfl) T.n_range (pa_cons (pe_ix (ix_U hu1) (pv 2) pe_int (fun _ _ => rfl)) pa_nil)) (blkOk_by (by kernel_rfl)) (fun _ _ _ _ _ => (pg_name (i := 6) nd rfl (by first | exact Or.inl rfl | exact Or.inr rfl))) (fun _ _ _ _ _ => pts_nil) (fun _ _ _ _ _ => (pe_callD k_alone hgd hr (by decide) (by rfl) (pa_cons (pv 3) (pa_cons (pv 6) pa_nil))))) pa_nil)) (pe_callB (call_repr hgd hu60) (by rfl) T.n_repr (by decide +kernel) (pa_cons (pv 5) pa_nil)) (nomark _)) (pss_one (ps_ret pe_bl)) pss_nil)
    (pss_cons (ps_for PassesOwn.never rfl (pi_U (pe_callD k__law_inputs hgd hr (by decide) (by rfl) (pa_cons (pv 1) (pa_cons (pe_ix (ix_U hu1) (pv 2) pe_int (fun _ _ => rfl)) pa_nil)))) (pg_name (i := 7) nd rfl (by first | exact Or.inl rfl | exact Or.inr rfl)) (pss_cons (ps_set (i := 8) nd rfl (by first | exact Or.inl rfl | exact Or.inr rfl) (pe_callD k__law_is_never hgd hr (by decide) (by rfl) (pa_cons (pv 2) (pa_cons (pv 7) pa_nil))))
    (pss_cons (ps_set (i := 5) nd rfl (by first | exact Or.inl rfl | exact Or.inr rfl) (pe_lst (pa_cons (pe_not (pv 8)) (pa_cons (pe_ifExp (pt_val (pv 8)) pe_non (pe_callD k__law_given hgd hr (by decide) (by rfl) (pa_cons (pv 2) (pa_cons (pv 7) pa_nil)))) pa_nil))))
    (pss_cons (ps_expr (pe_bm PySem.F.plainAttrs_list PySem.F.slot_list_append PySem.F.type_list_append mt_append (pv 5) (pa_cons (pe_ifExp (pt_val (pv 8)) pe_non (pe_bm PySem.F.plainAttrs_list PySem.F.slot_list_index PySem.F.type_list_index (mt_indexD hu65) (pv 4) (pa_cons (pe_callD k__law_at hgd hr (by decide) (by rfl) (pa_cons (pv 2) (pa_cons (pv 7) pa_nil))) pa_nil))) pa_nil)))
    (pss_cons (ps_if (pt_cmpR (op_neU hu64) (pe_callB (call_repr hgd hu60) (by rfl) T.n_repr (by decide +kernel) (pa_cons (pe_lst (pa_cons (pe_callD k_does_rest hgd hr (by decide) (by rfl) (pa_cons (pv 3) (pa_cons (pv 7) pa_nil))) (pa_cons (pe_callD k_answer_to hgd hr (by decide) (by rfl) (pa_cons (pv 3) (pa_cons (pv 7) pa_nil))) (pa_cons (pe_callD k_mode_behind hgd hr (by decide) (by rfl) (pa_cons (pv 3) (pa_cons (pv 7) pa_nil))) pa_nil)))) pa_nil)) (pe_callB (call_repr hgd hu60) (by rfl) T.n_repr (by decide +kernel) (pa_cons (pv 5) pa_nil)) (nomark _)) (pss_one (ps_ret pe_bl)) pss_nil)
    (pss_cons (ps_set (i := 9) nd rfl (by first | exact Or.inl rfl | exact Or.inr rfl) (pe_callD k__law_pick hgd hr (by decide) (by rfl) (pa_cons (pv 1) (pa_cons (pe_callB call_lenU (by rfl) T.n_len (by decide +kernel) (pa_cons (pv 4) pa_nil)) pa_nil))))
    (pss_cons (ps_set (i := 10) nd rfl (by first | exact Or.inl rfl | exact Or.inr rfl) (pe_callTy call_tupU (by rfl) T.n_tuple (by decide +kernel) (pa_cons (pe_lc (own := [("a", 11), ("b", 12)]) (g := (gTup K 2 (gCons (gName 11) (gCons (gName 12) gNil)))) (tt := tYes) (by rfl) nd (pi_zK (by rfl) T.n_zip (pa_cons (pe_ix (ix_U hu1) (pv 4) (pv 9) (fun _ _ => rfl)) (pa_cons (pv 7) pa_nil))) (blkOk_by (by kernel_rfl)) (fun _ _ _ _ _ => (pg_tup (by rfl) (pgs_cons (pg_name (i := 11) nd rfl (by first | exact Or.inl rfl | exact Or.inr rfl)) (pgs_cons (pg_name (i := 12) nd rfl (by first | exact Or.inl rfl | exact Or.inr rfl)) pgs_nil)))) (fun _ _ _ _ _ => pts_nil) (fun _ _ _ _ _ => (pe_op op_addU (pv 11) (pv 12)))) pa_nil)))
    (pss_cons (ps_par (i := 6) (j := 5) (by rfl) nd rfl rfl (by decide) rfl rfl (pa_cons (pe_callD k__law_pick hgd hr (by decide) (by rfl) (pa_cons (pv 1) (pa_cons (pe_ix (ix_U hu1) (pv 2) pe_int (fun _ _ => rfl)) pa_nil))) (pa_cons pe_non pa_nil)) (by rfl))
    (pss_cons (ps_if (pt_not (pt_val (pe_callD k__law_is_never hgd hr (by decide) (by rfl) (pa_cons (pv 2) (pa_cons (pv 10) pa_nil))))) (pss_cons (ps_setLc (i := 13) (own := [("a", 11), ("b", 12)]) (g := (gTup K 2 (gCons (gName 11) (gCons (gName 12) gNil)))) (tt := tYes) (by rfl) nd rfl rfl (sw_true rfl rfl rfl (by decide +kernel)) (pi_zK (by rfl) T.n_zip (pa_cons (pe_callD k__law_given hgd hr (by decide) (by rfl) (pa_cons (pv 2) (pa_cons (pe_ix (ix_U hu1) (pv 4) (pv 9) (fun _ _ => rfl)) pa_nil))) (pa_cons (pe_callD k__law_given hgd hr (by decide) (by rfl) (pa_cons (pv 2) (pa_cons (pv 10) pa_nil))) pa_nil))) (blkOk_by (by kernel_rfl)) (fun _ _ _ _ _ => (pg_tup (by rfl) (pgs_cons (pg_name (i := 11) nd rfl (by first | exact Or.inl rfl | exact Or.inr rfl)) (pgs_cons (pg_name (i := 12) nd rfl (by first | exact Or.inl rfl | exact Or.inr rfl)) pgs_nil)))) (fun _ _ _ _ _ => pts_nil) (fun _ _ _ _ _ => (pe_op op_sub (pv 12) (pv 11))))
    (pss_one (ps_set (i := 5) nd rfl (by first | exact Or.inl rfl | exact Or.inr rfl) (pe_tup (pa_cons (pe_bm PySem.F.plainAttrs_list PySem.F.slot_list_index PySem.F.type_list_index (mt_indexD hu65) (pv 4) (pa_cons (pe_callD k__law_at hgd hr (by decide) (by rfl) (pa_cons (pv 2) (pa_cons (pv 10) pa_nil))) pa_nil)) (pa_cons (pe_callTy call_tupU (by rfl) T.n_tuple (by decide +kernel) (pa_cons (pv 13) pa_nil)) pa_nil)))))) pss_nil)
    (pss_cons (ps_if (pt_cmpR (op_neU hu64) (pe_callB (call_repr hgd hu60) (by rfl) T.n_repr (by decide +kernel) (pa_cons (pe_callD k_led hgd hr (by decide) (by rfl) (pa_cons (pv 3) (pa_cons (pv 9) (pa_cons (pv 7) pa_nil)))) pa_nil)) (pe_callB (call_repr hgd hu60) (by rfl) T.n_repr (by decide +kernel) (pa_cons (pv 5) pa_nil)) (nomark _)) (pss_one (ps_ret pe_bl)) pss_nil)
    (pss_cons (ps_par (i := 14) (j := 5) (by rfl) nd rfl rfl (by decide) rfl rfl (pa_cons (pe_op op_addU (pe_op op_addU (pe_slice sl_U (pe_ix (ix_U hu1) (pv 4) (pv 9) (fun _ _ => rfl)) po_none (po_some (pv 6))) (pe_tup (pa_cons (pe_op op_addU (pe_ix (ix_U hu1) (pe_ix (ix_U hu1) (pv 4) (pv 9) (fun _ _ => rfl)) (pv 6) (fun _ _ => rfl)) (pe_ix (ix_U hu1) (pv 7) (pv 6) (fun _ _ => rfl))) pa_nil))) (pe_slice sl_U (pe_ix (ix_U hu1) (pv 4) (pv 9) (fun _ _ => rfl)) (po_some (pe_op op_addU (pv 6) pe_int)) po_none)) (pa_cons pe_non pa_nil)) (by rfl))
    (pss_cons (ps_if (pt_not (pt_val (pe_callD k__law_is_never hgd hr (by decide) (by rfl) (pa_cons (pv 2) (pa_cons (pv 14) pa_nil))))) (pss_cons (ps_setLc (i := 13) (own := [("a", 11), ("b", 12)]) (g := (gTup K 2 (gCons (gName 11) (gCons (gName 12) gNil)))) (tt := tYes) (by rfl) nd rfl rfl (sw_true rfl rfl rfl (by decide +kernel)) (pi_zK (by rfl) T.n_zip (pa_cons (pe_callD k__law_given hgd hr (by decide) (by rfl) (pa_cons (pv 2) (pa_cons (pe_ix (ix_U hu1) (pv 4) (pv 9) (fun _ _ => rfl)) pa_nil))) (pa_cons (pe_callD k__law_given hgd hr (by decide) (by rfl) (pa_cons (pv 2) (pa_cons (pv 14) pa_nil))) pa_nil))) (blkOk_by (by kernel_rfl)) (fun _ _ _ _ _ => (pg_tup (by rfl) (pgs_cons (pg_name (i := 11) nd rfl (by first | exact Or.inl rfl | exact Or.inr rfl)) (pgs_cons (pg_name (i := 12) nd rfl (by first | exact Or.inl rfl | exact Or.inr rfl)) pgs_nil)))) (fun _ _ _ _ _ => pts_nil) (fun _ _ _ _ _ => (pe_op op_sub (pv 12) (pv 11))))
    (pss_one (ps_set (i := 5) nd rfl (by first | exact Or.inl rfl | exact Or.inr rfl) (pe_tup (pa_cons (pe_bm PySem.F.plainAttrs_list PySem.F.slot_list_index PySem.F.type_list_index (mt_indexD hu65) (pv 4) (pa_cons (pe_callD k__law_at hgd hr (by decide) (by rfl) (pa_cons (pv 2) (pa_cons (pv 14) pa_nil))) pa_nil)) (pa_cons (pe_callTy call_tupU (by rfl) T.n_tuple (by decide +kernel) (pa_cons (pv 13) pa_nil)) pa_nil)))))) pss_nil)
    (pss_one (ps_if (pt_cmpR (op_neU hu64) (pe_callB (call_repr hgd hu60) (by rfl) T.n_repr (by decide +kernel) (pa_cons (pe_callD k_led_by hgd hr (by decide) (by rfl) (pa_cons (pv 3) (pa_cons (pv 9) (pa_cons (pv 6) (pa_cons (pe_ix (ix_U hu1) (pv 7) (pv 6) (fun _ _ => rfl)) pa_nil))))) pa_nil)) (pe_callB (call_repr hgd hu60) (by rfl) T.n_repr (by decide +kernel) (pa_cons (pv 5) pa_nil)) (nomark _)) (pss_one (ps_ret pe_bl)) pss_nil))))))))))))))
    (pss_cons (ps_set (i := 15) nd rfl (by first | exact Or.inl rfl | exact Or.inr rfl) (pe_tup (pa_cons pe_int (pa_cons pe_int (pa_cons (pe_tup (pa_cons (pe_tup (pa_cons (pe_tup (pa_cons pe_int (pa_cons (pe_tup (pa_cons pe_int pa_nil)) pa_nil))) pa_nil)) (pa_cons (pe_tup (pa_cons (pe_tup (pa_cons pe_int (pa_cons (pe_tup (pa_cons pe_int pa_nil)) pa_nil))) pa_nil)) pa_nil))) pa_nil)))))
    (pss_cons (ps_set (i := 16) nd rfl (by first | exact Or.inl rfl | exact Or.inr rfl) (pe_lst (pa_cons (pe_callD k_answer_to hgd hr (by decide) (by rfl) (pa_cons (pv 15) (pa_cons (pe_tup (pa_cons (pe_op op_pow pe_int pe_int) pa_nil)) pa_nil))) (pa_cons (pe_callD k_led hgd hr (by decide) (by rfl) (pa_cons (pv 15) (pa_cons pe_int (pa_cons (pe_tup (pa_cons (pe_op op_pow pe_int pe_int) pa_nil)) pa_nil)))) (pa_cons (pe_callD k_led_by hgd hr (by decide) (by rfl) (pa_cons (pv 15) (pa_cons pe_int (pa_cons pe_int (pa_cons pe_int pa_nil))))) (pa_cons (pe_callD k_slopes hgd hr (by decide) (by rfl) (pa_cons (pv 15) pa_nil)) pa_nil))))))
    (pss_cons (ps_expr (pe_bm PySem.F.plainAttrs_list PySem.F.slot_list_append PySem.F.type_list_append mt_append (pv 16) (pa_cons (pe_callD k_alone hgd hr (by decide) (by rfl) (pa_cons (pv 15) (pa_cons pe_int pa_nil))) pa_nil)))
    (pss_one (ps_ret (pe_cmpR (op_eqU hu64) (pe_callB (call_repr hgd hu60) (by rfl) T.n_repr (by decide +kernel) (pa_cons (pv 16) pa_nil)) (pe_callB (call_repr hgd hu60) (by rfl) T.n_repr (by decide +kernel) (pa_cons (pe_lst (pa_cons (pe_tup (pa_cons (pe_op op_mulU pe_int (pe_op op_pow pe_int pe_int)) pa_nil)) (pa_cons (pe_tup (pa_cons pe_int (pa_cons (pe_tup (pa_cons (pe_op op_mulU pe_int (pe_op op_pow pe_int pe_int)) pa_nil)) pa_nil))) (pa_cons (pe_tup (pa_cons pe_int (pa_cons (pe_tup (pa_cons pe_int pa_nil)) pa_nil))) (pa_cons (pe_tup (pa_cons (pe_tup (pa_cons pe_int (pa_cons pe_int (pa_cons (pe_tup (pa_cons pe_int pa_nil)) pa_nil)))) pa_nil)) (pa_cons pe_non pa_nil)))))) pa_nil)) (nomark _)))))))))))))))
theorem ok_law (T : Tx mg) {f : Addr} {fd : FuncData} (F : FunD K "law" "law" (defArgs st_law) (defBody st_law) (defScope st_law) [] [] f fd) (k__law_source : L2.Keeps P w K mg base "_law_source" ["script"] 1 (spSrc K)) (k__law_function : L2.Keeps P w K mg base "_law_function" ["source"] 3 (liftSp K F__law_function)) (k__law_machine : L2.Keeps P w K mg base "_law_machine" ["function"] 2 (liftSp K F__law_machine)) (k_is_machine : L2.Keeps P w K mg base "is_machine" ["value"] 4 (liftSp K F_is_machine)) (k_is_commuting : L2.Keeps P w K mg base "is_commuting" ["machine"] 5 (liftSp K F_is_commuting)) (k_slopes : L2.Keeps P w K mg base "slopes" ["machine"] 4 (liftSp K F_slopes)) (k__law_slopes : L2.Keeps P w K mg base "_law_slopes" ["function"] 2 (liftSp K F__law_slopes)) (k__law_alone : L2.Keeps P w K mg base "_law_alone" ["function", "i"] 1 (liftSp K F__law_alone)) (k_alone : L2.Keeps P w K mg base "alone" ["machine", "wire"] 3 (liftSp K F_alone)) (k__law_inputs : L2.Keeps P w K mg base "_law_inputs" ["source", "ins"] 3 (liftSp K F__law_inputs)) (k__law_is_never : L2.Keeps P w K mg base "_law_is_never" ["function", "x"] 1 (liftSp K F__law_is_never)) (k__law_given : L2.Keeps P w K mg base "_law_given" ["function", "x"] 1 (liftSp K F__law_given)) (k__law_at : L2.Keeps P w K mg base "_law_at" ["function", "x"] 1 (liftSp K F__law_at)) (k_does_rest : L2.Keeps P w K mg base "does_rest" ["machine", "vector"] 6 (liftSp K F_does_rest)) (k_answer_to : L2.Keeps P w K mg base "answer_to" ["machine", "vector"] 6 (liftSp K F_answer_to)) (k_mode_behind : L2.Keeps P w K mg base "mode_behind" ["machine", "vector"] 6 (liftSp K F_mode_behind)) (k__law_pick : L2.Keeps P w K mg base "_law_pick" ["source", "many"] 1 (liftSp K F__law_pick)) (k_led : L2.Keeps P w K mg base "led" ["machine", "mode", "vector"] 5 (liftSp K F_led)) (k_led_by : L2.Keeps P w K mg base "led_by" ["machine", "mode", "wire", "many"] 4 (liftSp K F_led_by)) : FnG P w K mg base CX0 7 f fd ["script"] (spLaw K) :=
  F.okG sc_law len_law fun cdv A outer s H vs Q E hgd hr h => ⟨t_law K, w_law T k__law_source k__law_function k__law_machine k_is_machine k_is_commuting k_slopes k__law_slopes k__law_alone k_alone k__law_inputs k__law_is_never k__law_given k__law_at k_does_rest k_answer_to k_mode_behind k__law_pick k_led k_led_by f cdv A outer s H E hgd hr, law_ok vs H Q E h⟩
theorem all_ok (T : Tx mg) (D_is_whole : L2.Stands K mg "is_whole" st_is_whole ["value"]) (D_is_vector : L2.Stands K mg "is_vector" st_is_vector ["many", "value"]) (D_nothing : L2.Stands K mg "nothing" st_nothing ["many"]) (D_added : L2.Stands K mg "added" st_added ["one", "other"]) (D_taken_off : L2.Stands K mg "taken_off" st_taken_off ["one", "other"]) (D_times : L2.Stands K mg "times" st_times ["one", "many"]) (D_wire_line : L2.Stands K mg "wire_line" st_wire_line ["machine", "mode", "wire"]) (D_slope_at : L2.Stands K mg "slope_at" st_slope_at ["machine", "mode", "wire"]) (D_slopes : L2.Stands K mg "slopes" st_slopes ["machine"]) (D_alone : L2.Stands K mg "alone" st_alone ["machine", "wire"]) (D_led_by : L2.Stands K mg "led_by" st_led_by ["machine", "mode", "wire", "many"]) (D_led : L2.Stands K mg "led" st_led ["machine", "mode", "vector"]) (D_answer_to : L2.Stands K mg "answer_to" st_answer_to ["machine", "vector"]) (D_mode_behind : L2.Stands K mg "mode_behind" st_mode_behind ["machine", "vector"]) (D_does_rest : L2.Stands K mg "does_rest" st_does_rest ["machine", "vector"]) (D_is_step : L2.Stands K mg "is_step" st_is_step ["outs", "modes", "value"]) (D_is_machine : L2.Stands K mg "is_machine" st_is_machine ["value"]) (D_two_steps : L2.Stands K mg "two_steps" st_two_steps ["machine", "mode", "one", "other"]) (D_square_fails : L2.Stands K mg "square_fails" st_square_fails ["machine", "mode", "one", "other"]) (D_modes_behind : L2.Stands K mg "modes_behind" st_modes_behind ["machine", "mode"]) (D_modes_come_to : L2.Stands K mg "modes_come_to" st_modes_come_to ["machine"]) (D_first_square : L2.Stands K mg "first_square" st_first_square ["machine"]) (D_is_commuting : L2.Stands K mg "is_commuting" st_is_commuting ["machine"]) (D__law_source : L2.Stands K mg "_law_source" st__law_source ["script"]) (D__law_pick : L2.Stands K mg "_law_pick" st__law_pick ["source", "many"]) (D__law_of : L2.Stands K mg "_law_of" st__law_of ["source", "some"]) (D__law_function : L2.Stands K mg "_law_function" st__law_function ["source"]) (D__law_is_never : L2.Stands K mg "_law_is_never" st__law_is_never ["function", "x"]) (D__law_given : L2.Stands K mg "_law_given" st__law_given ["function", "x"]) (D__law_at : L2.Stands K mg "_law_at" st__law_at ["function", "x"]) (D__law_one_more : L2.Stands K mg "_law_one_more" st__law_one_more ["x", "i"]) (D__law_machine : L2.Stands K mg "_law_machine" st__law_machine ["function"]) (D__law_alone : L2.Stands K mg "_law_alone" st__law_alone ["function", "i"]) (D__law_slopes : L2.Stands K mg "_law_slopes" st__law_slopes ["function"]) (D__law_inputs : L2.Stands K mg "_law_inputs" st__law_inputs ["source", "ins"]) {f : Addr} {fd : FuncData} (D_law : FunD K "law" "law" (defArgs st_law) (defBody st_law) (defScope st_law) [] [] f fd) : FnG P w K mg base CX0 7 f fd ["script"] (spLaw K) := by
  have k_is_whole := ok_is_whole (P := P) (w := w) (base := base) T D_is_whole 
  have k_is_vector := ok_is_vector (P := P) (w := w) (base := base) T D_is_vector k_is_whole
  have k_nothing := ok_nothing (P := P) (w := w) (base := base) T D_nothing 
  have k_added := ok_added (P := P) (w := w) (base := base) T D_added 
  have k_taken_off := ok_taken_off (P := P) (w := w) (base := base) T D_taken_off 
  have k_times := ok_times (P := P) (w := w) (base := base) T D_times 
  have k_wire_line := ok_wire_line (P := P) (w := w) (base := base) T D_wire_line k_nothing k_added
  have k_slope_at := ok_slope_at (P := P) (w := w) (base := base) T D_slope_at k_wire_line k_taken_off k_added
  have k_slopes := ok_slopes (P := P) (w := w) (base := base) T D_slopes k_slope_at
  have k_alone := ok_alone (P := P) (w := w) (base := base) T D_alone k_wire_line
  have k_led_by := ok_led_by (P := P) (w := w) (base := base) T D_led_by k_wire_line k_slope_at k_added k_times
  have k_led := ok_led (P := P) (w := w) (base := base) T D_led k_nothing k_led_by k_added
  have k_answer_to := ok_answer_to (P := P) (w := w) (base := base) T D_answer_to k_led
  have k_mode_behind := ok_mode_behind (P := P) (w := w) (base := base) T D_mode_behind k_led
  have k_does_rest := ok_does_rest (P := P) (w := w) (base := base) T D_does_rest k_led
  have k_is_step := ok_is_step (P := P) (w := w) (base := base) T D_is_step k_is_whole k_is_vector
  have k_is_machine := ok_is_machine (P := P) (w := w) (base := base) T D_is_machine k_is_vector k_is_step
  have k_two_steps := ok_two_steps (P := P) (w := w) (base := base) T D_two_steps k_added
  have k_square_fails := ok_square_fails (P := P) (w := w) (base := base) T D_square_fails k_two_steps
  have k_modes_behind := ok_modes_behind (P := P) (w := w) (base := base) T D_modes_behind 
  have k_modes_come_to := ok_modes_come_to (P := P) (w := w) (base := base) T D_modes_come_to k_modes_behind
  have k_first_square := ok_first_square (P := P) (w := w) (base := base) T D_first_square k_modes_come_to k_square_fails
  have k_is_commuting := ok_is_commuting (P := P) (w := w) (base := base) T D_is_commuting k_first_square
  have k__law_source := ok__law_source (P := P) (w := w) (base := base) T D__law_source 
  have k__law_pick := ok__law_pick (P := P) (w := w) (base := base) T D__law_pick 
  have k__law_of := ok__law_of (P := P) (w := w) (base := base) T D__law_of k__law_pick
  have k__law_function := ok__law_function (P := P) (w := w) (base := base) T D__law_function k__law_pick k__law_of
  have k__law_is_never := ok__law_is_never (P := P) (w := w) (base := base) T D__law_is_never 
  have k__law_given := ok__law_given (P := P) (w := w) (base := base) T D__law_given 
  have k__law_at := ok__law_at (P := P) (w := w) (base := base) T D__law_at 
  have k__law_one_more := ok__law_one_more (P := P) (w := w) (base := base) T D__law_one_more 
  have k__law_machine := ok__law_machine (P := P) (w := w) (base := base) T D__law_machine k__law_one_more k__law_is_never k__law_given k__law_at
  have k__law_alone := ok__law_alone (P := P) (w := w) (base := base) T D__law_alone 
  have k__law_slopes := ok__law_slopes (P := P) (w := w) (base := base) T D__law_slopes k__law_alone
  have k__law_inputs := ok__law_inputs (P := P) (w := w) (base := base) T D__law_inputs k__law_of k__law_pick
  have k_law := ok_law (P := P) (w := w) (base := base) T D_law k__law_source k__law_function k__law_machine k_is_machine k_is_commuting k_slopes k__law_slopes k__law_alone k_alone k__law_inputs k__law_is_never k__law_given k__law_at k_does_rest k_answer_to k_mode_behind k__law_pick k_led k_led_by
  exact k_law
end
end Lw

set_option maxHeartbeats 0
namespace Lw
open PySem PySem.Spec PyProof.Rows L2 Dl
def dd_is_whole : He.DefD := ⟨("is_whole", none), "is_whole", "is_whole", defArgs st_is_whole, defBody st_is_whole, defScope st_is_whole, [], []⟩
def dd_is_vector : He.DefD := ⟨("is_vector", none), "is_vector", "is_vector", defArgs st_is_vector, defBody st_is_vector, defScope st_is_vector, [], []⟩
def dd_nothing : He.DefD := ⟨("nothing", none), "nothing", "nothing", defArgs st_nothing, defBody st_nothing, defScope st_nothing, [], []⟩
def dd_added : He.DefD := ⟨("added", none), "added", "added", defArgs st_added, defBody st_added, defScope st_added, [], []⟩
def dd_taken_off : He.DefD := ⟨("taken_off", none), "taken_off", "taken_off", defArgs st_taken_off, defBody st_taken_off, defScope st_taken_off, [], []⟩
def dd_times : He.DefD := ⟨("times", none), "times", "times", defArgs st_times, defBody st_times, defScope st_times, [], []⟩
def dd_wire_line : He.DefD := ⟨("wire_line", none), "wire_line", "wire_line", defArgs st_wire_line, defBody st_wire_line, defScope st_wire_line, [], []⟩
def dd_slope_at : He.DefD := ⟨("slope_at", none), "slope_at", "slope_at", defArgs st_slope_at, defBody st_slope_at, defScope st_slope_at, [], []⟩
def dd_slopes : He.DefD := ⟨("slopes", none), "slopes", "slopes", defArgs st_slopes, defBody st_slopes, defScope st_slopes, [], []⟩
def dd_alone : He.DefD := ⟨("alone", none), "alone", "alone", defArgs st_alone, defBody st_alone, defScope st_alone, [], []⟩
def dd_led_by : He.DefD := ⟨("led_by", none), "led_by", "led_by", defArgs st_led_by, defBody st_led_by, defScope st_led_by, [], []⟩
def dd_led : He.DefD := ⟨("led", none), "led", "led", defArgs st_led, defBody st_led, defScope st_led, [], []⟩
def dd_answer_to : He.DefD := ⟨("answer_to", none), "answer_to", "answer_to", defArgs st_answer_to, defBody st_answer_to, defScope st_answer_to, [], []⟩
def dd_mode_behind : He.DefD := ⟨("mode_behind", none), "mode_behind", "mode_behind", defArgs st_mode_behind, defBody st_mode_behind, defScope st_mode_behind, [], []⟩
def dd_does_rest : He.DefD := ⟨("does_rest", none), "does_rest", "does_rest", defArgs st_does_rest, defBody st_does_rest, defScope st_does_rest, [], []⟩
def dd_is_step : He.DefD := ⟨("is_step", none), "is_step", "is_step", defArgs st_is_step, defBody st_is_step, defScope st_is_step, [], []⟩
def dd_is_machine : He.DefD := ⟨("is_machine", none), "is_machine", "is_machine", defArgs st_is_machine, defBody st_is_machine, defScope st_is_machine, [], []⟩
def dd_two_steps : He.DefD := ⟨("two_steps", none), "two_steps", "two_steps", defArgs st_two_steps, defBody st_two_steps, defScope st_two_steps, [], []⟩
def dd_square_fails : He.DefD := ⟨("square_fails", none), "square_fails", "square_fails", defArgs st_square_fails, defBody st_square_fails, defScope st_square_fails, [], []⟩
def dd_modes_behind : He.DefD := ⟨("modes_behind", none), "modes_behind", "modes_behind", defArgs st_modes_behind, defBody st_modes_behind, defScope st_modes_behind, [], []⟩
def dd_modes_come_to : He.DefD := ⟨("modes_come_to", none), "modes_come_to", "modes_come_to", defArgs st_modes_come_to, defBody st_modes_come_to, defScope st_modes_come_to, [], []⟩
def dd_first_square : He.DefD := ⟨("first_square", none), "first_square", "first_square", defArgs st_first_square, defBody st_first_square, defScope st_first_square, [], []⟩
def dd_is_commuting : He.DefD := ⟨("is_commuting", none), "is_commuting", "is_commuting", defArgs st_is_commuting, defBody st_is_commuting, defScope st_is_commuting, [], []⟩
def dd__law_source : He.DefD := ⟨("_law_source", none), "_law_source", "_law_source", defArgs st__law_source, defBody st__law_source, defScope st__law_source, [], []⟩
def dd__law_pick : He.DefD := ⟨("_law_pick", none), "_law_pick", "_law_pick", defArgs st__law_pick, defBody st__law_pick, defScope st__law_pick, [], []⟩
def dd__law_of : He.DefD := ⟨("_law_of", none), "_law_of", "_law_of", defArgs st__law_of, defBody st__law_of, defScope st__law_of, [], []⟩
def dd__law_function : He.DefD := ⟨("_law_function", none), "_law_function", "_law_function", defArgs st__law_function, defBody st__law_function, defScope st__law_function, [], []⟩
def dd__law_is_never : He.DefD := ⟨("_law_is_never", none), "_law_is_never", "_law_is_never", defArgs st__law_is_never, defBody st__law_is_never, defScope st__law_is_never, [], []⟩
def dd__law_given : He.DefD := ⟨("_law_given", none), "_law_given", "_law_given", defArgs st__law_given, defBody st__law_given, defScope st__law_given, [], []⟩
def dd__law_at : He.DefD := ⟨("_law_at", none), "_law_at", "_law_at", defArgs st__law_at, defBody st__law_at, defScope st__law_at, [], []⟩
def dd__law_one_more : He.DefD := ⟨("_law_one_more", none), "_law_one_more", "_law_one_more", defArgs st__law_one_more, defBody st__law_one_more, defScope st__law_one_more, [], []⟩
def dd__law_machine : He.DefD := ⟨("_law_machine", none), "_law_machine", "_law_machine", defArgs st__law_machine, defBody st__law_machine, defScope st__law_machine, [], []⟩
def dd__law_alone : He.DefD := ⟨("_law_alone", none), "_law_alone", "_law_alone", defArgs st__law_alone, defBody st__law_alone, defScope st__law_alone, [], []⟩
def dd__law_slopes : He.DefD := ⟨("_law_slopes", none), "_law_slopes", "_law_slopes", defArgs st__law_slopes, defBody st__law_slopes, defScope st__law_slopes, [], []⟩
def dd__law_inputs : He.DefD := ⟨("_law_inputs", none), "_law_inputs", "_law_inputs", defArgs st__law_inputs, defBody st__law_inputs, defScope st__law_inputs, [], []⟩
def dd_law : He.DefD := ⟨("law", none), "law", "law", defArgs st_law, defBody st_law, defScope st_law, [], []⟩
def fns : List He.DefD := [dd_is_whole, dd_is_vector, dd_nothing, dd_added, dd_taken_off, dd_times, dd_wire_line, dd_slope_at, dd_slopes, dd_alone, dd_led_by, dd_led, dd_answer_to, dd_mode_behind, dd_does_rest, dd_is_step, dd_is_machine, dd_two_steps, dd_square_fails, dd_modes_behind, dd_modes_come_to, dd_first_square, dd_is_commuting, dd__law_source, dd__law_pick, dd__law_of, dd__law_function, dd__law_is_never, dd__law_given, dd__law_at, dd__law_one_more, dd__law_machine, dd__law_alone, dd__law_slopes, dd__law_inputs, dd_law]
def fas : List He.Fa := [.glo "is_whole", .glo "is_vector", .glo "nothing", .glo "added", .glo "taken_off", .glo "times", .glo "wire_line", .glo "slope_at", .glo "slopes", .glo "alone", .glo "led_by", .glo "led", .glo "answer_to", .glo "mode_behind", .glo "does_rest", .glo "is_step", .glo "is_machine", .glo "two_steps", .glo "square_fails", .glo "modes_behind", .glo "modes_come_to", .glo "first_square", .glo "is_commuting", .glo "_law_source", .glo "_law_pick", .glo "_law_of", .glo "_law_function", .glo "_law_is_never", .glo "_law_given", .glo "_law_at", .glo "_law_one_more", .glo "_law_machine", .glo "_law_alone", .glo "_law_slopes", .glo "_law_inputs", .glo "law", .free "abs", .free "all", .free "bool", .free "enumerate", .free "int", .free "isinstance", .free "len", .free "max", .free "min", .free "range", .free "repr", .free "sorted", .free "sum", .free "tuple", .free "zip", .int "MOST_GIVEN" 9999, .int "MOST_INS" 40, .int "MOST_MODES" 150, .int "MOST_OUTS" 400]
abbrev Rw : PySem.W.OpenRow := PySem.W.OpenLaw.row PySem.Challenge.rw_anysequence_k13_great_numbers_by_own_loo
abbrev hk : PySem.W.Hook := He.hookD 4 fas fns
def ob (s : PySem.W.SharedT) : He.AlD := He.obsDG 4 fas fns (HandSHeadRun.getT s)
theorem ob_eq (s : PySem.W.SharedT) : ob s = hk.obs s.abs := He.obsDG_eq (HandSHeadRun.getT_eq s)
abbrev loo : List Str := ("is_whole" : Str) :: ("is_vector" : Str) :: ("nothing" : Str) :: ("added" : Str) :: ("taken_off" : Str) :: ("times" : Str) :: ("wire_line" : Str) :: ("slope_at" : Str) :: ("slopes" : Str) :: ("alone" : Str) :: ("led_by" : Str) :: ("led" : Str) :: ("answer_to" : Str) :: ("mode_behind" : Str) :: ("does_rest" : Str) :: ("is_step" : Str) :: ("is_machine" : Str) :: ("two_steps" : Str) :: ("square_fails" : Str) :: ("modes_behind" : Str) :: ("modes_come_to" : Str) :: ("first_square" : Str) :: ("is_commuting" : Str) :: ("_law_source" : Str) :: ("_law_pick" : Str) :: ("_law_of" : Str) :: ("_law_function" : Str) :: ("_law_is_never" : Str) :: ("_law_given" : Str) :: ("_law_at" : Str) :: ("_law_one_more" : Str) :: ("_law_machine" : Str) :: ("_law_alone" : Str) :: ("_law_slopes" : Str) :: ("_law_inputs" : Str) :: ("MOST_MODES" : Str) :: ("MOST_GIVEN" : Str) :: ("MOST_INS" : Str) :: ("MOST_OUTS" : Str) :: []
theorem run (w : World) : HandSHeadRun.RunEq Rw (PySem.W.view Rw.prog [43]) hk ob 4000 Lw.loo w := by
  intro os
  kernel_rfl
theorem facts {P : Program} {w : World} {K : PySem.W.Frag} {h : Heap} {mg : Str → Option Value} {f : Addr} (X : K.In h) (G : h.Ns mainGlobals mg) (hfa : mg ("law" : Str) = some (.ref f)) (c : He.SaysD fas fns K) :
    ∃ fd : FuncData, (∀ (s : Shared) (v : Value), BindsTo s fd ⟨[v], []⟩ [("script", v)]) ∧ ∀ base : Heap, K.In base → base.Ns mainGlobals mg → FnG P w K mg base CX0 7 f fd ["script"] (spLaw K) := by
  have D_is_whole : L2.Stands K mg "is_whole" st_is_whole ["value"] := by
    obtain ⟨fd, F⟩ := c.def_ 0 (d := dd_is_whole) rfl
    exact ⟨_, fd, F, He.glo_ok X G (c.fact 0 (f := .glo "is_whole") rfl), F.bindsN fun _ _ _ _ _ _ us hl => match us, hl with | [_], _ => rfl⟩
  have D_is_vector : L2.Stands K mg "is_vector" st_is_vector ["many", "value"] := by
    obtain ⟨fd, F⟩ := c.def_ 1 (d := dd_is_vector) rfl
    exact ⟨_, fd, F, He.glo_ok X G (c.fact 1 (f := .glo "is_vector") rfl), F.bindsN fun _ _ _ _ _ _ us hl => match us, hl with | [_, _], _ => rfl⟩
  have D_nothing : L2.Stands K mg "nothing" st_nothing ["many"] := by
    obtain ⟨fd, F⟩ := c.def_ 2 (d := dd_nothing) rfl
    exact ⟨_, fd, F, He.glo_ok X G (c.fact 2 (f := .glo "nothing") rfl), F.bindsN fun _ _ _ _ _ _ us hl => match us, hl with | [_], _ => rfl⟩
  have D_added : L2.Stands K mg "added" st_added ["one", "other"] := by
    obtain ⟨fd, F⟩ := c.def_ 3 (d := dd_added) rfl
    exact ⟨_, fd, F, He.glo_ok X G (c.fact 3 (f := .glo "added") rfl), F.bindsN fun _ _ _ _ _ _ us hl => match us, hl with | [_, _], _ => rfl⟩
  have D_taken_off : L2.Stands K mg "taken_off" st_taken_off ["one", "other"] := by
    obtain ⟨fd, F⟩ := c.def_ 4 (d := dd_taken_off) rfl
    exact ⟨_, fd, F, He.glo_ok X G (c.fact 4 (f := .glo "taken_off") rfl), F.bindsN fun _ _ _ _ _ _ us hl => match us, hl with | [_, _], _ => rfl⟩
  have D_times : L2.Stands K mg "times" st_times ["one", "many"] := by
    obtain ⟨fd, F⟩ := c.def_ 5 (d := dd_times) rfl
    exact ⟨_, fd, F, He.glo_ok X G (c.fact 5 (f := .glo "times") rfl), F.bindsN fun _ _ _ _ _ _ us hl => match us, hl with | [_, _], _ => rfl⟩
  have D_wire_line : L2.Stands K mg "wire_line" st_wire_line ["machine", "mode", "wire"] := by
    obtain ⟨fd, F⟩ := c.def_ 6 (d := dd_wire_line) rfl
    exact ⟨_, fd, F, He.glo_ok X G (c.fact 6 (f := .glo "wire_line") rfl), F.bindsN fun _ _ _ _ _ _ us hl => match us, hl with | [_, _, _], _ => rfl⟩
  have D_slope_at : L2.Stands K mg "slope_at" st_slope_at ["machine", "mode", "wire"] := by
    obtain ⟨fd, F⟩ := c.def_ 7 (d := dd_slope_at) rfl
    exact ⟨_, fd, F, He.glo_ok X G (c.fact 7 (f := .glo "slope_at") rfl), F.bindsN fun _ _ _ _ _ _ us hl => match us, hl with | [_, _, _], _ => rfl⟩
  have D_slopes : L2.Stands K mg "slopes" st_slopes ["machine"] := by
    obtain ⟨fd, F⟩ := c.def_ 8 (d := dd_slopes) rfl
    exact ⟨_, fd, F, He.glo_ok X G (c.fact 8 (f := .glo "slopes") rfl), F.bindsN fun _ _ _ _ _ _ us hl => match us, hl with | [_], _ => rfl⟩
  have D_alone : L2.Stands K mg "alone" st_alone ["machine", "wire"] := by
    obtain ⟨fd, F⟩ := c.def_ 9 (d := dd_alone) rfl
    exact ⟨_, fd, F, He.glo_ok X G (c.fact 9 (f := .glo "alone") rfl), F.bindsN fun _ _ _ _ _ _ us hl => match us, hl with | [_, _], _ => rfl⟩
  have D_led_by : L2.Stands K mg "led_by" st_led_by ["machine", "mode", "wire", "many"] := by
    obtain ⟨fd, F⟩ := c.def_ 10 (d := dd_led_by) rfl
    exact ⟨_, fd, F, He.glo_ok X G (c.fact 10 (f := .glo "led_by") rfl), F.bindsN fun _ _ _ _ _ _ us hl => match us, hl with | [_, _, _, _], _ => rfl⟩
  have D_led : L2.Stands K mg "led" st_led ["machine", "mode", "vector"] := by
    obtain ⟨fd, F⟩ := c.def_ 11 (d := dd_led) rfl
    exact ⟨_, fd, F, He.glo_ok X G (c.fact 11 (f := .glo "led") rfl), F.bindsN fun _ _ _ _ _ _ us hl => match us, hl with | [_, _, _], _ => rfl⟩
  have D_answer_to : L2.Stands K mg "answer_to" st_answer_to ["machine", "vector"] := by
    obtain ⟨fd, F⟩ := c.def_ 12 (d := dd_answer_to) rfl
    exact ⟨_, fd, F, He.glo_ok X G (c.fact 12 (f := .glo "answer_to") rfl), F.bindsN fun _ _ _ _ _ _ us hl => match us, hl with | [_, _], _ => rfl⟩
  have D_mode_behind : L2.Stands K mg "mode_behind" st_mode_behind ["machine", "vector"] := by
    obtain ⟨fd, F⟩ := c.def_ 13 (d := dd_mode_behind) rfl
    exact ⟨_, fd, F, He.glo_ok X G (c.fact 13 (f := .glo "mode_behind") rfl), F.bindsN fun _ _ _ _ _ _ us hl => match us, hl with | [_, _], _ => rfl⟩
  have D_does_rest : L2.Stands K mg "does_rest" st_does_rest ["machine", "vector"] := by
    obtain ⟨fd, F⟩ := c.def_ 14 (d := dd_does_rest) rfl
    exact ⟨_, fd, F, He.glo_ok X G (c.fact 14 (f := .glo "does_rest") rfl), F.bindsN fun _ _ _ _ _ _ us hl => match us, hl with | [_, _], _ => rfl⟩
  have D_is_step : L2.Stands K mg "is_step" st_is_step ["outs", "modes", "value"] := by
    obtain ⟨fd, F⟩ := c.def_ 15 (d := dd_is_step) rfl
    exact ⟨_, fd, F, He.glo_ok X G (c.fact 15 (f := .glo "is_step") rfl), F.bindsN fun _ _ _ _ _ _ us hl => match us, hl with | [_, _, _], _ => rfl⟩
  have D_is_machine : L2.Stands K mg "is_machine" st_is_machine ["value"] := by
    obtain ⟨fd, F⟩ := c.def_ 16 (d := dd_is_machine) rfl
    exact ⟨_, fd, F, He.glo_ok X G (c.fact 16 (f := .glo "is_machine") rfl), F.bindsN fun _ _ _ _ _ _ us hl => match us, hl with | [_], _ => rfl⟩
  have D_two_steps : L2.Stands K mg "two_steps" st_two_steps ["machine", "mode", "one", "other"] := by
    obtain ⟨fd, F⟩ := c.def_ 17 (d := dd_two_steps) rfl
    exact ⟨_, fd, F, He.glo_ok X G (c.fact 17 (f := .glo "two_steps") rfl), F.bindsN fun _ _ _ _ _ _ us hl => match us, hl with | [_, _, _, _], _ => rfl⟩
  have D_square_fails : L2.Stands K mg "square_fails" st_square_fails ["machine", "mode", "one", "other"] := by
    obtain ⟨fd, F⟩ := c.def_ 18 (d := dd_square_fails) rfl
    exact ⟨_, fd, F, He.glo_ok X G (c.fact 18 (f := .glo "square_fails") rfl), F.bindsN fun _ _ _ _ _ _ us hl => match us, hl with | [_, _, _, _], _ => rfl⟩
  have D_modes_behind : L2.Stands K mg "modes_behind" st_modes_behind ["machine", "mode"] := by
    obtain ⟨fd, F⟩ := c.def_ 19 (d := dd_modes_behind) rfl
    exact ⟨_, fd, F, He.glo_ok X G (c.fact 19 (f := .glo "modes_behind") rfl), F.bindsN fun _ _ _ _ _ _ us hl => match us, hl with | [_, _], _ => rfl⟩
  have D_modes_come_to : L2.Stands K mg "modes_come_to" st_modes_come_to ["machine"] := by
    obtain ⟨fd, F⟩ := c.def_ 20 (d := dd_modes_come_to) rfl
    exact ⟨_, fd, F, He.glo_ok X G (c.fact 20 (f := .glo "modes_come_to") rfl), F.bindsN fun _ _ _ _ _ _ us hl => match us, hl with | [_], _ => rfl⟩
  have D_first_square : L2.Stands K mg "first_square" st_first_square ["machine"] := by
    obtain ⟨fd, F⟩ := c.def_ 21 (d := dd_first_square) rfl
    exact ⟨_, fd, F, He.glo_ok X G (c.fact 21 (f := .glo "first_square") rfl), F.bindsN fun _ _ _ _ _ _ us hl => match us, hl with | [_], _ => rfl⟩
  have D_is_commuting : L2.Stands K mg "is_commuting" st_is_commuting ["machine"] := by
    obtain ⟨fd, F⟩ := c.def_ 22 (d := dd_is_commuting) rfl
    exact ⟨_, fd, F, He.glo_ok X G (c.fact 22 (f := .glo "is_commuting") rfl), F.bindsN fun _ _ _ _ _ _ us hl => match us, hl with | [_], _ => rfl⟩
  have D__law_source : L2.Stands K mg "_law_source" st__law_source ["script"] := by
    obtain ⟨fd, F⟩ := c.def_ 23 (d := dd__law_source) rfl
    exact ⟨_, fd, F, He.glo_ok X G (c.fact 23 (f := .glo "_law_source") rfl), F.bindsN fun _ _ _ _ _ _ us hl => match us, hl with | [_], _ => rfl⟩
  have D__law_pick : L2.Stands K mg "_law_pick" st__law_pick ["source", "many"] := by
    obtain ⟨fd, F⟩ := c.def_ 24 (d := dd__law_pick) rfl
    exact ⟨_, fd, F, He.glo_ok X G (c.fact 24 (f := .glo "_law_pick") rfl), F.bindsN fun _ _ _ _ _ _ us hl => match us, hl with | [_, _], _ => rfl⟩
  have D__law_of : L2.Stands K mg "_law_of" st__law_of ["source", "some"] := by
    obtain ⟨fd, F⟩ := c.def_ 25 (d := dd__law_of) rfl
    exact ⟨_, fd, F, He.glo_ok X G (c.fact 25 (f := .glo "_law_of") rfl), F.bindsN fun _ _ _ _ _ _ us hl => match us, hl with | [_, _], _ => rfl⟩
  have D__law_function : L2.Stands K mg "_law_function" st__law_function ["source"] := by
    obtain ⟨fd, F⟩ := c.def_ 26 (d := dd__law_function) rfl
    exact ⟨_, fd, F, He.glo_ok X G (c.fact 26 (f := .glo "_law_function") rfl), F.bindsN fun _ _ _ _ _ _ us hl => match us, hl with | [_], _ => rfl⟩
  have D__law_is_never : L2.Stands K mg "_law_is_never" st__law_is_never ["function", "x"] := by
    obtain ⟨fd, F⟩ := c.def_ 27 (d := dd__law_is_never) rfl
    exact ⟨_, fd, F, He.glo_ok X G (c.fact 27 (f := .glo "_law_is_never") rfl), F.bindsN fun _ _ _ _ _ _ us hl => match us, hl with | [_, _], _ => rfl⟩
  have D__law_given : L2.Stands K mg "_law_given" st__law_given ["function", "x"] := by
    obtain ⟨fd, F⟩ := c.def_ 28 (d := dd__law_given) rfl
    exact ⟨_, fd, F, He.glo_ok X G (c.fact 28 (f := .glo "_law_given") rfl), F.bindsN fun _ _ _ _ _ _ us hl => match us, hl with | [_, _], _ => rfl⟩
  have D__law_at : L2.Stands K mg "_law_at" st__law_at ["function", "x"] := by
    obtain ⟨fd, F⟩ := c.def_ 29 (d := dd__law_at) rfl
    exact ⟨_, fd, F, He.glo_ok X G (c.fact 29 (f := .glo "_law_at") rfl), F.bindsN fun _ _ _ _ _ _ us hl => match us, hl with | [_, _], _ => rfl⟩
  have D__law_one_more : L2.Stands K mg "_law_one_more" st__law_one_more ["x", "i"] := by
    obtain ⟨fd, F⟩ := c.def_ 30 (d := dd__law_one_more) rfl
    exact ⟨_, fd, F, He.glo_ok X G (c.fact 30 (f := .glo "_law_one_more") rfl), F.bindsN fun _ _ _ _ _ _ us hl => match us, hl with | [_, _], _ => rfl⟩
  have D__law_machine : L2.Stands K mg "_law_machine" st__law_machine ["function"] := by
    obtain ⟨fd, F⟩ := c.def_ 31 (d := dd__law_machine) rfl
    exact ⟨_, fd, F, He.glo_ok X G (c.fact 31 (f := .glo "_law_machine") rfl), F.bindsN fun _ _ _ _ _ _ us hl => match us, hl with | [_], _ => rfl⟩
  have D__law_alone : L2.Stands K mg "_law_alone" st__law_alone ["function", "i"] := by
    obtain ⟨fd, F⟩ := c.def_ 32 (d := dd__law_alone) rfl
    exact ⟨_, fd, F, He.glo_ok X G (c.fact 32 (f := .glo "_law_alone") rfl), F.bindsN fun _ _ _ _ _ _ us hl => match us, hl with | [_, _], _ => rfl⟩
  have D__law_slopes : L2.Stands K mg "_law_slopes" st__law_slopes ["function"] := by
    obtain ⟨fd, F⟩ := c.def_ 33 (d := dd__law_slopes) rfl
    exact ⟨_, fd, F, He.glo_ok X G (c.fact 33 (f := .glo "_law_slopes") rfl), F.bindsN fun _ _ _ _ _ _ us hl => match us, hl with | [_], _ => rfl⟩
  have D__law_inputs : L2.Stands K mg "_law_inputs" st__law_inputs ["source", "ins"] := by
    obtain ⟨fd, F⟩ := c.def_ 34 (d := dd__law_inputs) rfl
    exact ⟨_, fd, F, He.glo_ok X G (c.fact 34 (f := .glo "_law_inputs") rfl), F.bindsN fun _ _ _ _ _ _ us hl => match us, hl with | [_, _], _ => rfl⟩
  obtain ⟨fd, F⟩ := c.def_ 35 (d := dd_law) rfl
  have e := hfa.symm.trans (He.glo_ok X G (c.fact 35 (f := .glo "law") rfl))
  cases e
  have b := FunD.bindsA (ps := ["script"]) F fun _ _ _ _ _ _ us hl => match us, hl with | [_], _ => rfl
  have T : Tx mg := {
    n_abs := He.free_ok X G (c.fact 36 (f := .free "abs") rfl),
    n_all := He.free_ok X G (c.fact 37 (f := .free "all") rfl),
    n_bool := He.free_ok X G (c.fact 38 (f := .free "bool") rfl),
    n_enumerate := He.free_ok X G (c.fact 39 (f := .free "enumerate") rfl),
    n_int := He.free_ok X G (c.fact 40 (f := .free "int") rfl),
    n_isinstance := He.free_ok X G (c.fact 41 (f := .free "isinstance") rfl),
    n_len := He.free_ok X G (c.fact 42 (f := .free "len") rfl),
    n_max := He.free_ok X G (c.fact 43 (f := .free "max") rfl),
    n_min := He.free_ok X G (c.fact 44 (f := .free "min") rfl),
    n_range := He.free_ok X G (c.fact 45 (f := .free "range") rfl),
    n_repr := He.free_ok X G (c.fact 46 (f := .free "repr") rfl),
    n_sorted := He.free_ok X G (c.fact 47 (f := .free "sorted") rfl),
    n_sum := He.free_ok X G (c.fact 48 (f := .free "sum") rfl),
    n_tuple := He.free_ok X G (c.fact 49 (f := .free "tuple") rfl),
    n_zip := He.free_ok X G (c.fact 50 (f := .free "zip") rfl),
    c_MOST_GIVEN := He.int_ok X G (c.fact 51 (f := .int "MOST_GIVEN" 9999) rfl),
    c_MOST_INS := He.int_ok X G (c.fact 52 (f := .int "MOST_INS" 40) rfl),
    c_MOST_MODES := He.int_ok X G (c.fact 53 (f := .int "MOST_MODES" 150) rfl),
    c_MOST_OUTS := He.int_ok X G (c.fact 54 (f := .int "MOST_OUTS" 400) rfl) }
  exact ⟨fd, fun s v => b s [v] rfl, fun base _ _ => all_ok T D_is_whole D_is_vector D_nothing D_added D_taken_off D_times D_wire_line D_slope_at D_slopes D_alone D_led_by D_led D_answer_to D_mode_behind D_does_rest D_is_step D_is_machine D_two_steps D_square_fails D_modes_behind D_modes_come_to D_first_square D_is_commuting D__law_source D__law_pick D__law_of D__law_function D__law_is_never D__law_given D__law_at D__law_one_more D__law_machine D__law_alone D__law_slopes D__law_inputs F⟩
end Lw
open PySem PySem.W PySem.Calls PyProof.Rows
theorem PySem.Challenge.cw_anysequence_k13_great_numbers_by_own_loo_holds : PySem.Challenge.rw_anysequence_k13_great_numbers_by_own_loo.Holds := by
  w_on; o_law
  refine HandSHeadRun.head_any (r := OpenLaw.row PySem.Challenge.rw_anysequence_k13_great_numbers_by_own_loo) (q := view (OpenLaw.row PySem.Challenge.rw_anysequence_k13_great_numbers_by_own_loo).prog [43]) (H := Lw.hk) (ob := Lw.ob) (M := 4000) (loose := Lw.loo) (d := HandSHeadRun.topDef (OpenLaw.row PySem.Challenge.rw_anysequence_k13_great_numbers_by_own_loo).prog 43) (kwd := []) Lw.ob_eq
    (by kernel_rfl) (fun s => by kernel_rfl) Lw.run (by kernel_rfl) (by kernel_rfl) (by kernel_rfl) (by rfl) (by first | assumption | decide +kernel) (by decide +kernel) ⟨rfl, rfl, rfl, rfl, rfl, by decide +kernel⟩ ?hw ?hc
  case hw => w_witness2
  case hc =>
    refine L2.walk_ofG (l := PySem.Challenge.rw_anysequence_k13_great_numbers_by_own_loo) (n := 63) (k := 7) (x := "script") (CX := L2.CX0) rfl (by decide) (by kernel_rfl) ⟨rfl, by decide, by decide⟩ ?F (fun _ _ _ _ z => z)
    intro w mg fa h Y G hmg0
    obtain ⟨K, KX, c⟩ := Y
    have hmg : mg ("law" : PySem.Str) = some (.ref fa) := by
      have e : (HandSHeadRun.topDef (OpenLaw.row PySem.Challenge.rw_anysequence_k13_great_numbers_by_own_loo).prog 43).name = ("law" : PySem.Str) := by kernel_rfl
      rw [← e]
      exact hmg0
    obtain ⟨fd, hb, hF⟩ := Lw.facts (P := (PySem.Challenge.rw_anysequence_k13_great_numbers_by_own_loo).prog) (w := w) KX G hmg c
    exact ⟨K, fd, Lw.spLaw K, KX, hb, fun H a ns hl _ hS => ⟨a, ns, rfl, hS, hl, fun _ => rfl⟩, hF⟩

