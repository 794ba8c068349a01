import PyProof.Rows.All
import Wide.All
import OpenK.AllK
import Wide.FinOn
import HandS.ForMost
import HandS.TupAny
import HandS.Conv
import HandS.Wide
import HandS.Gcd
import HandS.Style
import KE.Datum
import HandS.WideMore
import HandS.WideBits
import KE.GoesMore
import PyProof.EnumMake
import HandS.Dict
import HandS.ForDict
import PySem.Challenge.RW_lastdigitwalks_k66_whole_far_numbers
set_option Elab.async false
set_option linter.all false
set_option maxRecDepth 100000
set_option maxHeartbeats 4000000
/-! Layer P, part 0: data without a heap. Environments of data; what a step keeps. -/
namespace PL
open PySem L2
abbrev D := PyData

section
variable {K : PySem.W.Frag} {H H' : Hp}
theorem rd_same {a : Addr} {u : HO} (e : Same H H') (h : Rd H a u) : Rd H' a u :=
  h.elim (fun x => .inl (e _ _ x)) fun ⟨o, x⟩ => .inr ⟨o, e _ _ x⟩
theorem sqL_same {a : Addr} {xs : List V} (e : Same H H') (h : SqL K H a xs) : SqL K H' a xs := h.elim (fun x => .inl (rd_same e x)) .inr
theorem sqT_same {a : Addr} {xs : List V} (e : Same H H') (h : SqT K H a xs) : SqT K H' a xs := h.elim (fun x => .inl (rd_same e x)) .inr
mutual
theorem dp_same (e : Same H H') : ∀ (d : D) (v : V), Dp K H v d → Dp K H' v d
  | .none, _, h => by cases h; exact .non
  | .bool b, _, h => by cases h; exact .bl b
  | .int i, _, h => by cases h; exact .int i
  | .str x, _, h => by cases h; exact .str x
  | .list ds, _, h => by
    cases h with
    | lst hs ha => exact .lst (sqL_same e hs) (dpAll_same e ds _ ha)
  | .tuple ds, _, h => by
    cases h with
    | tup hs ha => exact .tup (sqT_same e hs) (dpAll_same e ds _ ha)
  | .dict _, _, h => by cases h
theorem dpAll_same (e : Same H H') : ∀ (ds : List D) (vs : List V), DpAll K H vs ds → DpAll K H' vs ds
  | [], _, h => by cases h; exact .nil
  | d :: ds, _, h => by
    cases h with
    | cons h1 h2 => exact .cons (dp_same e d _ h1) (dpAll_same e ds _ h2)
end
end
end PL
namespace L2
open PySem PL
section
variable {K : PySem.W.Frag} {H H' : Hp}
theorem Dp.up {v : V} {d : PyData} (h : Dp K H v d) (e : Same H H') : Dp K H' v d := dp_same e d v h
theorem DpAll.up {vs : List V} {ds : List PyData} (h : DpAll K H vs ds) (e : Same H H') : DpAll K H' vs ds := dpAll_same e ds vs h

/-! lists of data -/
theorem DpAll.len : ∀ {vs : List V} {ds : List PyData}, DpAll K H vs ds → vs.length = ds.length
  | _, _, .nil => rfl
  | _, _, .cons _ t => congrArg (· + 1) (DpAll.len t)
theorem DpAll.at : ∀ {vs : List V} {ds : List PyData} {i : Nat} {d : PyData}, DpAll K H vs ds → ds[i]? = some d → ∃ v, vs[i]? = some v ∧ Dp K H v d
  | _, _, 0, _, .cons h _, e => by cases e; exact ⟨_, rfl, h⟩
  | _, _, i + 1, _, .cons _ t, e => DpAll.at (i := i) t (by simpa using e)
  | _, _, _, _, .nil, e => by simp at e
theorem DpAll.atV : ∀ {vs : List V} {ds : List PyData} {i : Nat} {v : V}, DpAll K H vs ds → vs[i]? = some v → ∃ d, ds[i]? = some d ∧ Dp K H v d
  | _, _, 0, _, .cons h _, e => by cases e; exact ⟨_, rfl, h⟩
  | _, _, i + 1, _, .cons _ t, e => DpAll.atV (i := i) t (by simpa using e)
  | _, _, _, _, .nil, e => by simp at e
theorem DpAll.app : ∀ {vs ws : List V} {ds es : List PyData}, DpAll K H vs ds → DpAll K H ws es → DpAll K H (vs ++ ws) (ds ++ es)
  | _, _, _, _, .nil, h => h
  | _, _, _, _, .cons h t, g => .cons h (DpAll.app t g)
theorem DpAll.drop : ∀ {vs : List V} {ds : List PyData} (n : Nat), DpAll K H vs ds → DpAll K H (vs.drop n) (ds.drop n)
  | _, _, 0, h => h
  | _, _, _ + 1, .nil => .nil
  | _, _, n + 1, .cons _ t => DpAll.drop n t
theorem DpAll.take : ∀ {vs : List V} {ds : List PyData} (n : Nat), DpAll K H vs ds → DpAll K H (vs.take n) (ds.take n)
  | _, _, 0, _ => .nil
  | _, _, _ + 1, .nil => .nil
  | _, _, n + 1, .cons h t => .cons h (DpAll.take n t)
theorem DpAll.rev {vs : List V} {ds : List PyData} (h : DpAll K H vs ds) : DpAll K H vs.reverse ds.reverse := by
  induction vs generalizing ds with
  | nil => cases h; exact .nil
  | cons v vs ih =>
    cases h with
    | cons h t =>
      rw [List.reverse_cons, List.reverse_cons]
      exact (ih t).app (.cons h .nil)
theorem DpAll.set : ∀ {vs : List V} {ds : List PyData} {v : V} {d : PyData} (i : Nat), Dp K H v d → DpAll K H vs ds → DpAll K H (vs.set i v) (ds.set i d)
  | _, _, _, _, _, _, .nil => .nil
  | _, _, _, _, 0, h, .cons _ t => .cons h t
  | _, _, _, _, i + 1, h, .cons g t => .cons g (DpAll.set i h t)
theorem DpAll.erase : ∀ {vs : List V} {ds : List PyData} (i : Nat), DpAll K H vs ds → DpAll K H (vs.eraseIdx i) (ds.eraseIdx i)
  | _, _, _, .nil => .nil
  | _, _, 0, .cons _ t => t
  | _, _, i + 1, .cons g t => .cons g (DpAll.erase i t)
theorem DpAll.dropLast {vs : List V} {ds : List PyData} (h : DpAll K H vs ds) : DpAll K H vs.dropLast ds.dropLast := by
  rw [List.dropLast_eq_take, List.dropLast_eq_take, h.len]
  exact h.take _
theorem DpAll.ints : ∀ (ns : List Int), DpAll K H (ns.map V.int) (ns.map PyData.int)
  | [] => .nil
  | n :: ns => .cons (.int n) (DpAll.ints ns)
theorem DpAll.cut {vs : List V} {ds : List PyData} (h : DpAll K H vs ds) (lo hi : Option Int) :
    DpAll K H (cutV vs lo hi) ((ds.drop (HT.sIx ds.length 0 lo)).take (HT.sIx ds.length ds.length hi - HT.sIx ds.length 0 lo)) := by
  unfold cutV
  rw [h.len]
  exact (h.drop _).take _
end
end L2
namespace PL
open PySem L2
/-! data without lists -/
mutual
def imm : D → Bool
  | .none => true
  | .bool _ => true
  | .int _ => true
  | .str _ => true
  | .list _ => false
  | .tuple xs => immAll xs
  | .dict _ => false
def immAll : List D → Bool
  | [] => true
  | x :: xs => imm x && immAll xs
end
/-- a heap without one place -/
def cutA (H : Hp) (p : Addr) : Hp := fun b => if b = p then none else H b
theorem cutA_ne {H : Hp} {p b : Addr} (h : b ≠ p) : cutA H p b = H b := if_neg h
theorem cutA_self {H : Hp} {p : Addr} : cutA H p p = none := if_pos rfl
theorem cutA_same {H : Hp} {p : Addr} : Same (cutA H p) H := fun b o h => by
  by_cases e : b = p
  · rw [e, cutA_self] at h; cases h
  · rwa [cutA_ne e] at h
section
variable {K : PySem.W.Frag} {H : Hp} {p : Addr} {zs : List V}
mutual
theorem dp_cut (hp : H p = some (.lst zs)) : ∀ (d : D) (v : V), imm d = true → Dp K H v d → Dp K (cutA H p) v d
  | .none, _, _, h => by cases h; exact .non
  | .bool b, _, _, h => by cases h; exact .bl b
  | .int i, _, _, h => by cases h; exact .int i
  | .str x, _, _, h => by cases h; exact .str x
  | .list ds, _, i, h => by rw [imm] at i; cases i
  | .tuple ds, _, i, h => by
    cases h with
    | tup hs ha =>
      rename_i a xs
      rw [imm] at i
      refine .tup (xs := xs) ?_ (dpAll_cut hp ds _ i ha)
      rcases hs with (h1 | ⟨o, h1⟩) | h1
      · exact .inl (.inl (by rw [cutA_ne (fun z => by rw [z, hp] at h1; cases h1)]; exact h1))
      · exact .inl (.inr ⟨o, by rw [cutA_ne (fun z => by rw [z, hp] at h1; cases h1)]; exact h1⟩)
      · exact .inr h1
  | .dict _, _, _, h => by cases h
theorem dpAll_cut (hp : H p = some (.lst zs)) : ∀ (ds : List D) (vs : List V), immAll ds = true → DpAll K H vs ds → DpAll K (cutA H p) vs ds
  | [], _, _, h => by cases h; exact .nil
  | d :: ds, _, i, h => by
    cases h with
    | cons h1 h2 =>
      rw [immAll, Bool.and_eq_true] at i
      exact .cons (dp_cut hp d _ i.1 h1) (dpAll_cut hp ds _ i.2 h2)
end
end

/-! ### the source: a dict and its cells -/
abbrev SA := Option (Addr × Addr)
def outS (S : SA) (a : Addr) : Prop := ∀ s c, S = some (s, c) → a ≠ s ∧ a ≠ c
structure SrcSt where
  cells : List Int
  left : Int
  mixed : Int
  turn : Int
def srcK (c : Addr) (x : SrcSt) : List (Key × V) :=
  [(.inr "cells", .ref c), (.inr "left", .int x.left), (.inr "mixed", .int x.mixed), (.inr "turn", .int x.turn)]
structure SrcGood (x : SrcSt) : Prop where
  cells : ∀ z ∈ x.cells, 0 ≤ z
  few : x.cells.length ≤ 63
  left : 0 ≤ x.left
  m0 : 0 ≤ x.mixed
  m1 : x.mixed < 2147483647
  turn : 0 ≤ x.turn
def SrcOk (S : SA) (B H : Hp) : Prop := ∀ s c, S = some (s, c) → B s = none ∧ B c = none ∧ ∃ x, SrcGood x ∧ H s = some (.dK (srcK c x)) ∧ H c = some (.lst (x.cells.map V.int))

/-- a step: B what is told for good, H all; only the source may change -/
structure Go (S : SA) (B H B2 H2 : Hp) : Prop where
  b : Same B B2
  bh : Same B2 H2
  keep : ∀ a o, H a = some o → outS S a → H2 a = some o
  new : ∀ a o, H a = some o → B a = none → B2 a = none
  there : ∀ a o, H a = some o → ∃ o', H2 a = some o'
theorem Go.refl {S : SA} {B H : Hp} (h : Same B H) : Go S B H B H := ⟨Same.refl B, h, fun _ _ e _ => e, fun _ _ _ e => e, fun _ o e => ⟨o, e⟩⟩
theorem Go.trans {S : SA} {B H B1 H1 B2 H2 : Hp} (g : Go S B H B1 H1) (k : Go S B1 H1 B2 H2) : Go S B H B2 H2 where
  b := g.b.trans k.b
  bh := k.bh
  keep := fun a o e n => k.keep a o (g.keep a o e n) n
  new := fun a o e n => by
    obtain ⟨o', e'⟩ := g.there a o e
    exact k.new a o' e' (g.new a o e n)
  there := fun a o e => by
    obtain ⟨o', e'⟩ := g.there a o e
    exact k.there a o' e'
theorem Go.back {S : SA} {B H B2 H2 : Hp} (g : Go S B H B2 H2) {p : Addr} (h : H2 p = none) : H p = none := by
  cases e : H p with
  | none => rfl
  | some o =>
    obtain ⟨o', e'⟩ := g.there p o e
    rw [h] at e'; cases e'
/-- a new object, told for good -/
theorem Go.add {S : SA} {B H : Hp} {p : Addr} {o : HO} (h : Same B H) (n : H p = none) : Go S B H (upd B p o) (upd H p o) where
  b := fun a u e => by rw [upd_ne (ne_of_none (h a u e) n)]; exact e
  bh := fun a u e => by
    by_cases z : a = p
    · subst z; rw [upd_same] at e ⊢; exact e
    · rw [upd_ne z] at e ⊢; exact h a u e
  keep := fun a u e _ => by rw [upd_ne (ne_of_none e n)]; exact e
  new := fun a u e z => by rw [upd_ne (ne_of_none e n)]; exact z
  there := fun a u e => ⟨u, by rw [upd_ne (ne_of_none e n)]; exact e⟩
/-- a new object, not told -/
theorem Go.own {S : SA} {B H : Hp} {p : Addr} {o : HO} (h : Same B H) (n : H p = none) : Go S B H B (upd H p o) where
  b := Same.refl B
  bh := fun a u e => by rw [upd_ne (ne_of_none (h a u e) n)]; exact h a u e
  keep := fun a u e _ => by rw [upd_ne (ne_of_none e n)]; exact e
  new := fun a u e z => z
  there := fun a u e => ⟨u, by rw [upd_ne (ne_of_none e n)]; exact e⟩
theorem SrcOk.same {S : SA} {B H B2 H2 : Hp} (x : SrcOk S B H) (g : Go S B H B2 H2) (h : ∀ a o, H a = some o → H2 a = some o) : SrcOk S B2 H2 := fun s c e => by
  obtain ⟨h1, h2, y, hy, h3, h4⟩ := x s c e
  exact ⟨g.new s _ h3 h1, g.new c _ h4 h2, y, hy, h _ _ h3, h _ _ h4⟩
theorem SrcOk.add {S : SA} {B H : Hp} {p : Addr} {o : HO} (x : SrcOk S B H) (h : Same B H) (n : H p = none) : SrcOk S (upd B p o) (upd H p o) :=
  x.same (Go.add h n) fun a u e => by rw [upd_ne (ne_of_none e n)]; exact e
theorem SrcOk.own {S : SA} {B H : Hp} {p : Addr} {o : HO} (x : SrcOk S B H) (h : Same B H) (n : H p = none) : SrcOk S B (upd H p o) :=
  x.same (Go.own h n) fun a u e => by rw [upd_ne (ne_of_none e n)]; exact e
theorem SrcOk.none {B H : Hp} : SrcOk Option.none B H := fun _ _ e => nomatch e

/-! ### environments -/
inductive Ow where
  | lst (ds : List D)
  | dk (kvs : List (Key × D))
  | dt (kvs : List (List Key × D))
inductive Sl where
  | no | src | dat (d : D) | own (o : Ow)
abbrev Env := List Sl
def KvOk {κ : Type} (K : PySem.W.Frag) (B : Hp) : List (κ × V) → List (κ × D) → Prop := Paired fun u d => u.1 = d.1 ∧ Dp K B u.2 d.2
def OwOk (K : PySem.W.Frag) (B H : Hp) (p : Addr) : Ow → Prop
  | .lst ds => ∃ vs, H p = some (.lst vs) ∧ DpAll K B vs ds
  | .dk kvs => ∃ us : List (Key × V), H p = some (.dK us) ∧ KvOk K B us kvs
  | .dt kvs => ∃ us : List (List Key × V), H p = some (.dT us) ∧ KvOk K B us kvs
theorem kv_up {κ : Type} {K : PySem.W.Frag} {B B2 : Hp} (e : Same B B2) : ∀ {us : List (κ × V)} {ks : List (κ × D)}, KvOk K B us ks → KvOk K B2 us ks
  | _, _, .nil => .nil
  | _, _, .cons h t => .cons ⟨h.1, h.2.up e⟩ (kv_up e t)
theorem OwOk.up {K : PySem.W.Frag} {B H B2 H2 : Hp} {p : Addr} {o : Ow} (x : OwOk K B H p o) (e : Same B B2) (k : ∀ u, H p = some u → H2 p = some u) : OwOk K B2 H2 p o := by
  cases o with
  | lst ds => obtain ⟨vs, h, d⟩ := x; exact ⟨vs, k _ h, d.up e⟩
  | dk kvs => obtain ⟨vs, h, d⟩ := x; exact ⟨vs, k _ h, kv_up e d⟩
  | dt kvs => obtain ⟨vs, h, d⟩ := x; exact ⟨vs, k _ h, kv_up e d⟩
theorem OwOk.some {K : PySem.W.Frag} {B H : Hp} {p : Addr} {o : Ow} (x : OwOk K B H p o) : ∃ u, H p = Option.some u := by
  cases o with
  | lst ds => obtain ⟨vs, h, d⟩ := x; exact ⟨_, h⟩
  | dk kvs => obtain ⟨vs, h, d⟩ := x; exact ⟨_, h⟩
  | dt kvs => obtain ⟨vs, h, d⟩ := x; exact ⟨_, h⟩
structure Gm where
  S : SA
  B0 : Hp
  H0 : Hp
def SlOk (K : PySem.W.Frag) (G : Gm) (B H : Hp) (v : Option V) : Sl → Prop
  | .no => True
  | .src => ∃ s c, G.S = some (s, c) ∧ v = some (.ref s)
  | .dat d => ∃ u, v = some u ∧ Dp K B u d
  | .own o => ∃ p, v = some (.ref p) ∧ G.H0 p = none ∧ B p = none ∧ OwOk K B H p o
structure EnvOk (K : PySem.W.Frag) (G : Gm) (B H : Hp) (σ : L2.St) (ρ : Env) : Prop where
  go : Go G.S G.B0 G.H0 B H
  src : SrcOk G.S B H
  sin : ∀ s c, G.S = some (s, c) → (∃ o, G.H0 s = some o) ∧ ∃ o, G.H0 c = some o
  len : σ.length = ρ.length
  sl : ∀ (i : Nat) x s, σ[i]? = some x → ρ[i]? = some s → SlOk K G B H x s
  dis : ∀ (i j : Nat) p oi oj, ρ[i]? = some (.own oi) → ρ[j]? = some (.own oj) → σ[i]? = some (some (.ref p)) → σ[j]? = some (some (.ref p)) → i = j
section
variable {K : PySem.W.Frag} {G : Gm} {B H B2 H2 : Hp} {σ : L2.St} {ρ : Env}
theorem EnvOk.bh (x : EnvOk K G B H σ ρ) : Same B H := x.go.bh
theorem EnvOk.out (x : EnvOk K G B H σ ρ) {p : Addr} (h : G.H0 p = none) : outS G.S p := fun s c e => by
  obtain ⟨⟨o, h1⟩, o', h2⟩ := x.sin s c e
  exact ⟨fun z => (by rw [z, h1] at h; cases h), fun z => (by rw [z, h2] at h; cases h)⟩
theorem EnvOk.step (x : EnvOk K G B H σ ρ) (g : Go G.S B H B2 H2) (s : SrcOk G.S B2 H2) : EnvOk K G B2 H2 σ ρ where
  go := x.go.trans g
  src := s
  sin := x.sin
  len := x.len
  sl := fun i u w h1 h2 => by
    have q := x.sl i u w h1 h2
    cases w with
    | no => trivial
    | src => exact q
    | dat d =>
      obtain ⟨v, e, h⟩ := q
      exact ⟨v, e, h.up g.b⟩
    | own o =>
      obtain ⟨p, e, h0, hb, h⟩ := q
      obtain ⟨t, ht⟩ := h.some
      exact ⟨p, e, h0, g.new p t ht hb, h.up g.b fun u hu => g.keep p u hu (x.out h0)⟩
  dis := x.dis
theorem EnvOk.get (x : EnvOk K G B H σ ρ) {i : Nat} {d : D} (h : ρ[i]? = some (.dat d)) : ∃ v, σ[i]? = some (some v) ∧ Dp K B v d := by
  have hi : i < σ.length := by rw [x.len]; exact (List.getElem?_eq_some_iff.mp h).1
  obtain ⟨v, e, q⟩ := x.sl i σ[i] (.dat d) (by simp [hi]) h
  exact ⟨v, by rw [← e]; simp [hi], q⟩
theorem EnvOk.getOwn (x : EnvOk K G B H σ ρ) {i : Nat} {o : Ow} (h : ρ[i]? = some (.own o)) : ∃ p, σ[i]? = some (some (.ref p)) ∧ G.H0 p = none ∧ B p = none ∧ OwOk K B H p o := by
  have hi : i < σ.length := by rw [x.len]; exact (List.getElem?_eq_some_iff.mp h).1
  obtain ⟨p, e, q⟩ := x.sl i σ[i] (.own o) (by simp [hi]) h
  exact ⟨p, by rw [← e]; simp [hi], q⟩
theorem EnvOk.getSrc (x : EnvOk K G B H σ ρ) {i : Nat} (h : ρ[i]? = some .src) : ∃ s c, G.S = some (s, c) ∧ σ[i]? = some (some (.ref s)) := by
  have hi : i < σ.length := by rw [x.len]; exact (List.getElem?_eq_some_iff.mp h).1
  obtain ⟨s, c, e, q⟩ := x.sl i σ[i] .src (by simp [hi]) h
  exact ⟨s, c, e, by rw [← q]; simp [hi]⟩
theorem set_cases {α : Type} {l : List α} {i j : Nat} {x y : α} (h : (l.set i x)[j]? = some y) : (i = j ∧ x = y) ∨ (i ≠ j ∧ l[j]? = some y) := by
  by_cases e : i = j
  · subst e
    left
    by_cases hl : i < l.length
    · rw [List.getElem?_set_self hl] at h
      exact ⟨rfl, Option.some.inj h⟩
    · rw [List.getElem?_eq_none (by simpa using hl)] at h; cases h
  · rw [List.getElem?_set_ne e] at h
    exact .inr ⟨e, h⟩
theorem EnvOk.setAny (x : EnvOk K G B H σ ρ) {i : Nat} {v : Option V} {s : Sl} (h : SlOk K G B H v s) (hd : ∀ o p, s = .own o → v = some (.ref p) → ∀ j oj, j ≠ i → ρ[j]? = some (.own oj) → σ[j]? ≠ some (some (.ref p))) :
    EnvOk K G B H (σ.set i v) (ρ.set i s) where
  go := x.go
  src := x.src
  sin := x.sin
  len := by simp [x.len]
  sl := fun j u w h1 h2 => by
    rcases set_cases h1 with ⟨e, r⟩ | ⟨e, r⟩
    · rcases set_cases h2 with ⟨_, q⟩ | ⟨n, _⟩
      · rw [← r, ← q]; exact h
      · exact absurd e n
    · rcases set_cases h2 with ⟨n, _⟩ | ⟨_, q⟩
      · exact absurd n e
      · exact x.sl j u w r q
  dis := fun j k p oj ok h1 h2 h3 h4 => by
    rcases set_cases h1 with ⟨e1, r1⟩ | ⟨e1, r1⟩
    · rcases set_cases h2 with ⟨e2, r2⟩ | ⟨e2, r2⟩
      · exact e1.symm.trans e2
      · rcases set_cases h3 with ⟨_, r3⟩ | ⟨n, _⟩
        · rcases set_cases h4 with ⟨n, _⟩ | ⟨_, r4⟩
          · exact absurd n e2
          · exact absurd r4 (hd oj p r1 r3 k ok (Ne.symm e2) r2)
        · exact absurd e1 n
    · rcases set_cases h2 with ⟨e2, r2⟩ | ⟨e2, r2⟩
      · rcases set_cases h4 with ⟨_, r4⟩ | ⟨n, _⟩
        · rcases set_cases h3 with ⟨n, _⟩ | ⟨_, r3⟩
          · exact absurd n e1
          · exact absurd r3 (hd ok p r2 r4 j oj (Ne.symm e1) r1)
        · exact absurd e2 n
      · rcases set_cases h3 with ⟨n, _⟩ | ⟨_, r3⟩
        · exact absurd n e1
        · rcases set_cases h4 with ⟨n, _⟩ | ⟨_, r4⟩
          · exact absurd n e2
          · exact x.dis j k p oj ok r1 r2 r3 r4
theorem EnvOk.setDat (x : EnvOk K G B H σ ρ) {i : Nat} {v : V} {d : D} (h : Dp K B v d) : EnvOk K G B H (σ.set i (some v)) (ρ.set i (.dat d)) :=
  x.setAny ⟨v, rfl, h⟩ fun _ _ e => nomatch e
theorem EnvOk.setNo (x : EnvOk K G B H σ ρ) {i : Nat} {v : Option V} : EnvOk K G B H (σ.set i v) (ρ.set i .no) := x.setAny trivial fun _ _ e => nomatch e
/-- a new object becomes a name's own -/
theorem EnvOk.setOwn (x : EnvOk K G B H σ ρ) (g : Go G.S B H B2 H2) (s : SrcOk G.S B2 H2) {i : Nat} {p : Addr} {o : Ow} (hp : H p = none) (hb : B2 p = none) (h : OwOk K B2 H2 p o) : EnvOk K G B2 H2 (σ.set i (some (.ref p))) (ρ.set i (.own o)) :=
  (x.step g s).setAny ⟨p, rfl, x.go.back hp, hb, h⟩ fun o' p' _ e j oj _ hj hs => by
    cases e
    obtain ⟨q, e1, _, _, h1⟩ := x.getOwn hj
    rw [e1] at hs
    cases hs
    obtain ⟨t, ht⟩ := h1.some
    rw [hp] at ht; cases ht
/-- a name's own object changes -/
theorem EnvOk.write (x : EnvOk K G B H σ ρ) {i : Nat} {p : Addr} {o o' : Ow} {ho : HO} (hi : ρ[i]? = some (.own o)) (hs : σ[i]? = some (some (.ref p))) (h : OwOk K B (upd H p ho) p o') : EnvOk K G B (upd H p ho) σ (ρ.set i (.own o')) := by
  obtain ⟨q, e1, h0, hb, h1⟩ := x.getOwn hi
  rw [hs] at e1
  cases e1
  have np : ∀ a u, G.H0 a = some u → a ≠ p := fun a u e z => by rw [z, h0] at e; cases e
  have hil : i < ρ.length := (List.getElem?_eq_some_iff.mp hi).1
  refine ⟨⟨x.go.b, fun a u e => ?_, fun a u e n => ?_, x.go.new, fun a u e => ?_⟩, fun s c e => ?_, x.sin, by simp [x.len], fun j u w h2 h3 => ?_, fun j k r oj ok h2 h3 h4 h5 => ?_⟩
  · rw [upd_ne (fun z => by rw [z, hb] at e; cases e)]; exact x.bh a u e
  · rw [upd_ne (np a u e)]; exact x.go.keep a u e n
  · rw [upd_ne (np a u e)]; exact x.go.there a u e
  · obtain ⟨a1, a2, y, hy, a3, a4⟩ := x.src s c e
    obtain ⟨⟨u1, b1⟩, u2, b2⟩ := x.sin s c e
    exact ⟨a1, a2, y, hy, by rw [upd_ne (np _ _ b1)]; exact a3, by rw [upd_ne (np _ _ b2)]; exact a4⟩
  · rcases set_cases h3 with ⟨e, r⟩ | ⟨e, r⟩
    · subst e
      rw [hs] at h2
      cases h2
      rw [← r]
      exact ⟨p, rfl, h0, hb, h⟩
    · have q := x.sl j u w h2 r
      cases w with
      | no => trivial
      | src => exact q
      | dat d => exact q
      | own ow =>
        obtain ⟨p', e', h0', hb', h'⟩ := q
        refine ⟨p', e', h0', hb', h'.up (Same.refl B) fun t ht => ?_⟩
        rw [upd_ne (fun z => ?_)]
        · exact ht
        · subst z
          exact e (x.dis i j p' o ow hi r hs (by rw [h2, e']))
  · have old : ∀ (m : Nat) om, (ρ.set i (Sl.own o'))[m]? = some (Sl.own om) → ∃ om', ρ[m]? = some (Sl.own om') := fun m om hm => by
      rcases set_cases hm with ⟨e, _⟩ | ⟨_, r⟩
      · exact ⟨o, by rw [← e]; exact hi⟩
      · exact ⟨om, r⟩
    obtain ⟨oj', hj⟩ := old j oj h2
    obtain ⟨ok', hk⟩ := old k ok h3
    exact x.dis j k r oj' ok' hj hk h4 h5
/-- from now on a name's own list is told for good -/
theorem EnvOk.freeze (x : EnvOk K G B H σ ρ) {i : Nat} {ds : List D} (hi : ρ[i]? = some (.own (.lst ds))) :
    ∃ p vs, σ[i]? = some (some (.ref p)) ∧ H p = some (.lst vs) ∧ B p = none ∧ EnvOk K G (upd B p (.lst vs)) H σ (ρ.set i (.dat (.list ds))) := by
  obtain ⟨p, e1, h0, hb, vs, hp, hd⟩ := x.getOwn hi
  have sb : Same B (upd B p (.lst vs)) := fun a u e => by rw [upd_ne (fun z => by rw [z, hb] at e; cases e)]; exact e
  have np : ∀ a u, G.H0 a = some u → a ≠ p := fun a u e z => by rw [z, h0] at e; cases e
  refine ⟨p, vs, e1, hp, hb, ⟨x.go.b.trans sb, fun a u e => ?_, x.go.keep, fun a u e n => ?_, x.go.there⟩, fun s c e => ?_, x.sin, by simp [x.len], fun j u w h2 h3 => ?_, fun j k r oj ok h2 h3 h4 h5 => ?_⟩
  · by_cases z : a = p
    · subst z; rw [upd_same] at e; cases e; exact hp
    · rw [upd_ne z] at e; exact x.bh a u e
  · rw [upd_ne (np a u e)]; exact x.go.new a u e n
  · obtain ⟨a1, a2, y, hy, a3, a4⟩ := x.src s c e
    obtain ⟨⟨u1, b1⟩, u2, b2⟩ := x.sin s c e
    exact ⟨by rw [upd_ne (np _ _ b1)]; exact a1, by rw [upd_ne (np _ _ b2)]; exact a2, y, hy, a3, a4⟩
  · rcases set_cases h3 with ⟨e, r⟩ | ⟨e, r⟩
    · subst e
      rw [e1] at h2
      cases h2
      rw [← r]
      exact ⟨_, rfl, .lst (.inl (.inl upd_same)) (hd.up sb)⟩
    · have q := x.sl j u w h2 r
      cases w with
      | no => trivial
      | src => exact q
      | dat d =>
        obtain ⟨v, ev, h⟩ := q
        exact ⟨v, ev, h.up sb⟩
      | own ow =>
        obtain ⟨p', e', h0', hb', h'⟩ := q
        refine ⟨p', e', h0', ?_, h'.up sb fun t ht => ht⟩
        rw [upd_ne (fun z => ?_)]
        · exact hb'
        · subst z
          exact e (x.dis i j p' _ ow hi r e1 (by rw [h2, e']))
  · rcases set_cases h2 with ⟨_, q⟩ | ⟨_, q2⟩
    · cases q
    · rcases set_cases h3 with ⟨_, q⟩ | ⟨_, q3⟩
      · cases q
      · exact x.dis j k r oj ok q2 q3 h4 h5
end
end PL
/-! Layer P, part 1: judgements; expressions. -/
namespace PL
open PySem L2

abbrev WE := Env → (D → Prop) → Prop
abbrev WT := Env → (Bool → Prop) → Prop
abbrev WA := Env → (List D → Prop) → Prop
abbrev WO := Env → (Ow → Prop) → Prop
abbrev WP := Env → (Option Int → Prop) → Prop

/-- an expression's value: data -/
def Ev (K : PySem.W.Frag) (te : TE) (w : WE) : Prop := ∀ (G : Gm) (B H : Hp) (σ : L2.St) (ρ : Env) (P : D → Prop), EnvOk K G B H σ ρ → w ρ P →
  ∀ Q : VK, (∀ v d B2 H2, P d → Go G.S B H B2 H2 → SrcOk G.S B2 H2 → Dp K B2 v d → Q v H2) → te σ H Q
/-- .. a new list or dict that is nobody's yet -/
def EvO (K : PySem.W.Frag) (te : TE) (w : WO) : Prop := ∀ (G : Gm) (B H : Hp) (σ : L2.St) (ρ : Env) (P : Ow → Prop), EnvOk K G B H σ ρ → w ρ P →
  ∀ Q : VK, (∀ p o B2 H2, P o → Go G.S B H B2 H2 → SrcOk G.S B2 H2 → H p = none → B2 p = none → OwOk K B2 H2 p o → Q (.ref p) H2) → te σ H Q
def EvT (K : PySem.W.Frag) (tt : TT) (w : WT) : Prop := ∀ (G : Gm) (B H : Hp) (σ : L2.St) (ρ : Env) (P : Bool → Prop), EnvOk K G B H σ ρ → w ρ P →
  ∀ Q : Bool → Hp → Prop, (∀ b B2 H2, P b → Go G.S B H B2 H2 → SrcOk G.S B2 H2 → Q b H2) → tt σ H Q
def EvA (K : PySem.W.Frag) (n : Nat) (ta : TA) (w : WA) : Prop := ∀ (G : Gm) (B H : Hp) (σ : L2.St) (ρ : Env) (P : List D → Prop), EnvOk K G B H σ ρ → w ρ P →
  ∀ Q : List V → Hp → Prop, (∀ vs ds B2 H2, ds.length = n → P ds → Go G.S B H B2 H2 → SrcOk G.S B2 H2 → DpAll K B2 vs ds → Q vs H2) → ta σ H Q
def EvP (K : PySem.W.Frag) (to : TO) (w : WP) : Prop := ∀ (G : Gm) (B H : Hp) (σ : L2.St) (ρ : Env) (P : Option Int → Prop), EnvOk K G B H σ ρ → w ρ P →
  ∀ Q : Option Int → Hp → Prop, (∀ o B2 H2, P o → Go G.S B H B2 H2 → SrcOk G.S B2 H2 → Q o H2) → to σ H Q

structure PX (X : Cx) (e : Expr) (te : TE) (w : WE) : Prop where
  pe : PE X e te
  ev : Ev X.K te w
structure PXO (X : Cx) (e : Expr) (te : TE) (w : WO) : Prop where
  pe : PE X e te
  ev : EvO X.K te w
structure PXT (X : Cx) (e : Expr) (tt : TT) (w : WT) : Prop where
  pe : PT X e tt
  ev : EvT X.K tt w
/-- a test within and, or -/
structure PXW (X : Cx) (e : Expr) (tt : TT) (w : WT) : Prop where
  pe : PW X e tt
  ev : EvT X.K tt w
structure PXA (X : Cx) (es : List Expr) (n : Nat) (ta : TA) (w : WA) : Prop where
  pe : PA X es ta
  ev : EvA X.K n ta w
structure PXP (X : Cx) (e : Option Expr) (to : TO) (w : WP) : Prop where
  pe : PO X e to
  ev : EvP X.K to w

section
variable {X : Cx} {pos : Pos}

/-! ### names, constants -/
def wVar (i : Nat) : WE := fun ρ P => match ρ[i]? with
  | some (.dat d) => P d
  | _ => False
theorem ev_var {K : PySem.W.Frag} (i : Nat) : Ev K (tVar i) (wVar i) := fun G B H σ ρ P x w Q q => by
  unfold wVar at w
  split at w
  · rename_i d e
    obtain ⟨v, hv, hd⟩ := x.get e
    exact ⟨v, hv, q v d B H w (Go.refl x.bh) x.src hd⟩
  · exact w.elim
theorem x_var (i : Nat) {x : Str} (hN : X.N[i]? = some x := by rfl) (hv : Vis X.env.scope x := by first | exact Or.inl rfl | exact Or.inr (Or.inl rfl) | exact Or.inr (Or.inr rfl)) (hd : (x == ("__debug__" : Str)) = false := by decide)
    (hcd : (x == ("__classdict__" : Str)) = false := by decide) : PX X (.Name x pos) (tVar i) (wVar i) := ⟨pe_var hN hv hd hcd, ev_var i⟩
/-- a value that is what it is in every heap -/
def DpC (K : PySem.W.Frag) (v : V) (d : D) : Prop := ∀ B : Hp, Dp K B v d
def wC (d : D) : WE := fun _ P => P d
theorem ev_c {K : PySem.W.Frag} {v : V} {d : D} (h : DpC K v d) : Ev K (tC v) (wC d) := fun G B H σ ρ P x w Q q => q v d B H w (Go.refl x.bh) x.src (h B)
theorem x_int {i : Int} {j : Nat} : PX X (.Constant (.int i) j pos) (tC (.int i)) (wC (.int i)) := ⟨pe_int, ev_c fun _ => .int i⟩
theorem x_bl {b : Bool} {j : Nat} : PX X (.Constant (.bool b) j pos) (tC (.bl b)) (wC (.bool b)) := ⟨pe_bl, ev_c fun _ => .bl b⟩
theorem x_non {j : Nat} : PX X (.Constant .none j pos) (tC .non) (wC .none) := ⟨pe_non, ev_c fun _ => .non⟩
theorem x_str {s : Str} {j : Nat} : PX X (.Constant (.str s) j pos) (tC (.str s)) (wC (.str s)) := ⟨pe_str, ev_c fun _ => .str s⟩
/-- a module's constant -/
def GlobD (K : PySem.W.Frag) (mg : Str → Option Value) (x : Str) (v : V) (d : D) : Prop := ∃ u, mg x = some u ∧ RelV v u ∧ DpC K v d
theorem x_glob {x : Str} {v : V} {d : D} (h : GlobD X.K X.mg x v d) (hg : Gl X x := by rfl) (hd : (x == ("__debug__" : Str)) = false := by decide) : PX X (.Name x pos) (tC v) (wC d) :=
  let ⟨u, hm, r, c⟩ := h
  ⟨pe_glob hg hm r hd, ev_c c⟩

/-! ### operations on values -/
/-- r does f -/
def RelD (K : PySem.W.Frag) (r : R2) (f : D → D → (D → Prop) → Prop) : Prop := ∀ (S : SA) (B H : Hp) (x y : V) (a b : D) (P : D → Prop), SrcOk S B H → Same B H → Dp K B x a → Dp K B y b → f a b P →
  ∀ Q : VK, (∀ v d B2 H2, P d → Go S B H B2 H2 → SrcOk S B2 H2 → Dp K B2 v d → Q v H2) → r x y H Q
def w2 (f : D → D → (D → Prop) → Prop) (wa wb : WE) : WE := fun ρ P => wa ρ fun a => wb ρ fun b => f a b P
theorem ev_op {K : PySem.W.Frag} {r : R2} {f : D → D → (D → Prop) → Prop} {ta tb : TE} {wa wb : WE} (hr : RelD K r f) (ha : Ev K ta wa) (hb : Ev K tb wb) : Ev K (tOp r ta tb) (w2 f wa wb) := fun G B H σ ρ P x w Q q =>
  ha G B H σ ρ _ x w _ fun v a B1 H1 w1 g1 s1 h1 => hb G B1 H1 σ ρ _ (x.step g1 s1) w1 _ fun u b B2 H2 w2 g2 s2 h2 =>
    hr G.S B2 H2 v u a b P s2 g2.bh (h1.up g2.b) h2 w2 Q fun z d B3 H3 p g3 s3 h3 => q z d B3 H3 p ((g1.trans g2).trans g3) s3 h3
theorem x_op {r : R2} {f : D → D → (D → Prop) → Prop} {op : Operator} {a b : Expr} {ta tb : TE} {wa wb : WE} (ho : OpR X (binaryOp op) r) (hr : RelD X.K r f) (ha : PX X a ta wa) (hb : PX X b tb wb) : PX X (.BinOp a op b pos) (tOp r ta tb) (w2 f wa wb) :=
  ⟨pe_op ho ha.pe hb.pe, ev_op hr ha.ev hb.ev⟩
theorem x_cmp {r : R2} {f : D → D → (D → Prop) → Prop} {op : CmpOp} {a b : Expr} {ta tb : TE} {wa wb : WE} (ho : OpR X (compareOp op) r) (hr : RelD X.K r f) (ha : PX X a ta wa) (hb : PX X b tb wb) (hm : behindInMarks op b = false) : PX X (.Compare a [op] [b] pos) (tOp r ta tb) (w2 f wa wb) :=
  ⟨pe_cmpR ho ha.pe hb.pe hm, ev_op hr ha.ev hb.ev⟩
theorem pure_rel {K : PySem.W.Frag} {S : SA} {B H : Hp} {P : D → Prop} {Q : VK} {v : V} {d : D} (s : SrcOk S B H) (h : Same B H) (q : ∀ v d B2 H2, P d → Go S B H B2 H2 → SrcOk S B2 H2 → Dp K B2 v d → Q v H2) (p : P d) (hd : Dp K B v d) : Q v H :=
  q v d B H p (Go.refl h) s hd
/-- two ints -/
def fI (C : Int → Int → Prop) (g : Int → Int → D) : D → D → (D → Prop) → Prop := fun a b P => match a, b with
  | .int i, .int j => C i j ∧ P (g i j)
  | _, _ => False
def fI0 (g : Int → Int → D) : D → D → (D → Prop) → Prop := fun a b P => match a, b with
  | .int i, .int j => P (g i j)
  | _, _ => False
theorem rel_I {K : PySem.W.Frag} {C : Int → Int → Prop} {g : Int → Int → V} {gd : Int → Int → D} (hg : ∀ i j, DpC K (g i j) (gd i j)) : RelD K (rI C g) (fI C gd) := fun S B H x y a b P s h ha hb w Q q => by
  unfold fI at w
  split at w
  · cases ha; cases hb
    exact ⟨_, _, rfl, rfl, w.1, pure_rel s h q w.2 (hg _ _ B)⟩
  · exact w.elim
theorem rel_I0 {K : PySem.W.Frag} {g : Int → Int → V} {gd : Int → Int → D} (hg : ∀ i j, DpC K (g i j) (gd i j)) : RelD K (rI0 g) (fI0 gd) := fun S B H x y a b P s h ha hb w Q q => by
  unfold fI0 at w
  split at w
  · cases ha; cases hb
    exact ⟨_, _, rfl, rfl, pure_rel s h q w (hg _ _ B)⟩
  · exact w.elim
theorem dpc_int {K : PySem.W.Frag} (i : Int) : DpC K (.int i) (.int i) := fun _ => .int i
theorem dpc_bl {K : PySem.W.Frag} (b : Bool) : DpC K (.bl b) (.bool b) := fun _ => .bl b
section
variable {a b : Expr} {ta tb : TE} {wa wb : WE}
abbrev fAdd := fI0 fun i j => .int (i + j)
abbrev fSub := fI0 fun i j => .int (i - j)
/-- sizes of factors -/
def MulOk (i j : Int) : Prop := CMul i j ∨ CMulW i j
abbrev fMul := fI MulOk fun i j => .int (i * j)
abbrev fDiv := fI CDivW fun i j => .int (i / j)
def CDivA (i j : Int) : Prop := j ≠ 0 ∧ j.natAbs.log2 < 9000
abbrev fDivA := fI CDivA fun i j => .int (i.fdiv j)
abbrev fMod := fI (fun _ j => 0 < j) fun i j => .int (i % j)
abbrev fPow := fI CPow fun i j => .int (i ^ j.toNat)
theorem x_add (ha : PX X a ta wa) (hb : PX X b tb wb) : PX X (.BinOp a .Add b pos) (tOp (rI0 fun i j => .int (i + j)) ta tb) (w2 fAdd wa wb) := x_op op_add (rel_I0 fun i j => dpc_int _) ha hb
theorem x_sub (ha : PX X a ta wa) (hb : PX X b tb wb) : PX X (.BinOp a .Sub b pos) (tOp (rI0 fun i j => .int (i - j)) ta tb) (w2 fSub wa wb) := x_op op_sub (rel_I0 fun i j => dpc_int _) ha hb
theorem op_mulA : OpR X (binaryOp .Mult) (rI MulOk fun i j => .int (i * j)) := fun pins s σ H x y v u Q I rx ry h => by
  obtain ⟨i, j, e1, e2, c, q⟩ := h
  rcases c with c | c
  · exact op_mul pins s σ H x y v u Q I rx ry ⟨i, j, e1, e2, c, q⟩
  · exact op_mulW pins s σ H x y v u Q I rx ry ⟨i, j, e1, e2, c, q⟩
theorem x_mul (ha : PX X a ta wa) (hb : PX X b tb wb) : PX X (.BinOp a .Mult b pos) (tOp (rI MulOk fun i j => .int (i * j)) ta tb) (w2 fMul wa wb) := x_op op_mulA (rel_I fun i j => dpc_int _) ha hb
theorem x_div (ha : PX X a ta wa) (hb : PX X b tb wb) : PX X (.BinOp a .FloorDiv b pos) (tOp (rI CDivW fun i j => .int (i / j)) ta tb) (w2 fDiv wa wb) := x_op op_fdivW (rel_I fun i j => dpc_int _) ha hb
theorem op_fdivA : OpR X (binaryOp .FloorDiv) (rI CDivA fun i j => .int (i.fdiv j)) := fun pins s σ H x y v u Q I rx ry h => by
  obtain ⟨i, j, rfl, rfl, c, q⟩ := h
  obtain ⟨t, rfl⟩ := rx
  obtain ⟨t', rfl⟩ := ry
  exact PyProof.Rows.floordiv_int c.1 ⟨.int _, H, I.tok _, ⟨_, rfl⟩, q⟩ (.inl (PyProof.noPylong_of_log2 c.2))
theorem x_divA (ha : PX X a ta wa) (hb : PX X b tb wb) : PX X (.BinOp a .FloorDiv b pos) (tOp (rI CDivA fun i j => .int (i.fdiv j)) ta tb) (w2 fDivA wa wb) := x_op op_fdivA (rel_I fun i j => dpc_int _) ha hb
theorem x_mod (ha : PX X a ta wa) (hb : PX X b tb wb) : PX X (.BinOp a .Mod b pos) (tOp (rI (fun _ j => 0 < j) fun i j => .int (i % j)) ta tb) (w2 fMod wa wb) := x_op op_mod (rel_I fun i j => dpc_int _) ha hb
theorem x_pow (ha : PX X a ta wa) (hb : PX X b tb wb) : PX X (.BinOp a .Pow b pos) (tOp (rI CPow fun i j => .int (i ^ j.toNat)) ta tb) (w2 fPow wa wb) := x_op op_pow (rel_I fun i j => dpc_int _) ha hb
theorem x_lt (ha : PX X a ta wa) (hb : PX X b tb wb) : PX X (.Compare a [.Lt] [b] pos) (tOp (rI0 fun i j => .bl (decide (i < j))) ta tb) (w2 (fI0 fun i j => .bool (decide (i < j))) wa wb) := x_cmp op_lt (rel_I0 fun i j => dpc_bl _) ha hb (nobehind _ (by decide) (by decide))
theorem x_le (ha : PX X a ta wa) (hb : PX X b tb wb) : PX X (.Compare a [.LtE] [b] pos) (tOp (rI0 fun i j => .bl (decide (i ≤ j))) ta tb) (w2 (fI0 fun i j => .bool (decide (i ≤ j))) wa wb) := x_cmp op_le (rel_I0 fun i j => dpc_bl _) ha hb (nobehind _ (by decide) (by decide))
theorem x_gt (ha : PX X a ta wa) (hb : PX X b tb wb) : PX X (.Compare a [.Gt] [b] pos) (tOp (rI0 fun i j => .bl (decide (j < i))) ta tb) (w2 (fI0 fun i j => .bool (decide (j < i))) wa wb) := x_cmp op_gt (rel_I0 fun i j => dpc_bl _) ha hb (nobehind _ (by decide) (by decide))
theorem x_ge (ha : PX X a ta wa) (hb : PX X b tb wb) : PX X (.Compare a [.GtE] [b] pos) (tOp (rI0 fun i j => .bl (decide (j ≤ i))) ta tb) (w2 (fI0 fun i j => .bool (decide (j ≤ i))) wa wb) := x_cmp op_ge (rel_I0 fun i j => dpc_bl _) ha hb (nobehind _ (by decide) (by decide))
/-- == and != of data of any depth -/
abbrev Shp (d : D) : Prop := SeqAt.shaped d = true
def fEq : D → D → (D → Prop) → Prop := fun a b P => Shp a ∧ Shp b ∧ P (.bool (PyData.eqv a b))
def fNe : D → D → (D → Prop) → Prop := fun a b P => Shp a ∧ Shp b ∧ P (.bool (!PyData.eqv a b))
theorem rel_eq {K : PySem.W.Frag} : RelD K (rEqD K) fEq := fun S B H x y a b P s h ha hb w Q q => ⟨a, b, ha.up h, hb.up h, w.1, w.2.1, pure_rel s h q w.2.2 (.bl _)⟩
theorem rel_ne {K : PySem.W.Frag} : RelD K (rNeD K) fNe := fun S B H x y a b P s h ha hb w Q q => ⟨a, b, ha.up h, hb.up h, w.1, w.2.1, pure_rel s h q w.2.2 (.bl _)⟩
theorem x_eq (hu : X.A.units + 64 < cLine) (ha : PX X a ta wa) (hb : PX X b tb wb) : PX X (.Compare a [.Eq] [b] pos) (tOp (rEqD X.K) ta tb) (w2 fEq wa wb) := x_cmp (op_eqD hu) rel_eq ha hb (nobehind _ (by decide) (by decide))
theorem x_ne (hu : X.A.units + 64 < cLine) (ha : PX X a ta wa) (hb : PX X b tb wb) : PX X (.Compare a [.NotEq] [b] pos) (tOp (rNeD X.K) ta tb) (w2 fNe wa wb) := x_cmp (op_neD hu) rel_ne ha hb (nobehind _ (by decide) (by decide))
/-- is None, is not None -/
def isN : D → Bool
  | .none => true
  | _ => false
def fIsN : D → D → (D → Prop) → Prop := fun a b P => match b with
  | .none => P (.bool (isN a))
  | _ => False
def fNotN : D → D → (D → Prop) → Prop := fun a b P => match b with
  | .none => P (.bool (!isN a))
  | _ => False
theorem isN_of {K : PySem.W.Frag} {B : Hp} {v : V} {d : D} (h : Dp K B v d) : decide (v = .non) = isN d := by
  cases h <;> rfl
/-- is True, is not False .. -/
def fIsB (neg : Bool) : D → D → (D → Prop) → Prop := fun a b P => match a, b with
  | .bool i, .bool j => P (.bool (if neg then !decide (i = j) else decide (i = j)))
  | _, _ => False
theorem rel_isN {K : PySem.W.Frag} : RelD K (fun x y H Q => y = .non ∧ Q (.bl (decide (x = .non))) H) fIsN := fun S B H x y a b P s h ha hb w Q q => by
  unfold fIsN at w
  split at w
  · cases hb
    exact ⟨rfl, by rw [isN_of ha]; exact pure_rel s h q w (.bl _)⟩
  · exact w.elim
theorem rel_notN {K : PySem.W.Frag} : RelD K (fun x y H Q => y = .non ∧ Q (.bl (!decide (x = .non))) H) fNotN := fun S B H x y a b P s h ha hb w Q q => by
  unfold fNotN at w
  split at w
  · cases hb
    exact ⟨rfl, by rw [isN_of ha]; exact pure_rel s h q w (.bl _)⟩
  · exact w.elim
theorem rel_isB {K : PySem.W.Frag} : RelD K rIsB (fIsB false) := fun S B H x y a b P s h ha hb w Q q => by
  unfold fIsB at w
  split at w
  · cases ha; cases hb
    exact ⟨_, _, rfl, rfl, pure_rel s h q w (.bl _)⟩
  · exact w.elim
theorem rel_notB {K : PySem.W.Frag} : RelD K rNotB (fIsB true) := fun S B H x y a b P s h ha hb w Q q => by
  unfold fIsB at w
  split at w
  · cases ha; cases hb
    exact ⟨_, _, rfl, rfl, pure_rel s h q w (.bl _)⟩
  · exact w.elim
theorem x_isN (ha : PX X a ta wa) (hb : PX X b tb wb) : PX X (.Compare a [.Is] [b] pos) (tOp (fun x y H Q => y = .non ∧ Q (.bl (decide (x = .non))) H) ta tb) (w2 fIsN wa wb) := x_cmp op_isN rel_isN ha hb (nobehind _ (by decide) (by decide))
theorem x_notN (ha : PX X a ta wa) (hb : PX X b tb wb) : PX X (.Compare a [.IsNot] [b] pos) (tOp (fun x y H Q => y = .non ∧ Q (.bl (!decide (x = .non))) H) ta tb) (w2 fNotN wa wb) := x_cmp op_notN rel_notN ha hb (nobehind _ (by decide) (by decide))
theorem x_isB (ha : PX X a ta wa) (hb : PX X b tb wb) : PX X (.Compare a [.Is] [b] pos) (tOp rIsB ta tb) (w2 (fIsB false) wa wb) := x_cmp op_isBl rel_isB ha hb (nobehind _ (by decide) (by decide))
theorem x_notB (ha : PX X a ta wa) (hb : PX X b tb wb) : PX X (.Compare a [.IsNot] [b] pos) (tOp rNotB ta tb) (w2 (fIsB true) wa wb) := x_cmp op_notBl rel_notB ha hb (nobehind _ (by decide) (by decide))
/-- -x -/
def wNeg (wa : WE) : WE := fun ρ P => wa ρ fun a => match a with
  | .int i => P (.int (-i))
  | _ => False
theorem x_neg (ha : PX X a ta wa) : PX X (.UnaryOp .USub a pos) (tUn (rU fun i => .int (-i)) ta) (wNeg wa) := ⟨pe_un un_neg ha.pe, fun G B H σ ρ P x w Q q =>
  ha.ev G B H σ ρ _ x w _ fun v d B1 H1 w1 g1 s1 h1 => by
    split at w1
    · cases h1
      exact ⟨_, rfl, q _ _ B1 H1 w1 g1 s1 (.int _)⟩
    · exact w1.elim⟩

/-! ### tests -/
/-- an expression whose value is a bool -/
def wTV (wa : WE) : WT := fun ρ P => wa ρ fun d => match d with
  | .bool b => P b
  | _ => False
theorem ev_tv {K : PySem.W.Frag} {wa : WE} (ha : Ev K ta wa) : EvT K (tB ta) (wTV wa) := fun G B H σ ρ P x w Q q =>
  ha G B H σ ρ _ x w _ fun v d B1 H1 w1 g1 s1 h1 => by
    split at w1
    · cases h1
      exact ⟨_, rfl, q _ B1 H1 w1 g1 s1⟩
    · exact w1.elim
theorem xt_val (ha : PX X a ta wa) (he : ∀ whole, isTrue a X.env whole = (do let v ← whole; standAt a.pos; holding [v] (truthy v)) := by intro _; rfl) : PXT X a (tB ta) (wTV wa) := ⟨pt_val ha.pe he, ev_tv ha.ev⟩
theorem xt_cmp {r : R2} {f : D → D → (D → Prop) → Prop} {op : CmpOp} (ho : OpR X (compareOp op) r) (hr : RelD X.K r f) (ha : PX X a ta wa) (hb : PX X b tb wb) (hm : behindInMarks op b = false) : PXT X (.Compare a [op] [b] pos) (tTest (tOp r ta tb)) (wTV (w2 f wa wb)) :=
  ⟨pt_cmpR ho ha.pe hb.pe hm, ev_tv (ev_op hr ha.ev hb.ev)⟩
theorem xt_lt (ha : PX X a ta wa) (hb : PX X b tb wb) : PXT X (.Compare a [.Lt] [b] pos) (tTest (tOp (rI0 fun i j => .bl (decide (i < j))) ta tb)) (wTV (w2 (fI0 fun i j => .bool (decide (i < j))) wa wb)) := xt_cmp op_lt (rel_I0 fun i j => dpc_bl _) ha hb (nobehind _ (by decide) (by decide))
theorem xt_le (ha : PX X a ta wa) (hb : PX X b tb wb) : PXT X (.Compare a [.LtE] [b] pos) (tTest (tOp (rI0 fun i j => .bl (decide (i ≤ j))) ta tb)) (wTV (w2 (fI0 fun i j => .bool (decide (i ≤ j))) wa wb)) := xt_cmp op_le (rel_I0 fun i j => dpc_bl _) ha hb (nobehind _ (by decide) (by decide))
theorem xt_gt (ha : PX X a ta wa) (hb : PX X b tb wb) : PXT X (.Compare a [.Gt] [b] pos) (tTest (tOp (rI0 fun i j => .bl (decide (j < i))) ta tb)) (wTV (w2 (fI0 fun i j => .bool (decide (j < i))) wa wb)) := xt_cmp op_gt (rel_I0 fun i j => dpc_bl _) ha hb (nobehind _ (by decide) (by decide))
theorem xt_ge (ha : PX X a ta wa) (hb : PX X b tb wb) : PXT X (.Compare a [.GtE] [b] pos) (tTest (tOp (rI0 fun i j => .bl (decide (j ≤ i))) ta tb)) (wTV (w2 (fI0 fun i j => .bool (decide (j ≤ i))) wa wb)) := xt_cmp op_ge (rel_I0 fun i j => dpc_bl _) ha hb (nobehind _ (by decide) (by decide))
theorem xt_eq (hu : X.A.units + 64 < cLine) (ha : PX X a ta wa) (hb : PX X b tb wb) : PXT X (.Compare a [.Eq] [b] pos) (tTest (tOp (rEqD X.K) ta tb)) (wTV (w2 fEq wa wb)) := xt_cmp (op_eqD hu) rel_eq ha hb (nobehind _ (by decide) (by decide))
theorem xt_ne (hu : X.A.units + 64 < cLine) (ha : PX X a ta wa) (hb : PX X b tb wb) : PXT X (.Compare a [.NotEq] [b] pos) (tTest (tOp (rNeD X.K) ta tb)) (wTV (w2 fNe wa wb)) := xt_cmp (op_neD hu) rel_ne ha hb (nobehind _ (by decide) (by decide))
theorem xt_isN (ha : PX X a ta wa) (hb : PX X b tb wb) : PXT X (.Compare a [.Is] [b] pos) (tTest (tOp (fun x y H Q => y = .non ∧ Q (.bl (decide (x = .non))) H) ta tb)) (wTV (w2 fIsN wa wb)) := xt_cmp op_isN rel_isN ha hb (nobehind _ (by decide) (by decide))
theorem xt_notN (ha : PX X a ta wa) (hb : PX X b tb wb) : PXT X (.Compare a [.IsNot] [b] pos) (tTest (tOp (fun x y H Q => y = .non ∧ Q (.bl (!decide (x = .non))) H) ta tb)) (wTV (w2 fNotN wa wb)) := xt_cmp op_notN rel_notN ha hb (nobehind _ (by decide) (by decide))
theorem xt_isB (ha : PX X a ta wa) (hb : PX X b tb wb) : PXT X (.Compare a [.Is] [b] pos) (tTest (tOp rIsB ta tb)) (wTV (w2 (fIsB false) wa wb)) := xt_cmp op_isBl rel_isB ha hb (nobehind _ (by decide) (by decide))
theorem xt_notB (ha : PX X a ta wa) (hb : PX X b tb wb) : PXT X (.Compare a [.IsNot] [b] pos) (tTest (tOp rNotB ta tb)) (wTV (w2 (fIsB true) wa wb)) := xt_cmp op_notBl rel_notB ha hb (nobehind _ (by decide) (by decide))
/-- a < b < c and such -/
def w3 (f g : D → D → (D → Prop) → Prop) (wa wb wc : WE) : WE := fun ρ P => wa ρ fun a => wb ρ fun b => f a b fun z => match z with
  | .bool true => wc ρ fun c => g b c P
  | .bool false => P (.bool false)
  | _ => False
theorem ev_chain {K : PySem.W.Frag} {r r' : R2} {f g : D → D → (D → Prop) → Prop} {tc : TE} {wa wb wc : WE} (hr : RelD K r f) (hr' : RelD K r' g) (ha : Ev K ta wa) (hb : Ev K tb wb) (hc : Ev K tc wc) : Ev K (tChain r r' ta tb tc) (w3 f g wa wb wc) := fun G B H σ ρ P x w Q q =>
  ha G B H σ ρ _ x w _ fun v a B1 H1 w1 g1 s1 h1 => hb G B1 H1 σ ρ _ (x.step g1 s1) w1 _ fun u b B2 H2 w2 g2 s2 h2 =>
    hr G.S B2 H2 v u a b _ s2 g2.bh (h1.up g2.b) h2 w2 _ fun z d B3 H3 p g3 s3 h3 => by
      split at p
      · cases h3
        refine ⟨true, rfl, ?_⟩
        rw [if_pos rfl]
        exact hc G B3 H3 σ ρ _ (((x.step g1 s1).step g2 s2).step g3 s3) p _ fun y c B4 H4 w4 g4 s4 h4 =>
          hr' G.S B4 H4 u y b c P s4 g4.bh (h2.up (g3.b.trans g4.b)) h4 w4 Q fun z d B5 H5 p g5 s5 h5 => q z d B5 H5 p ((((g1.trans g2).trans g3).trans g4).trans g5) s5 h5
      · cases h3
        refine ⟨false, rfl, ?_⟩
        rw [if_neg Bool.false_ne_true]
        exact q _ _ B3 H3 p ((g1.trans g2).trans g3) s3 (.bl _)
      · exact p.elim
theorem xt_chain {r r' : R2} {f g : D → D → (D → Prop) → Prop} {op op' : CmpOp} {c : Expr} {tc : TE} {wc : WE} (ho : OpR X (compareOp op) r) (hr : RelD X.K r f) (ho' : OpR X (compareOp op') r') (hr' : RelD X.K r' g) (ha : PX X a ta wa) (hb : PX X b tb wb) (hc : PX X c tc wc) (hm : lastMarks [op, op'] [b, c] = false := by rfl) :
    PXT X (.Compare a [op, op'] [b, c] pos) (tB (tChain r r' ta tb tc)) (wTV (w3 f g wa wb wc)) := ⟨pt_chain ho ho' ha.pe hb.pe hc.pe hm, ev_tv (ev_chain hr hr' ha.ev hb.ev hc.ev)⟩
/-- and, or, not -/
def wAnd (p q : WT) : WT := fun ρ P => p ρ fun b => match b with
  | true => q ρ P
  | false => P false
def wOr (p q : WT) : WT := fun ρ P => p ρ fun b => match b with
  | true => P true
  | false => q ρ P
def wNot (p : WT) : WT := fun ρ P => p ρ fun b => P (!b)
variable {tt uu : TT} {wt wu : WT} {rest : List Expr}
theorem ev_and {K : PySem.W.Frag} (h1 : EvT K tt wt) (h2 : EvT K uu wu) : EvT K (tAnd tt uu) (wAnd wt wu) := fun G B H σ ρ P x w Q q =>
  h1 G B H σ ρ _ x w _ fun b B1 H1 w1 g1 s1 => by
    cases b with
    | true =>
      rw [if_pos rfl]
      exact h2 G B1 H1 σ ρ P (x.step g1 s1) w1 Q fun b B2 H2 w2 g2 s2 => q b B2 H2 w2 (g1.trans g2) s2
    | false =>
      rw [if_neg Bool.false_ne_true]
      exact q false B1 H1 w1 g1 s1
theorem ev_or {K : PySem.W.Frag} (h1 : EvT K tt wt) (h2 : EvT K uu wu) : EvT K (tOr tt uu) (wOr wt wu) := fun G B H σ ρ P x w Q q =>
  h1 G B H σ ρ _ x w _ fun b B1 H1 w1 g1 s1 => by
    cases b with
    | true =>
      rw [if_pos rfl]
      exact q true B1 H1 w1 g1 s1
    | false =>
      rw [if_neg Bool.false_ne_true]
      exact h2 G B1 H1 σ ρ P (x.step g1 s1) w1 Q fun b B2 H2 w2 g2 s2 => q b B2 H2 w2 (g1.trans g2) s2
theorem xw_and1 (ha : PXT X a tt wt) : PXW X (.BoolOp .And [a] pos) tt wt := ⟨pw_and1 ha.pe, ha.ev⟩
theorem xw_or1 (ha : PXT X a tt wt) : PXW X (.BoolOp .Or [a] pos) tt wt := ⟨pw_or1 ha.pe, ha.ev⟩
theorem xw_and (ha : PXT X a tt wt) (hb : PXW X (.BoolOp .And (b :: rest) pos) uu wu) : PXW X (.BoolOp .And (a :: b :: rest) pos) (tAnd tt uu) (wAnd wt wu) := ⟨pw_and ha.pe hb.pe, ev_and ha.ev hb.ev⟩
theorem xw_or (ha : PXT X a tt wt) (hb : PXW X (.BoolOp .Or (b :: rest) pos) uu wu) : PXW X (.BoolOp .Or (a :: b :: rest) pos) (tOr tt uu) (wOr wt wu) := ⟨pw_or ha.pe hb.pe, ev_or ha.ev hb.ev⟩
theorem xt_w (h : PXW X a tt wt) : PXT X a tt wt := ⟨h.pe.pt, h.ev⟩
theorem xt_not (h : PXT X a tt wt) : PXT X (.UnaryOp .Not a pos) (tNot tt) (wNot wt) := ⟨pt_not h.pe, fun G B H σ ρ P x w Q q => h.ev G B H σ ρ _ x w _ fun b B2 H2 w2 g2 s2 => q (!b) B2 H2 w2 g2 s2⟩
/-- and, or, not as values (of bools) -/
def wAndV (p q : WE) : WE := fun ρ P => p ρ fun d => match d with
  | .bool true => q ρ P
  | .bool false => P (.bool false)
  | _ => False
def wOrV (p q : WE) : WE := fun ρ P => p ρ fun d => match d with
  | .bool true => P (.bool true)
  | .bool false => q ρ P
  | _ => False
def wNotV (p : WE) : WE := fun ρ P => p ρ fun d => match d with
  | .bool b => P (.bool (!b))
  | _ => False
theorem x_one {op : PySem.BoolOp} (h : PX X a ta wa) : PX X (.BoolOp op [a] pos) ta wa := ⟨pe_one h.pe, h.ev⟩
theorem x_and (ha : PX X a ta wa) (hb : PX X (.BoolOp .And (b :: rest) pos) tb wb) : PX X (.BoolOp .And (a :: b :: rest) pos) (tAndV ta tb) (wAndV wa wb) := ⟨pe_and ha.pe hb.pe, fun G B H σ ρ P x w Q q =>
  ha.ev G B H σ ρ _ x w _ fun v d B1 H1 w1 g1 s1 h1 => by
    split at w1
    · cases h1
      refine ⟨true, rfl, ?_⟩
      rw [if_pos rfl]
      exact hb.ev G B1 H1 σ ρ P (x.step g1 s1) w1 Q fun v d B2 H2 w2 g2 s2 h2 => q v d B2 H2 w2 (g1.trans g2) s2 h2
    · cases h1
      refine ⟨false, rfl, ?_⟩
      rw [if_neg Bool.false_ne_true]
      exact q _ _ B1 H1 w1 g1 s1 (.bl _)
    · exact w1.elim⟩
theorem x_or (ha : PX X a ta wa) (hb : PX X (.BoolOp .Or (b :: rest) pos) tb wb) : PX X (.BoolOp .Or (a :: b :: rest) pos) (tOrV ta tb) (wOrV wa wb) := ⟨pe_or ha.pe hb.pe, fun G B H σ ρ P x w Q q =>
  ha.ev G B H σ ρ _ x w _ fun v d B1 H1 w1 g1 s1 h1 => by
    split at w1
    · cases h1
      refine ⟨true, rfl, ?_⟩
      rw [if_pos rfl]
      exact q _ _ B1 H1 w1 g1 s1 (.bl _)
    · cases h1
      refine ⟨false, rfl, ?_⟩
      rw [if_neg Bool.false_ne_true]
      exact hb.ev G B1 H1 σ ρ P (x.step g1 s1) w1 Q fun v d B2 H2 w2 g2 s2 h2 => q v d B2 H2 w2 (g1.trans g2) s2 h2
    · exact w1.elim⟩
theorem x_not (ha : PX X a ta wa) : PX X (.UnaryOp .Not a pos) (tNotV ta) (wNotV wa) := ⟨pe_not ha.pe, fun G B H σ ρ P x w Q q =>
  ha.ev G B H σ ρ _ x w _ fun v d B1 H1 w1 g1 s1 h1 => by
    split at w1
    · cases h1
      exact ⟨_, rfl, q _ _ B1 H1 w1 g1 s1 (.bl _)⟩
    · exact w1.elim⟩
/-- a if t else b -/
def wIf (t : WT) (wa wb : WE) : WE := fun ρ P => t ρ fun b => match b with
  | true => wa ρ P
  | false => wb ρ P
theorem x_if {c : Expr} (hc : PXT X c tt wt) (ha : PX X a ta wa) (hb : PX X b tb wb) : PX X (.IfExp c a b pos) (tIf tt ta tb) (wIf wt wa wb) := ⟨pe_ifExp hc.pe ha.pe hb.pe, fun G B H σ ρ P x w Q q =>
  hc.ev G B H σ ρ _ x w _ fun b B1 H1 w1 g1 s1 => by
    cases b with
    | true =>
      rw [if_pos rfl]
      exact ha.ev G B1 H1 σ ρ P (x.step g1 s1) w1 Q fun v d B2 H2 w2 g2 s2 h2 => q v d B2 H2 w2 (g1.trans g2) s2 h2
    | false =>
      rw [if_neg Bool.false_ne_true]
      exact hb.ev G B1 H1 σ ρ P (x.step g1 s1) w1 Q fun v d B2 H2 w2 g2 s2 h2 => q v d B2 H2 w2 (g1.trans g2) s2 h2⟩

/-! ### argument lists, displays -/
def wNil : WA := fun _ P => P []
def wCons (wa : WE) (wr : WA) : WA := fun ρ P => wa ρ fun d => wr ρ fun ds => P (d :: ds)
theorem xa_nil : PXA X [] 0 tNil wNil := ⟨pa_nil, fun G B H σ ρ P x w Q q => q [] [] B H rfl w (Go.refl x.bh) x.src .nil⟩
theorem xa_cons {e : Expr} {es : List Expr} {n : Nat} {te : TE} {tr : TA} {we : WE} {wr : WA} (ha : PX X e te we) (hr : PXA X es n tr wr) (hs : starEach (e :: es) X.env = (false, eval e X.env) :: starEach es X.env := by rfl) :
    PXA X (e :: es) (n + 1) (tCons te tr) (wCons we wr) := ⟨pa_cons ha.pe hr.pe hs, fun G B H σ ρ P x w Q q =>
  ha.ev G B H σ ρ _ x w _ fun v d B1 H1 w1 g1 s1 h1 => hr.ev G B1 H1 σ ρ _ (x.step g1 s1) w1 _ fun vs ds B2 H2 l w2 g2 s2 h2 =>
    q (v :: vs) (d :: ds) B2 H2 (by rw [List.length_cons, l]) w2 (g1.trans g2) s2 (.cons (h1.up g2.b) h2)⟩
def wTup (wa : WA) : WE := fun ρ P => wa ρ fun ds => P (.tuple ds)
theorem x_tup {es : List Expr} {n k : Nat} {ta : TA} {wa : WA} (ha : PXA X es n ta wa) (hn : n ≤ 100 := by decide) : PX X (.Tuple es k pos) (tTup ta) (wTup wa) := ⟨pe_tup ha.pe, fun G B H σ ρ P x w Q q =>
  ha.ev G B H σ ρ _ x w _ fun vs ds B1 H1 l w1 g1 s1 h1 => ⟨by rw [h1.len, l, sizeLine_eq]; omega, fun p hp =>
    q _ _ _ _ w1 (g1.trans (Go.add g1.bh hp)) (s1.add g1.bh hp) (.tup (.inl (.inl upd_same)) (h1.up (Go.add (S := G.S) (o := .tup vs) g1.bh hp).b))⟩⟩
/-- a list display: nobody's -/
def wLst (wa : WA) : WO := fun ρ P => wa ρ fun ds => P (.lst ds)
theorem o_lst {es : List Expr} {n : Nat} {ta : TA} {wa : WA} (ha : PXA X es n ta wa) (hn : n ≤ 100 := by decide) : PXO X (.List es pos) (tLst ta) (wLst wa) := ⟨pe_lst ha.pe, fun G B H σ ρ P x w Q q =>
  ha.ev G B H σ ρ _ x w _ fun vs ds B1 H1 l w1 g1 s1 h1 => ⟨by rw [h1.len, l, sizeLine_eq]; omega, fun p hp =>
    q p (.lst ds) B1 _ w1 (g1.trans (Go.own g1.bh hp)) (s1.own g1.bh hp) (g1.back hp) (by
      cases e : B1 p with
      | none => rfl
      | some u => rw [g1.bh p u e] at hp; cases hp) ⟨vs, upd_same, h1⟩⟩⟩
/-- a new list told for good -/
def frz (P : D → Prop) : Ow → Prop
  | .lst ds => P (.list ds)
  | _ => False
theorem Go.frz {S : SA} {B H B2 H2 : Hp} {p : Addr} {o : HO} (g : Go S B H B2 H2) (h0 : H p = Option.none) (hb : B2 p = Option.none) (h2 : H2 p = some o) : Go S B H (upd B2 p o) H2 where
  b := g.b.trans fun a u e => by rw [upd_ne (fun z => by rw [z, hb] at e; cases e)]; exact e
  bh := fun a u e => by
    by_cases z : a = p
    · subst z; rw [upd_same] at e; cases e; exact h2
    · rw [upd_ne z] at e; exact g.bh a u e
  keep := g.keep
  new := fun a u e z => by rw [upd_ne (ne_of_none e h0)]; exact g.new a u e z
  there := g.there
theorem ev_frz {K : PySem.W.Frag} {te : TE} {w : WO} (h : EvO K te w) : Ev K te (fun ρ P => w ρ (frz P)) := fun G B H σ ρ P x hw Q q =>
  h G B H σ ρ _ x hw Q fun p o B2 H2 w2 g2 s2 h0 hb ok => by
    cases o with
    | lst ds =>
      obtain ⟨vs, e, hd⟩ := ok
      have g3 := g2.frz h0 hb e
      have sb : Same B2 (upd B2 p (.lst vs)) := fun a u e => by rw [upd_ne (fun z => by rw [z, hb] at e; cases e)]; exact e
      refine q (.ref p) (.list ds) (upd B2 p (.lst vs)) H2 w2 g3 (fun s c es => ?_) (.lst (.inl (.inl upd_same)) (hd.up sb))
      obtain ⟨a1, a2, y, hy, a3, a4⟩ := s2 s c es
      obtain ⟨_, _, _, _, b3, b4⟩ := x.src s c es
      exact ⟨by rw [upd_ne (ne_of_none b3 h0)]; exact a1, by rw [upd_ne (ne_of_none b4 h0)]; exact a2, y, hy, a3, a4⟩
    | dk _ => exact (show False from w2).elim
    | dt _ => exact (show False from w2).elim
theorem x_frz {e : Expr} {te : TE} {w : WO} (h : PXO X e te w) : PX X e te (fun ρ P => w ρ (frz P)) := ⟨h.pe, ev_frz h.ev⟩
theorem x_lst {es : List Expr} {n : Nat} {ta : TA} {wa : WA} (ha : PXA X es n ta wa) (hn : n ≤ 100 := by decide) : PX X (.List es pos) (tLst ta) (fun ρ P => wLst wa ρ (frz P)) := x_frz (o_lst ha hn)
end
/-- a name's own list, read within an expression whose value holds no list -/
def frzAt (i : Nat) (ρ : Env) : Env := match ρ[i]? with
  | some (.own (.lst ds)) => ρ.set i (.dat (.list ds))
  | _ => ρ
def wBor (i : Nat) (w : WE) : WE := fun ρ P => w (frzAt i ρ) fun d => imm d = true ∧ P d
theorem ev_bor {K : PySem.W.Frag} {te : TE} {w : WE} (i : Nat) (h : Ev K te w) : Ev K te (wBor i w) := fun G B H σ ρ P x hw Q q => by
  unfold wBor frzAt at hw
  split at hw
  · rename_i ds hi
    obtain ⟨p, vs, e1, hp, hb, x'⟩ := x.freeze hi
    refine h G _ H σ _ _ x' hw Q fun v d B2 H2 w2 g2 s2 h2 => ?_
    have pb : B2 p = some (.lst vs) := g2.b p _ upd_same
    obtain ⟨q1, q2⟩ := w2
    have np : ∀ a u, B a = some u → a ≠ p := fun a u e z => by rw [z, hb] at e; cases e
    refine q v d (cutA B2 p) H2 q2 ⟨fun a u e => ?_, cutA_same.trans g2.bh, g2.keep, fun a u e n => ?_, g2.there⟩ (fun s c es => ?_) (dp_cut pb d v q1 h2)
    · rw [cutA_ne (np a u e)]
      exact g2.b a u (by rw [upd_ne (np a u e)]; exact e)
    · by_cases z : a = p
      · rw [z, cutA_self]
      · rw [cutA_ne z]
        exact g2.new a u e (by rw [upd_ne z]; exact n)
    · obtain ⟨a1, a2, y, hy, a3, a4⟩ := s2 s c es
      refine ⟨?_, ?_, y, hy, a3, a4⟩
      · by_cases z : s = p
        · rw [z, cutA_self]
        · rw [cutA_ne z]; exact a1
      · by_cases z : c = p
        · rw [z, cutA_self]
        · rw [cutA_ne z]; exact a2
  · exact h G B H σ ρ _ x hw Q fun v d B2 H2 w2 g2 s2 h2 => q v d B2 H2 w2.2 g2 s2 h2
theorem x_bor (i : Nat) {e : Expr} {te : TE} {w : WE} (h : PX X e te w) : PX X e te (wBor i w) := ⟨h.pe, ev_bor i h.ev⟩
end
end PL
/-! Layer P, part 2: places, slices, calls, built-ins. -/
namespace PL
open PySem L2

/-! ### places -/
/-- the item at an index of either sign -/
def ixD {α : Type} (xs : List α) : Int → Option α
  | .ofNat n => xs[n]?
  | .negSucc n => if n < xs.length then xs[xs.length - 1 - n]? else none
theorem ixD_at {α : Type} (xs : List α) (i : Int) : atI xs i = ixD xs i := by
  unfold atI ixN
  cases i with
  | ofNat n =>
    rw [if_pos (by simp)]
    show Option.bind (if (n : Int) < xs.length then some n else none) (fun j => xs[j]?) = xs[n]?
    by_cases h : n < xs.length
    · rw [if_pos (by omega)]; rfl
    · rw [if_neg (by omega), List.getElem?_eq_none (by omega)]; rfl
  | negSucc n =>
    rw [if_neg (by omega)]
    show Option.bind _ _ = if n < xs.length then xs[xs.length - 1 - n]? else none
    by_cases h : n < xs.length
    · rw [if_pos (by omega), if_pos h]
      show xs[(Int.negSucc n + (xs.length : Int)).toNat]? = _
      congr 1
      omega
    · rw [if_neg (by omega), if_neg h]; rfl
theorem ixD_nat {α : Type} {xs : List α} {i : Int} {n : Nat} (h : i = (n : Int)) : ixD xs i = xs[n]? := by subst h; rfl
def fIx : D → D → (D → Prop) → Prop := fun a b P => match a, b with
  | .list ds, .int i => ∃ d, ixD ds i = some d ∧ P d
  | .tuple ds, .int i => ∃ d, ixD ds i = some d ∧ P d
  | .str z, .int i => ∃ c, z.length ≤ sizeLine ∧ ixD z.cps.toList i = some c ∧ P (.str ⟨#[c]⟩)
  | _, _ => False
theorem _root_.L2.DpAll.ix {K : PySem.W.Frag} {B : Hp} {vs : List V} {ds : List PyData} {i : Int} {d : PyData} (h : DpAll K B vs ds) (e : ixD ds i = some d) : ∃ v, atI vs i = some v ∧ Dp K B v d := by
  cases i with
  | ofNat n =>
    obtain ⟨v, h1, h2⟩ := h.at (i := n) (d := d) e
    exact ⟨v, (ixD_at vs _).trans h1, h2⟩
  | negSucc n =>
    have e' : (if n < ds.length then ds[ds.length - 1 - n]? else none) = some d := e
    by_cases hn : n < ds.length
    · rw [if_pos hn] at e'
      obtain ⟨v, h1, h2⟩ := h.at e'
      refine ⟨v, (ixD_at vs _).trans ?_, h2⟩
      show (if n < vs.length then vs[vs.length - 1 - n]? else none) = some v
      rw [h.len, if_pos hn]
      exact h1
    · rw [if_neg hn] at e'; cases e'
theorem rel_ix {K : PySem.W.Frag} : RelD K (rIx K) fIx := fun S B H x y a b P s h ha hb w Q q => by
  unfold fIx at w
  split at w
  · cases hb
    cases ha with
    | lst hs hd =>
      obtain ⟨d, e, p⟩ := w
      obtain ⟨v, e1, e2⟩ := hd.ix e
      exact .inl ⟨_, _, _, v, rfl, rfl, sqL_same h hs, e1, pure_rel s h q p e2⟩
  · cases hb
    cases ha with
    | tup hs hd =>
      obtain ⟨d, e, p⟩ := w
      obtain ⟨v, e1, e2⟩ := hd.ix e
      exact .inr (.inl ⟨_, _, _, v, rfl, rfl, sqT_same h hs, e1, pure_rel s h q p e2⟩)
  · cases hb
    cases ha
    obtain ⟨c, hz, e, p⟩ := w
    exact .inr (.inr ⟨_, _, c, rfl, rfl, hz, (ixD_at _ _).trans e, pure_rel s h q p (.str _)⟩)
  · exact w.elim
section
variable {X : Cx} {pos : Pos} {a b e : Expr} {ta tb te : TE} {wa wb we : WE}
theorem x_ix (ha : PX X a ta wa) (hb : PX X b tb wb) (hs : PlainIx b := by exact fun _ _ => rfl) : PX X (.Subscript a b pos) (tOp (rIx X.K) ta tb) (w2 fIx wa wb) := ⟨pe_ix ix_seq ha.pe hb.pe hs, ev_op rel_ix ha.ev hb.ev⟩

/-! ### slices -/
def wNP : WP := fun _ P => P none
def wPt (wa : WE) : WP := fun ρ P => wa ρ fun d => match d with
  | .int i => P (some i)
  | _ => False
theorem xp_none : PXP X none tNoPart wNP := ⟨po_none, fun G B H σ ρ P x w Q q => q none B H w (Go.refl x.bh) x.src⟩
theorem xp_some (ha : PX X a ta wa) : PXP X (some a) (tPart ta) (wPt wa) := ⟨po_some ha.pe, fun G B H σ ρ P x w Q q =>
  ha.ev G B H σ ρ _ x w _ fun v d B1 H1 w1 g1 s1 h1 => by
    split at w1
    · cases h1
      exact ⟨_, rfl, q _ B1 H1 w1 g1 s1⟩
    · exact w1.elim⟩
def cutD {α : Type} (ds : List α) (lo hi : Option Int) : List α := (ds.drop (HT.sIx ds.length 0 lo)).take (HT.sIx ds.length ds.length hi - HT.sIx ds.length 0 lo)
theorem cutD_whole {α : Type} {ds : List α} {lo hi : Option Int} (h : HT.sIx ds.length 0 lo = 0 ∧ HT.sIx ds.length ds.length hi = ds.length) : cutD ds lo hi = ds := by
  unfold cutD
  rw [h.1, h.2]
  simp
/-- a slice of a tuple -/
def wSlT (wa : WE) (wl wh : WP) : WE := fun ρ P => wa ρ fun d => wl ρ fun lo => wh ρ fun hi => match d with
  | .tuple ds => P (.tuple (cutD ds lo hi))
  | _ => False
variable {lo hi : Option Expr} {tl th : TO} {wl wh : WP} {p2 : Pos}
theorem x_slT (ha : PX X e te we) (hl : PXP X lo tl wl) (hh : PXP X hi th wh) : PX X (.Subscript e (.Slice lo hi none p2) pos) (tSl (rSlA X.K) te tl th) (wSlT we wl wh) := ⟨pe_slice sl_tupA ha.pe hl.pe hh.pe, fun G B H σ ρ P x w Q q =>
  ha.ev G B H σ ρ _ x w _ fun v d B1 H1 w1 g1 s1 h1 => hl.ev G B1 H1 σ ρ _ (x.step g1 s1) w1 _ fun l B2 H2 w2 g2 s2 => hh.ev G B2 H2 σ ρ _ ((x.step g1 s1).step g2 s2) w2 _ fun u B3 H3 w3 g3 s3 => by
    have h3 := (h1.up g2.b).up g3.b
    have gg := (g1.trans g2).trans g3
    split at w3
    · rename_i ds
      cases h3 with
      | tup hs hd =>
        rename_i p xs
        refine ⟨_, xs, rfl, sqT_same g3.bh hs, fun hw => ?_, fun hw r hr => ?_⟩
        · rw [hd.len] at hw
          exact q _ _ B3 H3 (by rw [cutD_whole hw] at w3; exact w3) gg s3 (.tup hs hd)
        · have ga : Go G.S B3 H3 (upd B3 r (.tup (cutV xs l u))) (upd H3 r (.tup (cutV xs l u))) := Go.add g3.bh hr
          exact q _ _ _ _ w3 (gg.trans ga) (s3.add g3.bh hr) (.tup (.inl (.inl upd_same)) ((hd.cut l u).up ga.b))
    · exact w3.elim⟩
/-- a slice of a list: a new list -/
def wSlL (wa : WE) (wl wh : WP) : WO := fun ρ P => wa ρ fun d => wl ρ fun lo => wh ρ fun hi => match d with
  | .list ds => P (.lst (cutD ds lo hi))
  | _ => False
theorem none_back {B H : Hp} {p : Addr} (h : Same B H) (n : H p = none) : B p = none := by
  cases e : B p with
  | none => rfl
  | some u => rw [h p u e] at n; cases n
theorem o_slL (ha : PX X e te we) (hl : PXP X lo tl wl) (hh : PXP X hi th wh) : PXO X (.Subscript e (.Slice lo hi none p2) pos) (tSl (rSlL X.K) te tl th) (wSlL we wl wh) := ⟨pe_slice sl_list ha.pe hl.pe hh.pe, fun G B H σ ρ P x w Q q =>
  ha.ev G B H σ ρ _ x w _ fun v d B1 H1 w1 g1 s1 h1 => hl.ev G B1 H1 σ ρ _ (x.step g1 s1) w1 _ fun l B2 H2 w2 g2 s2 => hh.ev G B2 H2 σ ρ _ ((x.step g1 s1).step g2 s2) w2 _ fun u B3 H3 w3 g3 s3 => by
    have h3 := (h1.up g2.b).up g3.b
    have gg := (g1.trans g2).trans g3
    split at w3
    · rename_i ds
      cases h3 with
      | lst hs hd =>
        rename_i p xs
        refine ⟨_, xs, rfl, sqL_same g3.bh hs, fun r hr => ?_⟩
        exact q r _ B3 _ w3 (gg.trans (Go.own g3.bh hr)) (s3.own g3.bh hr) (gg.back hr) (none_back g3.bh hr) ⟨_, upd_same, hd.cut l u⟩
    · exact w3.elim⟩
theorem x_slL (ha : PX X e te we) (hl : PXP X lo tl wl) (hh : PXP X hi th wh) : PX X (.Subscript e (.Slice lo hi none p2) pos) (tSl (rSlL X.K) te tl th) (fun ρ P => wSlL we wl wh ρ (frz P)) := x_frz (o_slL ha hl hh)
/-- xs[::-1] of a list: a new list -/
def wRevL (wa : WE) : WO := fun ρ P => wa ρ fun d => match d with
  | .list ds => P (.lst ds.reverse)
  | _ => False
theorem o_revL {k : Nat} {p1 p3 : Pos} (ha : PX X e te we) : PXO X (.Subscript e (.Slice none none (some (.UnaryOp .USub (.Constant (.int 1) k p1) p2)) p3) pos) (tRevL X.K te) (wRevL we) := ⟨pe_revL ha.pe, fun G B H σ ρ P x w Q q =>
  ha.ev G B H σ ρ _ x w _ fun v d B1 H1 w1 g1 s1 h1 => by
    split at w1
    · cases h1 with
      | lst hs hd => exact ⟨_, _, rfl, sqL_same g1.bh hs, fun r hr => q r _ B1 _ w1 (g1.trans (Go.own g1.bh hr)) (s1.own g1.bh hr) (g1.back hr) (none_back g1.bh hr) ⟨_, upd_same, hd.rev⟩⟩
    · exact w1.elim⟩
theorem x_revL {k : Nat} {p1 p3 : Pos} (ha : PX X e te we) : PX X (.Subscript e (.Slice none none (some (.UnaryOp .USub (.Constant (.int 1) k p1) p2)) p3) pos) (tRevL X.K te) (fun ρ P => wRevL we ρ (frz P)) := x_frz (o_revL ha)

/-! ### list + list, tuple + tuple, list * int -/
def fCatT : D → D → (D → Prop) → Prop := fun a b P => match a, b with
  | .tuple xs, .tuple ys => xs.length + ys.length ≤ 10000000 ∧ P (.tuple (xs ++ ys))
  | _, _ => False
theorem rel_catT {K : PySem.W.Frag} : RelD K (rCatA K) fCatT := fun S B H x y a b P s h ha hb w Q q => by
  unfold fCatT at w
  split at w
  · cases ha with
    | tup hs hd =>
      cases hb with
      | tup hs' hd' =>
        rename_i p1 xs q1 ys
        refine ⟨_, _, xs, ys, rfl, rfl, sqT_same h hs, sqT_same h hs', ?_, fun e => ?_, fun n e => ?_, fun n n' r hr => ?_⟩
        · rw [hd.len, hd'.len, sizeLine_eq]; omega
        · subst e
          cases hd
          exact pure_rel s h q w.2 (.tup hs' hd')
        · subst e
          cases hd'
          refine pure_rel s h q (d := .tuple _) ?_ (.tup hs hd)
          have w2 := w.2
          rwa [List.append_nil] at w2
        · exact q _ _ _ _ w.2 (Go.add h hr) (s.add h hr) (.tup (.inl (.inl upd_same)) ((hd.app hd').up (Go.add (S := S) (o := .tup (xs ++ ys)) h hr).b))
  · exact w.elim
theorem x_catT (ha : PX X a ta wa) (hb : PX X b tb wb) : PX X (.BinOp a .Add b pos) (tOp (rCatA X.K) ta tb) (w2 fCatT wa wb) := x_op op_catA rel_catT ha hb
/-- a place that is a list told for good, as it stands in the heap -/
theorem lst_at {K : PySem.W.Frag} {B H : Hp} {v : V} {ds : List D} (h : Same B H) (x : Dp K B v (.list ds)) : ∃ p vs, v = .ref p ∧ SqL K H p vs ∧ DpAll K B vs ds := by
  cases x with
  | lst hs hd => exact ⟨_, _, rfl, sqL_same h hs, hd⟩

/-! ### calls of defs -/
/-- the source's arguments -/
def srcA (b : Bool) (S : SA) : List V := match b, S with
  | true, some (s, _) => [.ref s]
  | _, _ => []
/-- a def's promise by data: w: from the arguments what it hands back -/
def spP (K : PySem.W.Frag) (b : Bool) (n : Nat) (wf : List D → (D → Prop) → Prop) : Sp := fun vs H Q _ => ∃ (S : SA) (B : Hp) (us : List V) (ds : List D) (P : D → Prop),
  (b = true → S.isSome = true) ∧ SrcOk S B H ∧ Same B H ∧ vs = srcA b S ++ us ∧ ds.length = n ∧ DpAll K B us ds ∧ wf ds P ∧
    ∀ v d B2 H2, P d → Go S B H B2 H2 → SrcOk S B2 H2 → Dp K B2 v d → Q v H2
def FnP (P : Program) (w : World) (K : PySem.W.Frag) (mg : Str → Option Value) (base : Heap) (k : Nat) (f : Addr) (fd : FuncData) (ps : List Str) (b : Bool) (n : Nat) (wf : List D → (D → Prop) → Prop) : Prop :=
  FnOk P w K mg base CX0 k f fd ps (spP K b n wf)
/-- a def that the module's name x holds, and its promise -/
structure DefP (P : Program) (w : World) (K : PySem.W.Frag) (mg : Str → Option Value) (base : Heap) (k : Nat) (x : Str) (b : Bool) (n : Nat) (wf : List D → (D → Prop) → Prop) : Prop where
  on : ∃ (f : Addr) (fd : FuncData) (ps : List Str), FnP P w K mg base k f fd ps b n wf ∧ mg x = some (.ref f) ∧ PySem.W.keepIn K (.ref f) = true ∧ Binds K fd ps []
def wCall (wf : List D → (D → Prop) → Prop) (wa : WA) : WE := fun ρ P => wa ρ fun ds => wf ds P
theorem ev_call {K : PySem.W.Frag} {n : Nat} {wf : List D → (D → Prop) → Prop} {tA : TA} {wA : WA} {E : XK} (h : EvA K n tA wA) : Ev K (tCall (spP K false n wf) [] E tA) (wCall wf wA) := fun G B H σ ρ P x w Q q =>
  h G B H σ ρ _ x w _ fun vs ds B1 H1 l w1 g1 s1 h1 => ⟨G.S, B1, vs, ds, P, (fun z => nomatch z), s1, g1.bh, by simp [srcA], l, h1, w1, fun v d B2 H2 p g2 s2 h2 => q v d B2 H2 p (g1.trans g2) s2 h2⟩
/-- f(source, ..) -/
def wCallS (i : Nat) (wf : List D → (D → Prop) → Prop) (wa : WA) : WE := fun ρ P => match ρ[i]? with
  | some .src => wa ρ fun ds => wf ds P
  | _ => False
theorem ev_callS {K : PySem.W.Frag} {i n : Nat} {wf : List D → (D → Prop) → Prop} {tA : TA} {wA : WA} {E : XK} (h : EvA K n tA wA) : Ev K (tCall (spP K true n wf) [] E (tCons (tVar i) tA)) (wCallS i wf wA) := fun G B H σ ρ P x w Q q => by
  unfold wCallS at w
  split at w
  · rename_i hi
    obtain ⟨s, c, es, hs⟩ := x.getSrc hi
    refine ⟨_, hs, ?_⟩
    exact h G B H σ ρ _ x w _ fun vs ds B1 H1 l w1 g1 s1 h1 => ⟨G.S, B1, vs, ds, P, fun _ => by rw [es]; rfl, s1, g1.bh, by simp [srcA, es], l, h1, w1, fun v d B2 H2 p g2 s2 h2 => q v d B2 H2 p (g1.trans g2) s2 h2⟩
  · exact w.elim
variable {k n : Nat} {x : Str} {p : Pos} {es : List Expr} {wf : List D → (D → Prop) → Prop} {tA : TA} {wA : WA}
theorem x_call (F : DefP X.prog X.w X.K X.mg X.base k x false n wf) (hr : Room k X.A) (ha : PXA X (e :: es) n tA wA) (hg : Gl X x := by rfl) (hdb : (x == ("__debug__" : Str)) = false := by decide)
    (he : starEach (e :: es) X.env = (false, eval e X.env) :: starEach es X.env := by rfl) (hpl : (backTo pos (starEach es X.env)).any (·.1) = false := by rfl) :
    PX X (.Call (.Name x p) (e :: es) [] pos) (tCall (spP X.K false n wf) [] E0 tA) (wCall wf wA) :=
  let ⟨_, _, _, G, hm, hk, hb⟩ := F.on
  ⟨pe_call G hr hg hm hk hb .nil pass0 ha.pe hdb he hpl, ev_call ha.ev⟩
theorem x_call0 (F : DefP X.prog X.w X.K X.mg X.base k x false 0 wf) (hr : Room k X.A) (hg : Gl X x := by rfl) (hdb : (x == ("__debug__" : Str)) = false := by decide) :
    PX X (.Call (.Name x p) [] [] pos) (tCall (spP X.K false 0 wf) [] E0 tNil) (wCall wf wNil) :=
  let ⟨_, _, _, G, hm, hk, hb⟩ := F.on
  ⟨pe_call0 G hr hg hm hk hb .nil pass0 hdb, ev_call (xa_nil (X := X)).ev⟩
theorem x_callS {ps : Pos} {y : Str} (i : Nat) (F : DefP X.prog X.w X.K X.mg X.base k x true n wf) (hr : Room k X.A) (hi : PE X (.Name y ps) (tVar i)) (ha : PXA X es n tA wA) (hg : Gl X x := by rfl) (hdb : (x == ("__debug__" : Str)) = false := by decide)
    (he : starEach (.Name y ps :: es) X.env = (false, eval (.Name y ps) X.env) :: starEach es X.env := by rfl) (hpl : (backTo pos (starEach es X.env)).any (·.1) = false := by rfl) :
    PX X (.Call (.Name x p) (.Name y ps :: es) [] pos) (tCall (spP X.K true n wf) [] E0 (tCons (tVar i) tA)) (wCallS i wf wA) :=
  let ⟨_, _, _, G, hm, hk, hb⟩ := F.on
  ⟨pe_call G hr hg hm hk hb .nil pass0 (pa_cons hi ha.pe he) hdb he hpl, ev_callS ha.ev⟩

/-! ### built-ins -/
/-- r does f -/
def RelB (K : PySem.W.Frag) (r : List V → Hp → VK → Prop) (f : List D → (D → Prop) → Prop) : Prop := ∀ (S : SA) (B H : Hp) (vs : List V) (ds : List D) (P : D → Prop), SrcOk S B H → Same B H → DpAll K B vs ds → f ds P →
  ∀ Q : VK, (∀ v d B2 H2, P d → Go S B H B2 H2 → SrcOk S B2 H2 → Dp K B2 v d → Q v H2) → r vs H Q
theorem ev_cb {K : PySem.W.Frag} {r : List V → Hp → VK → Prop} {f : List D → (D → Prop) → Prop} (hr : RelB K r f) (h : EvA K n tA wA) : Ev K (tCB r tA) (wCall f wA) := fun G B H σ ρ P x w Q q =>
  h G B H σ ρ _ x w _ fun vs ds B1 H1 l w1 g1 s1 h1 => hr G.S B1 H1 vs ds P s1 g1.bh h1 w1 Q fun v d B2 H2 p g2 s2 h2 => q v d B2 H2 p (g1.trans g2) s2 h2
theorem x_cb {id : String} {r : List V → Hp → VK → Prop} {f : List D → (D → Prop) → Prop} (hr : RelB X.K r f) (hc : CallR X (.builtin id) r) (hm : X.mg x = none) (hv : bootBuiltins x = some (.builtin id)) (ha : PXA X (e :: es) n tA wA) (hg : Gl X x := by rfl) (hn : x ≠ "__name__" := by decide) (hdb : (x == ("__debug__" : Str)) = false := by decide)
    (he : starEach (e :: es) X.env = (false, eval e X.env) :: starEach es X.env := by rfl) (hpl : (backTo pos (starEach es X.env)).any (·.1) = false := by rfl) : PX X (.Call (.Name x p) (e :: es) [] pos) (tCB r tA) (wCall f wA) :=
  ⟨pe_callB hc hg hm hv ha.pe hn hdb he hpl, ev_cb hr ha.ev⟩
theorem x_cty {T : String} {r : List V → Hp → VK → Prop} {f : List D → (D → Prop) → Prop} (hr : RelB X.K r f) (hc : CallR X (.type T) r) (hm : X.mg x = none) (hv : bootBuiltins x = some (.type T)) (ha : PXA X (e :: es) n tA wA) (hg : Gl X x := by rfl) (hn : x ≠ "__name__" := by decide) (hdb : (x == ("__debug__" : Str)) = false := by decide)
    (he : starEach (e :: es) X.env = (false, eval e X.env) :: starEach es X.env := by rfl) (hpl : (backTo pos (starEach es X.env)).any (·.1) = false := by rfl) : PX X (.Call (.Name x p) (e :: es) [] pos) (tCB r tA) (wCall f wA) :=
  ⟨pe_callTy hc hg hm hv ha.pe hn hdb he hpl, ev_cb hr ha.ev⟩
theorem pure_relB {K : PySem.W.Frag} {S : SA} {B H : Hp} {P : D → Prop} {Q : VK} {v : V} {d : D} (s : SrcOk S B H) (h : Same B H) (q : ∀ v d B2 H2, P d → Go S B H B2 H2 → SrcOk S B2 H2 → Dp K B2 v d → Q v H2) (p : P d) (hd : Dp K B v d) : Q v H :=
  q v d B H p (Go.refl h) s hd
def f1I (g : Int → D) : List D → (D → Prop) → Prop := fun ds P => match ds with
  | [.int i] => P (g i)
  | _ => False
def f2I (g : Int → Int → D) : List D → (D → Prop) → Prop := fun ds P => match ds with
  | [.int i, .int j] => P (g i j)
  | _ => False
/-- abs -/
def absI (i : Int) : Int := if i < 0 then -i else i
theorem rel_abs {K : PySem.W.Frag} : RelB K (fun xs H Q => ∃ i, xs = [.int i] ∧ Q (.int (if i < 0 then -i else i)) H) (f1I fun i => .int (absI i)) := fun S B H vs ds P s h hd w Q q => by
  unfold f1I at w
  split at w
  · cases hd with
    | cons h1 t => cases t; cases h1; exact ⟨_, rfl, pure_relB s h q w (.int _)⟩
  · exact w.elim
theorem x_abs (hm : X.mg "abs" = none) (ha : PXA X [e] n tA wA) (hg : Gl X "abs" := by rfl) (he : starEach [e] X.env = (false, eval e X.env) :: starEach [] X.env := by rfl) (hpl : (backTo pos (starEach [] X.env)).any (·.1) = false := by rfl) :
    PX X (.Call (.Name "abs" p) [e] [] pos) (tCB (fun xs H Q => ∃ i, xs = [.int i] ∧ Q (.int (if i < 0 then -i else i)) H) tA) (wCall (f1I fun i => .int (absI i)) wA) := x_cb rel_abs call_abs hm (by decide +kernel) ha hg (by decide) (by decide) he hpl
theorem rel_max2 {K : PySem.W.Frag} : RelB K (fun xs H Q => ∃ i j, xs = [.int i, .int j] ∧ Q (.int (if j > i then j else i)) H) (f2I fun i j => .int (max i j)) := fun S B H vs ds P s h hd w Q q => by
  unfold f2I at w
  split at w
  · rename_i i j
    cases hd with
    | cons h1 t =>
      cases t with
      | cons h2 t =>
        cases t; cases h1; cases h2
        have e : (if j > i then j else i) = max i j := by
          by_cases h : j > i
          · rw [if_pos h]; omega
          · rw [if_neg h]; omega
        exact ⟨_, _, rfl, by rw [e]; exact pure_relB s h q w (.int _)⟩
  · exact w.elim
theorem rel_min2 {K : PySem.W.Frag} : RelB K (fun xs H Q => ∃ i j, xs = [.int i, .int j] ∧ Q (.int (if j < i then j else i)) H) (f2I fun i j => .int (min i j)) := fun S B H vs ds P s h hd w Q q => by
  unfold f2I at w
  split at w
  · rename_i i j
    cases hd with
    | cons h1 t =>
      cases t with
      | cons h2 t =>
        cases t; cases h1; cases h2
        have e : (if j < i then j else i) = min i j := by
          by_cases h : j < i
          · rw [if_pos h]; omega
          · rw [if_neg h]; omega
        exact ⟨_, _, rfl, by rw [e]; exact pure_relB s h q w (.int _)⟩
  · exact w.elim
theorem x_max2 {e2 : Expr} (hm : X.mg "max" = none) (ha : PXA X [e, e2] n tA wA) (hc : X.calm = true := by rfl) (hg : Gl X "max" := by rfl) (he : starEach [e, e2] X.env = (false, eval e X.env) :: starEach [e2] X.env := by rfl) (hpl : (backTo pos (starEach [e2] X.env)).any (·.1) = false := by rfl) :
    PX X (.Call (.Name "max" p) [e, e2] [] pos) (tCB (fun xs H Q => ∃ i j, xs = [.int i, .int j] ∧ Q (.int (if j > i then j else i)) H) tA) (wCall (f2I fun i j => .int (max i j)) wA) := x_cb rel_max2 (call_max2 hc) hm (by decide +kernel) ha hg (by decide) (by decide) he hpl
theorem x_min2 {e2 : Expr} (hm : X.mg "min" = none) (ha : PXA X [e, e2] n tA wA) (hc : X.calm = true := by rfl) (hg : Gl X "min" := by rfl) (he : starEach [e, e2] X.env = (false, eval e X.env) :: starEach [e2] X.env := by rfl) (hpl : (backTo pos (starEach [e2] X.env)).any (·.1) = false := by rfl) :
    PX X (.Call (.Name "min" p) [e, e2] [] pos) (tCB (fun xs H Q => ∃ i j, xs = [.int i, .int j] ∧ Q (.int (if j < i then j else i)) H) tA) (wCall (f2I fun i j => .int (min i j)) wA) := x_cb rel_min2 (call_min2 hc) hm (by decide +kernel) ha hg (by decide) (by decide) he hpl
theorem rel_int1 {K : PySem.W.Frag} : RelB K (fun xs H Q => (∃ i, xs = [.int i] ∧ Q (.int i) H) ∨ ∃ k, xs = [.bl k] ∧ Q (.int (if k then 1 else 0)) H) (f1I fun i => .int i) := fun S B H vs ds P s h hd w Q q => by
  unfold f1I at w
  split at w
  · cases hd with
    | cons h1 t => cases t; cases h1; exact .inl ⟨_, rfl, pure_relB s h q w (.int _)⟩
  · exact w.elim
theorem x_int1 (hm : X.mg "int" = none) (ha : PXA X [e] n tA wA) (hg : Gl X "int" := by rfl) (he : starEach [e] X.env = (false, eval e X.env) :: starEach [] X.env := by rfl) (hpl : (backTo pos (starEach [] X.env)).any (·.1) = false := by rfl) :
    PX X (.Call (.Name "int" p) [e] [] pos) (tCB (fun xs H Q => (∃ i, xs = [.int i] ∧ Q (.int i) H) ∨ ∃ k, xs = [.bl k] ∧ Q (.int (if k then 1 else 0)) H) tA) (wCall (f1I fun i => .int i) wA) := x_cty rel_int1 call_int1 hm (by decide +kernel) ha hg (by decide) (by decide) he hpl
/-- math.gcd -/
theorem rel_gcd {K : PySem.W.Frag} : RelB K rGcd (f2I fun i j => .int ((Nat.gcd i.natAbs j.natAbs : Nat) : Int)) := fun S B H vs ds P s h hd w Q q => by
  unfold f2I at w
  split at w
  · cases hd with
    | cons h1 t =>
      cases t with
      | cons h2 t =>
        cases t; cases h1; cases h2
        exact ⟨_, _, rfl, pure_relB s h q w (.int _)⟩
  · exact w.elim
theorem x_gcd {e2 : Expr} (hm : X.mg "gcd" = some (.builtin "math.gcd")) (ha : PXA X [e, e2] n tA wA) (hg : Gl X "gcd" := by rfl) (he : starEach [e, e2] X.env = (false, eval e X.env) :: starEach [e2] X.env := by rfl) (hpl : (backTo pos (starEach [e2] X.env)).any (·.1) = false := by rfl) :
    PX X (.Call (.Name "gcd" p) [e, e2] [] pos) (tCB rGcd tA) (wCall (f2I fun i j => .int ((Nat.gcd i.natAbs j.natAbs : Nat) : Int)) wA) := ⟨pe_callBfun cr_gcd hg hm ha.pe (by decide) he hpl, ev_cb rel_gcd ha.ev⟩
/-- len -/
def fLen : List D → (D → Prop) → Prop := fun ds P => match ds with
  | [.list xs] => P (.int xs.length)
  | [.tuple xs] => P (.int xs.length)
  | [.str z] => z.length ≤ sizeLine ∧ P (.int z.length)
  | _ => False
def rLen (K : PySem.W.Frag) : List V → Hp → VK → Prop := fun xs H Q => ∃ x n, xs = [x] ∧ LenV K x H n ∧ Q (.int n) H
theorem rel_len {K : PySem.W.Frag} : RelB K (rLen K) fLen := fun S B H vs ds P s h hd w Q q => by
  unfold fLen at w
  split at w
  · cases hd with
    | cons h1 t =>
      cases t
      cases h1 with
      | lst hs ha => exact ⟨_, _, rfl, .inl ⟨_, sqL_same h hs, ha.len.symm⟩, pure_relB s h q w (.int _)⟩
  · cases hd with
    | cons h1 t =>
      cases t
      cases h1 with
      | tup hs ha => exact ⟨_, _, rfl, .inr ⟨_, sqT_same h hs, ha.len.symm⟩, pure_relB s h q w (.int _)⟩
  · cases hd with
    | cons h1 t =>
      cases t
      cases h1
      exact ⟨_, _, rfl, ⟨w.1, rfl⟩, pure_relB s h q w.2 (.int _)⟩
  · exact w.elim
theorem x_len (hm : X.mg "len" = none) (ha : PXA X [e] n tA wA) (hg : Gl X "len" := by rfl) (he : starEach [e] X.env = (false, eval e X.env) :: starEach [] X.env := by rfl) (hpl : (backTo pos (starEach [] X.env)).any (·.1) = false := by rfl) :
    PX X (.Call (.Name "len" p) [e] [] pos) (tCB (rLen X.K) tA) (wCall fLen wA) := x_cb rel_len call_len hm (by decide +kernel) ha hg (by decide) (by decide) he hpl
/-- str of a whole number -/
def fStr : List D → (D → Prop) → Prop := fun ds P => match ds with
  | [.int i] => i.natAbs.log2 < 1920 ∧ P (.str (toString i : String))
  | _ => False
def rStr : List V → Hp → VK → Prop := fun xs H Q => ∃ i : Int, xs = [.int i] ∧ i.natAbs.log2 < 1920 ∧ Q (.str (toString i : String)) H
theorem call_str1 : CallR X (.type "str") rStr := fun pins s σ H vs us Q I r h => call_str_int pins s σ H vs us Q I r h
theorem rel_str {K : PySem.W.Frag} : RelB K rStr fStr := fun S B H vs ds P s h hd w Q q => by
  unfold fStr at w
  split at w
  · cases hd with
    | cons h1 t => cases t; cases h1; exact ⟨_, rfl, w.1, pure_relB s h q w.2 (.str _)⟩
  · exact w.elim
theorem x_strI (hm : X.mg "str" = none) (ha : PXA X [e] n tA wA) (hg : Gl X "str" := by rfl) (he : starEach [e] X.env = (false, eval e X.env) :: starEach [] X.env := by rfl) (hpl : (backTo pos (starEach [] X.env)).any (·.1) = false := by rfl) :
    PX X (.Call (.Name "str" p) [e] [] pos) (tCB rStr tA) (wCall fStr wA) := x_cty rel_str call_str1 hm (by decide +kernel) ha hg (by decide) (by decide) he hpl
/-- tuple(x) of a list or tuple -/
def wTupOf (wa : WE) : WE := fun ρ P => wa ρ fun d => match d with
  | .list xs => P (.tuple xs)
  | .tuple xs => P (.tuple xs)
  | _ => False
theorem x_tupOf (hm : X.mg "tuple" = none) (ha : PX X e te we) (hg : Gl X "tuple" := by rfl) (na : starEach [e] X.env = (false, eval e X.env) :: starEach [] X.env := by rfl) : PX X (.Call (.Name "tuple" p) [e] [] pos) (tThen te (kTup X.K)) (wTupOf we) := ⟨pe_tupleOf hg hm ha.pe na, fun G B H σ ρ P x w Q q =>
  ha.ev G B H σ ρ _ x w _ fun v d B1 H1 w1 g1 s1 h1 => by
    split at w1
    · cases h1 with
      | lst hs hd =>
        rename_i a ys
        refine .inl ⟨_, ys, rfl, sqL_same g1.bh hs, fun r hr => ?_⟩
        have ga : Go G.S B1 H1 (upd B1 r (.tup ys)) (upd H1 r (.tup ys)) := Go.add g1.bh hr
        exact q _ _ _ _ w1 (g1.trans ga) (s1.add g1.bh hr) (.tup (.inl (.inl upd_same)) (hd.up ga.b))
    · cases h1 with
      | tup hs hd => exact .inr ⟨_, _, rfl, sqT_same g1.bh hs, q _ _ B1 H1 w1 g1 s1 (.tup hs hd)⟩
    · exact w1.elim⟩
end
end PL
/-! Layer P, part 3: statements, loops, comprehensions, a def's body. -/
namespace PL
open PySem L2

/-! ### targets -/
abbrev WG := D → Env → (Env → Prop) → Prop
abbrev WGs := List D → Env → (Env → Prop) → Prop
def EvG (K : PySem.W.Frag) (g : TG) (is : List Nat) (w : WG) : Prop := ∀ (G : Gm) (B H : Hp) (σ : L2.St) (ρ : Env) (v : V) (d : D) (P : Env → Prop), EnvOk K G B H σ ρ → Dp K B v d → w d ρ P →
  ∀ Q : L2.St → Hp → Prop, (∀ σ' ρ', P ρ' → EnvOk K G B H σ' ρ' → σ'.length = σ.length → (∀ i, i ∉ is → σ'[i]? = σ[i]?) → Q σ' H) → g v σ H Q
def EvGs (K : PySem.W.Frag) (g : TGs) (is : List Nat) (w : WGs) : Prop := ∀ (G : Gm) (B H : Hp) (σ : L2.St) (ρ : Env) (vs : List V) (ds : List D) (P : Env → Prop), EnvOk K G B H σ ρ → DpAll K B vs ds → w ds ρ P →
  ∀ Q : L2.St → Hp → Prop, (∀ σ' ρ', P ρ' → EnvOk K G B H σ' ρ' → σ'.length = σ.length → (∀ i, i ∉ is → σ'[i]? = σ[i]?) → Q σ' H) → g vs σ H Q
structure PXG (X : Cx) (tg : Expr) (g : TG) (is : List Nat) (w : WG) : Prop where
  pe : PG X tg g
  ev : EvG X.K g is w
structure PXGs (X : Cx) (ts : List Expr) (n : Nat) (g : TGs) (is : List Nat) (w : WGs) : Prop where
  pe : PGs X ts g
  ev : EvGs X.K g is w
def wN (i : Nat) : WG := fun d ρ P => P (ρ.set i (.dat d))
def wGNil : WGs := fun ds ρ P => match ds with
  | [] => P ρ
  | _ => False
def wGCons (w : WG) (ws : WGs) : WGs := fun ds ρ P => match ds with
  | d :: r => w d ρ fun ρ' => ws r ρ' P
  | [] => False
def wGTup (n : Nat) (ws : WGs) : WG := fun d ρ P => match d with
  | .tuple ds => ds.length = n ∧ ws ds ρ P
  | _ => False
section
variable {X : Cx} {pos : Pos}
theorem xg_name (i : Nat) {x : Str} (hN : X.N.Nodup) (hi : X.N[i]? = some x := by rfl) (hx : Loc X.env.scope x := by first | exact Or.inl rfl | exact Or.inr rfl) (hf : X.fn x = true ∨ X.env.scope.names.lookup x = some .local := by first | exact .inl rfl | exact .inr rfl) : PXG X (.Name x pos) (gName i) [i] (wN i) :=
  ⟨pg_name hN hi hx hf, fun G B H σ ρ v d P x h w Q q => q _ _ w (x.setDat h) (by simp) fun j hj => List.getElem?_set_ne (fun e => hj (by simp [e]))⟩
theorem xgs_nil : PXGs X [] 0 gNil [] wGNil := ⟨pgs_nil, fun G B H σ ρ vs ds P x h w Q q => by
  cases h with
  | nil => exact ⟨rfl, q σ ρ w x rfl fun _ _ => rfl⟩
  | cons _ _ => exact w.elim⟩
theorem xgs_cons {e : Expr} {es : List Expr} {g : TG} {gs : TGs} {is js : List Nat} {n : Nat} {w : WG} {ws : WGs} (h1 : PXG X e g is w) (h2 : PXGs X es n gs js ws) (hs : (assignEach (e :: es) X.env).map (·.2) = assign e X.env :: (assignEach es X.env).map (·.2) := by rfl) :
    PXGs X (e :: es) (n + 1) (gCons g gs) (is ++ js) (wGCons w ws) := ⟨pgs_cons h1.pe h2.pe hs, fun G B H σ ρ vs ds P x h wh Q q => by
  cases h with
  | nil => exact wh.elim
  | cons hd ht =>
    refine ⟨_, _, rfl, h1.ev G B H σ ρ _ _ _ x hd wh _ fun σ1 ρ1 w1 x1 l1 k1 => ?_⟩
    exact h2.ev G B H σ1 ρ1 _ _ P x1 ht w1 Q fun σ2 ρ2 w2 x2 l2 k2 => q σ2 ρ2 w2 x2 (l2.trans l1) fun i hi => by
      rw [k2 i (fun z => hi (List.mem_append_right _ z)), k1 i (fun z => hi (List.mem_append_left _ z))]⟩
theorem xg_tup {es : List Expr} {k n : Nat} {gs : TGs} {is : List Nat} {ws : WGs} (h : PXGs X es n gs is ws) (hc : X.calm = true := by rfl) (hn : (assignEach es X.env).length = n := by rfl) (hst : (assignEach es X.env).findIdx? (·.1) = none := by rfl) :
    PXG X (.Tuple es k pos) (gTup X.K n gs) is (wGTup n ws) := ⟨pg_tup hc h.pe hn hst, fun G B H σ ρ v d P x hv w Q q => by
  unfold wGTup at w
  split at w
  · cases hv with
    | tup hs hd => exact ⟨_, _, rfl, sqT_same x.bh hs, by rw [hd.len]; exact w.1, h.ev G B H σ ρ _ _ P x hd w.2 Q q⟩
  · exact w.elim⟩

/-! ### statements -/
structure Out where
  nx : Env → Prop
  rt : D → Prop
  bk : Env → Prop := fun _ => False
  ct : Env → Prop := fun _ => False
abbrev WS := Env → Out → Prop
/-- what the P-ends promise of the real ends -/
structure EndOk (K : PySem.W.Frag) (G : Gm) (O : Out) (En : Ends) : Prop where
  nx : ∀ ρ σ B H, O.nx ρ → EnvOk K G B H σ ρ → En.nx σ H
  rt : ∀ v d B H, O.rt d → Go G.S G.B0 G.H0 B H → SrcOk G.S B H → Dp K B v d → En.rt v H
  bk : ∀ ρ σ B H, O.bk ρ → EnvOk K G B H σ ρ → En.bk σ H
  ct : ∀ ρ σ B H, O.ct ρ → EnvOk K G B H σ ρ → En.ct σ H
def EvS (K : PySem.W.Frag) (ts : TS) (w : WS) : Prop := ∀ (G : Gm) (B H : Hp) (σ : L2.St) (ρ : Env) (O : Out) (En : Ends), EnvOk K G B H σ ρ → EndOk K G O En → w ρ O → ts En σ H
structure PXS (X : Cx) (st : Stmt) (ts : TS) (w : WS) : Prop where
  pe : PS X st ts
  ev : EvS X.K ts w
structure PXSs (X : Cx) (sts : List Stmt) (ts : TS) (w : WS) : Prop where
  pe : PSs X sts ts
  ev : EvS X.K ts w
def wNext : WS := fun ρ O => O.nx ρ
def wSeq (a b : WS) : WS := fun ρ O => a ρ { O with nx := fun ρ' => b ρ' O }
theorem ev_seq {K : PySem.W.Frag} {t u : TS} {a b : WS} (h1 : EvS K t a) (h2 : EvS K u b) : EvS K (tSeq t u) (wSeq a b) := fun G B H σ ρ O En x e w =>
  h1 G B H σ ρ { O with nx := fun ρ' => b ρ' O } { En with nx := u En } x ⟨fun ρ' σ' B' H' w' x' => h2 G B' H' σ' ρ' O En x' e w', e.rt, e.bk, e.ct⟩ w
variable {st : Stmt} {rest : List Stmt} {t u : TS} {a b : WS} {e : Expr} {te : TE} {we : WE} {wo : WO}
theorem xs_nil : PXSs X [] tNext wNext := ⟨pss_nil, fun G B H σ ρ O En x e w => e.nx ρ σ B H w x⟩
theorem xs_cons (h1 : PXS X st t a) (h2 : PXSs X rest u b) : PXSs X (st :: rest) (tSeq t u) (wSeq a b) := ⟨pss_cons h1.pe h2.pe, ev_seq h1.ev h2.ev⟩
theorem xs_one (h1 : PXS X st t a) : PXSs X [st] t a := ⟨pss_one h1.pe, h1.ev⟩
theorem x_pass : PXS X (.Pass pos) tNext wNext := ⟨ps_pass, fun G B H σ ρ O En x e w => e.nx ρ σ B H w x⟩
theorem x_brk : PXS X (.Break pos) tBreak (fun ρ O => O.bk ρ) := ⟨ps_break, fun G B H σ ρ O En x e w => e.bk ρ σ B H w x⟩
theorem x_cont : PXS X (.Continue pos) tCont (fun ρ O => O.ct ρ) := ⟨ps_continue, fun G B H σ ρ O En x e w => e.ct ρ σ B H w x⟩
theorem x_never : PXS X st tNever (fun _ _ => False) := ⟨ps_never, fun G B H σ ρ O En x e w => w⟩
def wRet (we : WE) : WS := fun ρ O => we ρ O.rt
theorem x_ret (h : PX X e te we) : PXS X (.Return (some e) pos) (tRet te) (wRet we) := ⟨ps_ret h.pe, fun G B H σ ρ O En x k w => h.ev G B H σ ρ _ x w _ fun v d B2 H2 p g s hd => k.rt v d B2 H2 p (x.go.trans g) s hd⟩
theorem x_retN : PXS X (.Return none pos) tRetN (fun _ O => O.rt .none) := ⟨ps_retN, fun G B H σ ρ O En x k w => k.rt _ _ B H w x.go x.src .non⟩
def wDrop (we : WE) : WS := fun ρ O => we ρ fun _ => O.nx ρ
theorem x_expr (h : PX X e te we) (hs : swapsWith e none pos.line X.env = pure false := by rfl) : PXS X (.Expr e pos) (tDrop te) (wDrop we) := ⟨ps_expr h.pe hs, fun G B H σ ρ O En x k w => h.ev G B H σ ρ _ x w _ fun v d B2 H2 p g s hd => k.nx ρ σ B2 H2 p (x.step g s)⟩
/-- x = e -/
def wSet (i : Nat) (we : WE) : WS := fun ρ O => we ρ fun d => O.nx (ρ.set i (.dat d))
theorem x_set (i : Nat) {y : Str} {py : Pos} (h : PX X e te we) (hN : X.N.Nodup) (hi : X.N[i]? = some y := by rfl) (hx : Loc X.env.scope y := by first | exact Or.inl rfl | exact Or.inr rfl) (hs : swapsWith e (some (.Name y py)) pos.line X.env = pure false := by rfl)
    (hf : X.fn y = true ∨ X.env.scope.names.lookup y = some .local := by first | exact .inl rfl | exact .inr rfl) : PXS X (.Assign [.Name y py] e pos) (tAsg te (gName i)) (wSet i we) :=
  ⟨ps_set hN hi hx h.pe hs hf, fun G B H σ ρ O En x k w => h.ev G B H σ ρ _ x w _ fun v d B2 H2 p g s hd => k.nx _ _ B2 H2 p ((x.step g s).setDat hd)⟩
def wSetO (i : Nat) (wo : WO) : WS := fun ρ O => wo ρ fun o => O.nx (ρ.set i (.own o))
theorem ev_setO {K : PySem.W.Frag} (i : Nat) (h : EvO K te wo) : EvS K (tAsg te (gName i)) (wSetO i wo) := fun G B H σ ρ O En x k w => h G B H σ ρ _ x w _ fun p o B2 H2 w2 g s h0 hb ok => k.nx _ _ B2 H2 w2 (x.setOwn g s h0 hb ok)
theorem x_setO (i : Nat) {y : Str} {py : Pos} (h : PXO X e te wo) (hN : X.N.Nodup) (hi : X.N[i]? = some y := by rfl) (hx : Loc X.env.scope y := by first | exact Or.inl rfl | exact Or.inr rfl) (hs : swapsWith e (some (.Name y py)) pos.line X.env = pure false := by rfl)
    (hf : X.fn y = true ∨ X.env.scope.names.lookup y = some .local := by first | exact .inl rfl | exact .inr rfl) : PXS X (.Assign [.Name y py] e pos) (tAsg te (gName i)) (wSetO i wo) := ⟨ps_set hN hi hx h.pe hs hf, ev_setO i h.ev⟩
/-- target = e -/
def wAsg (we : WE) (wg : WG) : WS := fun ρ O => we ρ fun d => wg d ρ O.nx
theorem x_asg {tg : Expr} {g : TG} {is : List Nat} {wg : WG} (h : PX X e te we) (hg : PXG X tg g is wg) (hs : swapsWithSole [tg] e pos.line X.env = pure false := by rfl) (hw : swappedStores [tg] e X.env = pure none := by rfl)
    (h1 : (assignEach [tg] X.env).map (·.2) = [assign tg X.env] := by rfl) : PXS X (.Assign [tg] e pos) (tAsg te g) (wAsg we wg) := ⟨ps_asg h.pe hg.pe hs hw h1, fun G B H σ ρ O En x k w =>
  h.ev G B H σ ρ _ x w _ fun v d B2 H2 p g s hd => hg.ev G B2 H2 σ ρ v d _ (x.step g s) hd p _ fun σ' ρ' w' x' _ _ => k.nx ρ' σ' B2 H2 w' x'⟩
/-- x op= e, ints -/
def wAug (i : Nat) (we : WE) (f : D → D → (D → Prop) → Prop) : WS := fun ρ O => match ρ[i]? with
  | some (.dat c) => we ρ fun d => f c d fun r => O.nx (ρ.set i (.dat r))
  | _ => False
theorem ev_aug {K : PySem.W.Frag} {i : Nat} {ti : TIp} {f : D → D → (D → Prop) → Prop} (h : Ev K te we) (hr : RelD K ti f) : EvS K (tAug i te ti) (wAug i we f) := fun G B H σ ρ O En x k w => by
  unfold wAug at w
  split at w
  · rename_i c hc
    obtain ⟨v, hv, hd⟩ := x.get hc
    refine ⟨v, hv, h G B H σ ρ _ x w _ fun u d B1 H1 w1 g1 s1 h1 => ?_⟩
    exact hr G.S B1 H1 v u c d _ s1 g1.bh (hd.up g1.b) h1 w1 _ fun z r B2 H2 w2 g2 s2 h2 => k.nx _ _ B2 H2 w2 (((x.step g1 s1).step g2 s2).setDat h2)
  · exact w.elim
theorem x_aug (i : Nat) {y : Str} {py : Pos} {op : Operator} {ti : TIp} {f : D → D → (D → Prop) → Prop} (h : PX X e te we) (ho : PIp X op ti) (hr : RelD X.K ti f) (hN : X.N.Nodup) (hi : X.N[i]? = some y := by rfl) (hx : Loc X.env.scope y := by first | exact Or.inl rfl | exact Or.inr rfl)
    (hf : X.fn y = true ∨ X.env.scope.names.lookup y = some .local := by first | exact .inl rfl | exact .inr rfl) : PXS X (.AugAssign (.Name y py) op e pos) (tAug i te ti) (wAug i we f) := ⟨ps_aug hN hi hx h.pe ho hf, ev_aug h.ev hr⟩
theorem rel_ipI {K : PySem.W.Frag} {g : Int → Int → Int} : RelD K (ipI g) (fI0 fun i j => .int (g i j)) := fun S B H x y a b P s h ha hb w Q q => by
  unfold fI0 at w
  split at w
  · cases ha; cases hb
    exact ⟨_, _, rfl, rfl, pure_rel s h q w (.int _)⟩
  · exact w.elim
/-- if -/
def wIfS (c : WT) (a b : WS) : WS := fun ρ O => c ρ fun k => match k with
  | true => a ρ O
  | false => b ρ O
theorem ev_ifS {K : PySem.W.Frag} {tc : TT} {wc : WT} (hc : EvT K tc wc) (h1 : EvS K t a) (h2 : EvS K u b) : EvS K (tIfS tc t u) (wIfS wc a b) := fun G B H σ ρ O En x k w =>
  hc G B H σ ρ _ x w _ fun c B1 H1 w1 g1 s1 => by
    cases c with
    | true =>
      rw [if_pos rfl]
      exact h1 G B1 H1 σ ρ O En (x.step g1 s1) k w1
    | false =>
      rw [if_neg Bool.false_ne_true]
      exact h2 G B1 H1 σ ρ O En (x.step g1 s1) k w1
theorem x_ifS {c : Expr} {p q : List Stmt} {tc : TT} {wc : WT} (hc : PXT X c tc wc) (h1 : PXSs X p t a) (h2 : PXSs X q u b) : PXS X (.If c p q pos) (tIfS tc t u) (wIfS wc a b) := ⟨ps_if hc.pe h1.pe h2.pe, ev_ifS hc.ev h1.ev h2.ev⟩
/-- while -/
def wWhile (c : WT) (b : WS) : WS := fun ρ O => ∃ W : Nat → Env → Prop, (∃ m, W m ρ) ∧ ∀ m ρ, W m ρ → c ρ fun k => match k with
  | true => b ρ { O with nx := fun ρ' => ∃ m', m' < m ∧ W m' ρ', ct := fun ρ' => ∃ m', m' < m ∧ W m' ρ', bk := O.nx }
  | false => O.nx ρ
theorem ev_while {K : PySem.W.Frag} {tc : TT} {wc : WT} (hc : EvT K tc wc) (hb : EvS K t b) : EvS K (tWhile tc t) (wWhile wc b) := fun G B H σ ρ O En x k w => by
  obtain ⟨W, ⟨m0, w0⟩, turn⟩ := w
  refine ⟨fun m σ H => ∃ B ρ, EnvOk K G B H σ ρ ∧ W m ρ, ⟨m0, B, ρ, x, w0⟩, ?_⟩
  rintro m σ H ⟨B, ρ, x, wm⟩
  refine hc G B H σ ρ _ x (turn m ρ wm) _ fun c B1 H1 w1 g1 s1 => ?_
  cases c with
  | true =>
    rw [if_pos rfl]
    refine ⟨fun σ' H' => ∃ m', m' < m ∧ ∃ B ρ, EnvOk K G B H' σ' ρ ∧ W m' ρ, fun σ' H' z => z, ?_⟩
    have nn : ∀ ρ' σ' B' H', (∃ m', m' < m ∧ W m' ρ') → EnvOk K G B' H' σ' ρ' → ∃ m', m' < m ∧ ∃ B ρ, EnvOk K G B H' σ' ρ ∧ W m' ρ := fun ρ' σ' B' H' ⟨m', hm, w'⟩ x' => ⟨m', hm, B', ρ', x', w'⟩
    exact hb G B1 H1 σ ρ { O with nx := fun ρ' => ∃ m', m' < m ∧ W m' ρ', ct := fun ρ' => ∃ m', m' < m ∧ W m' ρ', bk := O.nx } _ (x.step g1 s1) ⟨nn, k.rt, k.nx, nn⟩ w1
  | false =>
    rw [if_neg Bool.false_ne_true]
    exact k.nx ρ σ B1 H1 w1 (x.step g1 s1)
theorem x_while {c : Expr} {body : List Stmt} {tc : TT} {wc : WT} (hc : PXT X c tc wc) (hb : PXSs X body t b) (hp : PassesOwn (model X.prog X.w) X.A X.env X.xe := by exact PassesOwn.never) : PXS X (.While c body [] pos) (tWhile tc t) (wWhile wc b) := ⟨ps_while hp hc.pe hb.pe, ev_while hc.ev hb.ev⟩

/-! ### what is walked -/
abbrev WI := Env → (List D → Prop) → Prop
structure ItOk (K : PySem.W.Frag) (S : SA) (J : It) (ds : List D) (B : Hp) : Prop where
  stop : ∀ H', Same B H' → J.stop ds.length H'
  go : ∀ i H', Same B H' → i < ds.length → J.go i H'
  yld : ∀ i B' H' x H'', Same B B' → Same B' H' → SrcOk S B' H' → i < ds.length → J.yld i H' x H'' → ∃ d B'', ds[i]? = some d ∧ Go S B' H' B'' H'' ∧ SrcOk S B'' H'' ∧ Dp K B'' x d
def EvI (K : PySem.W.Frag) (wi : TI) (w : WI) : Prop := ∀ (G : Gm) (B H : Hp) (σ : L2.St) (ρ : Env) (P : List D → Prop), EnvOk K G B H σ ρ → w ρ P →
  ∀ R : It → Hp → Prop, (∀ J ds B2 H2, P ds → Go G.S B H B2 H2 → SrcOk G.S B2 H2 → ItOk K G.S J ds B2 → R J H2) → wi σ H R
structure PXI (X : Cx) (tg e : Expr) (wi : TI) (w : WI) : Prop where
  pe : PI X tg e wi
  ev : EvI X.K wi w
variable {tg : Expr}
def wIL (we : WE) : WI := fun ρ P => we ρ fun d => match d with
  | .list ds => P ds
  | _ => False
def wIT (we : WE) : WI := fun ρ P => we ρ fun d => match d with
  | .tuple ds => P ds
  | _ => False
theorem xi_list (h : PX X e te we) : PXI X tg e (iList X.K te) (wIL we) := ⟨pi_list h.pe, fun G B H σ ρ P x w R r =>
  h.ev G B H σ ρ _ x w _ fun v d B1 H1 w1 g1 s1 h1 => by
    split at w1
    · cases h1 with
      | lst hs hd =>
        rename_i ds p vs
        refine ⟨p, rfl, ⟨_, sqL_same g1.bh hs⟩, r _ ds B1 H1 w1 g1 s1 ⟨fun H' e => ⟨vs, sqL_same e hs, Nat.le_of_eq hd.len⟩, fun i H' e hi => ?_, fun i B' H' y H'' e1 e2 sr hi z => ?_⟩⟩
        · have hi' : i < vs.length := by rw [hd.len]; exact hi
          exact ⟨vs, vs[i], sqL_same e hs, by simp [hi']⟩
        · obtain ⟨rfl, z⟩ := z
          obtain ⟨d, e3, e4⟩ := hd.atV (z vs (sqL_same (e1.trans e2) hs))
          exact ⟨d, B', e3, Go.refl e2, sr, e4.up e1⟩
    · exact w1.elim⟩
theorem xi_tup (h : PX X e te we) : PXI X tg e (iTup X.K te) (wIT we) := ⟨pi_tup h.pe, fun G B H σ ρ P x w R r =>
  h.ev G B H σ ρ _ x w _ fun v d B1 H1 w1 g1 s1 h1 => by
    split at w1
    · cases h1 with
      | tup hs hd =>
        rename_i ds p vs
        refine ⟨p, rfl, ⟨_, sqT_same g1.bh hs⟩, r _ ds B1 H1 w1 g1 s1 ⟨fun H' e => ⟨vs, sqT_same e hs, Nat.le_of_eq hd.len⟩, fun i H' e hi => ?_, fun i B' H' y H'' e1 e2 sr hi z => ?_⟩⟩
        · have hi' : i < vs.length := by rw [hd.len]; exact hi
          exact ⟨vs, vs[i], sqT_same e hs, by simp [hi']⟩
        · obtain ⟨rfl, z⟩ := z
          obtain ⟨d, e3, e4⟩ := hd.atV (z vs (sqT_same (e1.trans e2) hs))
          exact ⟨d, B', e3, Go.refl e2, sr, e4.up e1⟩
    · exact w1.elim⟩
/-- lo, lo + 1, .. below hi -/
def rng (lo hi : Int) : List D := (List.range (hi - lo).toNat).map fun i : Nat => PyData.int (lo + i)
theorem rng_len (lo hi : Int) : (rng lo hi).length = (hi - lo).toNat := by simp [rng]
theorem rng_at {lo hi : Int} {i : Nat} (h : i < (hi - lo).toNat) : (rng lo hi)[i]? = some (.int (lo + i)) := by simp [rng, h]
theorem it_rng {K : PySem.W.Frag} {S : SA} {B : Hp} (lo hi : Int) : ItOk K S (Itr lo (hi - lo).toNat) (rng lo hi) B :=
  ⟨fun H' e => by show _ ≤ _; rw [rng_len]; exact Nat.le_refl _, fun i H' e h => by show _ < _; rw [rng_len] at h; exact h, fun i B' H' y H'' e1 e2 sr hi z => by
    obtain ⟨rfl, rfl⟩ := z
    rw [rng_len] at hi
    exact ⟨_, B', rng_at hi, Go.refl e2, sr, .int _⟩⟩
def wIR1 (wa : WE) : WI := fun ρ P => wa ρ fun d => match d with
  | .int j => -(2 ^ 62) ≤ j ∧ j < 2 ^ 62 ∧ P (rng 0 j)
  | _ => False
def wIR2 (wa wb : WE) : WI := fun ρ P => wa ρ fun d => wb ρ fun e => match d, e with
  | .int i, .int j => (-(2 ^ 62) ≤ i ∧ i < 2 ^ 62 ∧ -(2 ^ 62) ≤ j ∧ j < 2 ^ 62) ∧ P (rng i j)
  | _, _ => False
variable {a1 a2 : Expr} {t1 t2 : TE} {w1 w2 : WE} {p : Pos}
theorem xi_rng1 (hm : X.mg "range" = none) (h : PX X a1 t1 w1) (hg : Gl X "range" := by rfl) (hs : starEach [a1] X.env = [(false, eval a1 X.env)] := by rfl) (hs0 : starEach [a1] X.env = (false, eval a1 X.env) :: starEach [] X.env := by rfl) : PXI X tg (.Call (.Name "range" p) [a1] [] pos) (iRng1 (tCons t1 tNil)) (wIR1 w1) :=
  ⟨pi_range1 hg hm (pa_cons h.pe pa_nil hs0) hs, fun G B H σ ρ P x w R r => h.ev G B H σ ρ _ x w _ fun v d B1 H1 w1 g1 s1 h1 => by
    split at w1
    · cases h1
      rename_i j
      refine ⟨j, rfl, w1.1, w1.2.1, ?_⟩
      have q := it_rng (K := X.K) (S := G.S) (B := B1) 0 j
      rw [Int.sub_zero] at q
      exact r _ _ B1 H1 w1.2.2 g1 s1 q
    · exact w1.elim⟩
theorem xi_rng2 (hm : X.mg "range" = none) (h : PX X a1 t1 w1) (h2 : PX X a2 t2 w2) (hg : Gl X "range" := by rfl) (hs : starEach [a1, a2] X.env = [(false, eval a1 X.env), (false, eval a2 X.env)] := by rfl) (hs2 : starEach [a2] X.env = [(false, eval a2 X.env)] := by rfl)
    (hs0 : starEach [a1, a2] X.env = (false, eval a1 X.env) :: starEach [a2] X.env := by rfl) (hs1 : starEach [a2] X.env = (false, eval a2 X.env) :: starEach [] X.env := by rfl) : PXI X tg (.Call (.Name "range" p) [a1, a2] [] pos) (iRng2 (tCons t1 (tCons t2 tNil))) (wIR2 w1 w2) :=
  ⟨pi_range2 hg hm (pa_cons h.pe (pa_cons h2.pe pa_nil hs1) hs0) hs hs2, fun G B H σ ρ P x w R r => h.ev G B H σ ρ _ x w _ fun v d B1 H1 w1 g1 s1 h1 =>
    h2.ev G B1 H1 σ ρ _ (x.step g1 s1) w1 _ fun u e B2 H2 w2 g2 s2 h2 => by
      split at w2
      · cases h1; cases h2
        exact ⟨_, _, rfl, w2.1, r _ _ B2 H2 w2.2 (g1.trans g2) s2 (it_rng _ _)⟩
      · exact w2.elim⟩
/-- for -/
def wFor (wi : WI) (wg : WG) (b : WS) : WS := fun ρ O => wi ρ fun ds => ∃ W : Nat → Env → Prop, W 0 ρ ∧ (∀ (i : Nat) d ρ, ds[i]? = some d → W i ρ → wg d ρ fun ρ' => b ρ' { O with nx := W (i + 1), ct := W (i + 1), bk := O.nx }) ∧ ∀ ρ, W ds.length ρ → O.nx ρ
theorem ev_for {K : PySem.W.Frag} {wi : TI} {w : WI} {g : TG} {is : List Nat} {wg : WG} (hi : EvI K wi w) (hg : EvG K g is wg) (hb : EvS K t b) : EvS K (tFor wi g t) (wFor w wg b) := fun G B H σ ρ O En x k hw =>
  hi G B H σ ρ _ x hw _ fun J ds B1 H1 w1 g1 s1 it => by
    obtain ⟨W, w0, turn, fin⟩ := w1
    refine ⟨fun i m σ H => m = ds.length - i ∧ i ≤ ds.length ∧ ∃ B ρ, Same B1 B ∧ EnvOk K G B H σ ρ ∧ W i ρ, ⟨ds.length, rfl, Nat.zero_le _, B1, ρ, Same.refl _, x.step g1 s1, w0⟩, ?_⟩
    rintro i m σ H ⟨hm, hi, B, ρ, sb, x, wi⟩
    by_cases hlt : i < ds.length
    · refine .inr ⟨it.go i H (sb.trans x.bh) hlt, fun σ' H' => ∃ B ρ, Same B1 B ∧ EnvOk K G B H' σ' ρ ∧ W (i + 1) ρ, fun σ' H' z => ⟨ds.length - (i + 1), by omega, rfl, hlt, z⟩, fun y H' yl => ?_⟩
      obtain ⟨d, B2, e, g2, s2, hd⟩ := it.yld i B H y H' sb x.bh x.src hlt yl
      refine hg G B2 H' σ ρ y d _ (x.step g2 s2) hd (turn i d ρ e wi) _ fun σ2 ρ2 w2 x2 _ _ => ?_
      -- what is told for good only grows through the body: the step's start is kept beside
      have x3 : EnvOk K ⟨G.S, G.B0, G.H0⟩ B2 H' σ2 ρ2 := x2
      have big : EnvOk K ⟨G.S, B2, G.H0⟩ B2 H' σ2 ρ2 := ⟨⟨Same.refl _, x2.bh, x2.go.keep, fun a o h n => n, x2.go.there⟩, x2.src, x2.sin, x2.len, x2.sl, x2.dis⟩
      have nn : ∀ ρ' σ' B' H', W (i + 1) ρ' → EnvOk K ⟨G.S, B2, G.H0⟩ B' H' σ' ρ' → ∃ B ρ, Same B1 B ∧ EnvOk K G B H' σ' ρ ∧ W (i + 1) ρ := fun ρ' σ' B' H' w' x' =>
        ⟨B', ρ', (sb.trans g2.b).trans x'.go.b, ⟨⟨x2.go.b.trans x'.go.b, x'.bh, x'.go.keep, fun a o h n => x'.go.new a o h (x2.go.new a o h n), x'.go.there⟩, x'.src, x'.sin, x'.len, x'.sl, x'.dis⟩, w'⟩
      refine hb ⟨G.S, B2, G.H0⟩ B2 H' σ2 ρ2 { O with nx := W (i + 1), ct := W (i + 1), bk := O.nx } _ big ⟨nn, fun v d B' H' p gg ss hd => ?_, fun ρ' σ' B' H' p x' => ?_, nn⟩ w2
      · exact k.rt v d B' H' p ⟨x2.go.b.trans gg.b, gg.bh, gg.keep, fun a o h n => gg.new a o h (x2.go.new a o h n), gg.there⟩ ss hd
      · exact k.nx ρ' σ' B' H' p ⟨⟨x2.go.b.trans x'.go.b, x'.bh, x'.go.keep, fun a o h n => x'.go.new a o h (x2.go.new a o h n), x'.go.there⟩, x'.src, x'.sin, x'.len, x'.sl, x'.dis⟩
    · have ei : i = ds.length := by omega
      subst ei
      exact .inl ⟨it.stop H (sb.trans x.bh), k.nx ρ σ B H (fin ρ wi) x⟩
theorem x_for {iter : Expr} {body : List Stmt} {wi : TI} {w : WI} {g : TG} {is : List Nat} {wg : WG} (hi : PXI X tg iter wi w) (hg : PXG X tg g is wg) (hb : PXSs X body t b) (hc : X.calm = true := by rfl) (hp : PassesOwn (model X.prog X.w) X.A X.env X.xe := by exact PassesOwn.never)
    (hs : ∀ x, foldedSetIterable iter X.env x = pure x := by intro _; rfl) : PXS X (.For tg iter body [] pos) (tFor wi g t) (wFor w wg b) := ⟨ps_for hp hc hi.pe hg.pe hb.pe hs, ev_for hi.ev hg.ev hb.ev⟩

/-! ### a name's own objects -/
/-- from here on a name's own list is told for good -/
theorem x_thaw (i : Nat) {sts : List Stmt} (h : PXSs X sts t a) : PXSs X sts t (fun ρ O => a (frzAt i ρ) O) := ⟨h.pe, fun G B H σ ρ O En x k w => by
  have w' : a (frzAt i ρ) O := w
  unfold frzAt at w'
  split at w'
  · rename_i ds hi
    obtain ⟨p, vs, e1, hp, hb, x'⟩ := x.freeze hi
    exact h.ev G _ H σ _ O En x' k w'
  · exact h.ev G B H σ ρ O En x k w'⟩
/-- x.append(e), x a name's own list -/
def wApp (i : Nat) (we : WE) : WS := fun ρ O => match ρ[i]? with
  | some (.own (.lst ds)) => we ρ fun d => ds.length < 10000000 ∧ O.nx (ρ.set i (.own (.lst (ds ++ [d]))))
  | _ => False
theorem ev_app {K : PySem.W.Frag} {i : Nat} (h : Ev K te we) : EvS K (tDrop (tBM K "list" rAppend (tVar i) (tCons te tNil))) (wApp i we) := fun G B H σ ρ O En x k w => by
  unfold wApp at w
  split at w
  · rename_i ds hi
    obtain ⟨p, e1, h0, hb, vs, hp, hd⟩ := x.getOwn hi
    refine ⟨_, e1, .inl ⟨rfl, _, .inl (.inl hp)⟩, h G B H σ ρ _ x w _ fun v d B1 H1 w1 g1 s1 h1 => ?_⟩
    have x1 := x.step g1 s1
    obtain ⟨p', e1', _, hb', vs', hp', hd'⟩ := x1.getOwn hi
    rw [e1] at e1'
    cases e1'
    refine ⟨p, vs', v, rfl, rfl, hp', by rw [hd'.len, sizeLine_eq]; omega, k.nx _ _ B1 _ w1.2 (x1.write hi e1 ⟨_, upd_same, hd'.app (.cons h1 .nil)⟩)⟩
  · exact w.elim
theorem x_app (i : Nat) {y : Str} {py apos cpos : Pos} (h : PX X e te we) (hi : PE X (.Name y py) (tVar i)) (hs0 : starEach [e] X.env = (false, eval e X.env) :: starEach [] X.env := by rfl)
    (hbase : attributeBase (.Name y py) "append" X.env (eval (.Name y py) X.env) = eval (.Name y py) X.env := by rfl)
    (hfew : ((backTo cpos (starEach [e] X.env)).all (fun x => !x.1) && (backToKw cpos (keywordEach [] X.env)).all (fun x => x.1.isSome) && decide ([e].length + ([] : List Keyword).length + (if ([] : List Keyword).isEmpty then 0 else 1) < 30)) = true := by rfl)
    (hline : (apos.endLine == cpos.line) = true := by rfl) (hplain : (backTo cpos (starEach [] X.env)).any (·.1) = false := by rfl) (hs : swapsWith (.Call (.Attribute (.Name y py) "append" apos) [e] [] cpos) none pos.line X.env = pure false := by rfl) :
    PXS X (.Expr (.Call (.Attribute (.Name y py) "append" apos) [e] [] cpos) pos) (tDrop (tBM X.K "list" rAppend (tVar i) (tCons te tNil))) (wApp i we) :=
  ⟨ps_expr (pe_bm PySem.F.plainAttrs_list PySem.F.slot_list_append PySem.F.type_list_append mt_append hi (pa_cons h.pe pa_nil hs0) hbase hfew hline hs0 hplain) hs, ev_app h.ev⟩
end
end PL
/-! Layer P, part 4: comprehensions, pairs of names, a def's body, the law's own. -/
namespace PL
open PySem L2

/-! ### slots forgotten -/
def wipeE (ρ : Env) : List Nat → Env
  | [] => ρ
  | v :: vs => (wipeE ρ vs).set v .no
theorem EnvOk.wipe {K : PySem.W.Frag} {G : Gm} {B H : Hp} {σ : L2.St} {ρ : Env} (x : EnvOk K G B H σ ρ) : ∀ vs : List Nat, EnvOk K G B H (L2.wipe σ vs) (wipeE ρ vs)
  | [] => x
  | v :: vs => by
    unfold L2.wipe wipeE
    exact (x.wipe vs).setNo
theorem wipe_get (σ : L2.St) (i : Nat) : ∀ vs : List Nat, (L2.wipe σ vs)[i]? = if i ∈ vs then (if i < σ.length then some none else none) else σ[i]?
  | [] => by simp [L2.wipe]
  | v :: vs => by
    unfold L2.wipe
    by_cases e : v = i
    · subst e
      rw [if_pos List.mem_cons_self]
      by_cases h : v < σ.length
      · rw [if_pos h, List.getElem?_set_self (by rw [wipe_length]; exact h)]
      · rw [if_neg h, List.getElem?_eq_none (by rw [List.length_set, wipe_length]; omega)]
    · rw [List.getElem?_set_ne e, wipe_get σ i vs]
      have : (i ∈ v :: vs) ↔ i ∈ vs := by
        rw [List.mem_cons]
        exact ⟨fun h => h.elim (fun z => absurd z.symm e) id, .inr⟩
      by_cases h : i ∈ vs
      · rw [if_pos h, if_pos (this.mpr h)]
      · rw [if_neg h, if_neg (fun z => h (this.mp z))]
theorem wipe_same {σ σ' : L2.St} {vs is : List Nat} (hl : σ'.length = (L2.wipe σ vs).length) (h : ∀ i, i ∉ is → σ'[i]? = (L2.wipe σ vs)[i]?) (hs : ∀ i ∈ is, i ∈ vs) : L2.wipe σ' vs = L2.wipe σ vs := by
  refine List.ext_getElem? fun i => ?_
  rw [wipe_get, wipe_get]
  rw [wipe_length] at hl
  by_cases hi : i ∈ vs
  · rw [if_pos hi, if_pos hi, hl]
  · rw [if_neg hi, if_neg hi, h i (fun z => hi (hs i z)), wipe_get, if_neg hi]
section
variable {K : PySem.W.Frag} {G : Gm} {B H : Hp} {σ : L2.St} {ρ : Env}
/-- a place that no name holds and nobody knows -/
theorem EnvOk.poke (x : EnvOk K G B H σ ρ) {p : Addr} {o : HO} (h0 : G.H0 p = none) (hb : B p = none) (hn : ∀ (j : Nat) oj, ρ[j]? = some (.own oj) → σ[j]? ≠ some (some (.ref p))) : EnvOk K G B (upd H p o) σ ρ := by
  have np : ∀ a u, G.H0 a = some u → a ≠ p := fun a u e z => by rw [z, h0] at e; cases e
  refine ⟨⟨x.go.b, fun a u e => ?_, fun a u e n => ?_, x.go.new, fun a u e => ?_⟩, fun s c e => ?_, x.sin, x.len, fun j u w h2 h3 => ?_, x.dis⟩
  · rw [upd_ne (fun z => by rw [z, hb] at e; cases e)]; exact x.bh a u e
  · rw [upd_ne (np a u e)]; exact x.go.keep a u e n
  · rw [upd_ne (np a u e)]; exact x.go.there a u e
  · obtain ⟨a1, a2, y, hy, a3, a4⟩ := x.src s c e
    obtain ⟨⟨u1, b1⟩, u2, b2⟩ := x.sin s c e
    exact ⟨a1, a2, y, hy, by rw [upd_ne (np _ _ b1)]; exact a3, by rw [upd_ne (np _ _ b2)]; exact a4⟩
  · have q := x.sl j u w h2 h3
    cases w with
    | no => trivial
    | src => exact q
    | dat d => exact q
    | own ow =>
      obtain ⟨p', e', h0', hb', h'⟩ := q
      refine ⟨p', e', h0', hb', h'.up (Same.refl B) fun t ht => ?_⟩
      rw [upd_ne (fun z => ?_)]
      · exact ht
      · subst z
        exact hn j ow h3 (by rw [h2, e'])
theorem Go.poke {S : SA} {B1 H1 : Hp} (g : Go S B1 H1 B H) {p : Addr} {o : HO} (h1 : H1 p = none) (hb : B p = none) : Go S B1 H1 B (upd H p o) where
  b := g.b
  bh := fun a u e => by rw [upd_ne (fun z => by rw [z, hb] at e; cases e)]; exact g.bh a u e
  keep := fun a u e n => by rw [upd_ne (ne_of_none e h1)]; exact g.keep a u e n
  new := g.new
  there := fun a u e => by rw [upd_ne (ne_of_none e h1)]; exact g.there a u e
end

/-! ### list comprehensions -/
structure PXTs (X : Cx) (ifs : List Expr) (tt : TT) (w : WT) : Prop where
  pe : PTs X ifs tt
  ev : EvT X.K tt w
section
variable {X : Cx} {pos : Pos}
def wYes : WT := fun _ P => P true
theorem xts_nil : PXTs X [] tYes wYes := ⟨pts_nil, fun G B H σ ρ P x w Q q => q true B H w (Go.refl x.bh) x.src⟩
theorem xts_one {c : Expr} {tt : TT} {w : WT} (h : PXT X c tt w) : PXTs X [c] tt w := ⟨pts_one h.pe, h.ev⟩
def wLc (wi : WI) (wg : WG) (wt : WT) (we : WE) (vs : List Nat) : WO := fun ρ P => wi ρ fun ds => ds.length ≤ 10000000 ∧ ∃ W : Nat → List D → Prop, W 0 [] ∧
  (∀ (i : Nat) acc d, ds[i]? = some d → W i acc → wg d (wipeE ρ vs) fun ρ2 => wt ρ2 fun b => match b with
    | true => we ρ2 fun e => W (i + 1) (acc ++ [e])
    | false => W (i + 1) acc) ∧ ∀ acc, W ds.length acc → P (.lst acc)
theorem ev_lc {K : PySem.W.Frag} {wi : TI} {w : WI} {g : TG} {is vs : List Nat} {wg : WG} {tt : TT} {wt : WT} {te : TE} {we : WE} (hi : EvI K wi w) (hg : EvG K g is wg) (ht : EvT K tt wt) (he : Ev K te we) (hs : ∀ i ∈ is, i ∈ vs) : EvO K (tLc wi g tt te vs) (wLc w wg wt we vs) := fun G B H σ ρ P x hw Q q =>
  hi G B H σ ρ _ x hw _ fun J ds B1 H1 w1 g1 s1 it L hL => by
    obtain ⟨hz, W, w0, turn, fin⟩ := w1
    have x1 := (x.step g1 s1).wipe vs
    have bL : B1 L = none := none_back g1.bh hL
    have L0 : G.H0 L = none := x1.go.back hL
    have hn : ∀ (j : Nat) oj, (wipeE ρ vs)[j]? = some (.own oj) → (L2.wipe σ vs)[j]? ≠ some (some (.ref L)) := fun j oj h1 h2 => by
      obtain ⟨p, e1, _, _, h3⟩ := x1.getOwn h1
      rw [e1] at h2
      cases h2
      obtain ⟨t, ht⟩ := h3.some
      rw [hL] at ht; cases ht
    refine ⟨fun i m H => m = ds.length - i ∧ i ≤ ds.length ∧ ∃ B us acc, EnvOk K G B H (L2.wipe σ vs) (wipeE ρ vs) ∧ Go G.S B1 H1 B H ∧ B L = none ∧ H L = some (.lst us) ∧ DpAll K B us acc ∧ acc.length ≤ i ∧ W i acc,
      ⟨ds.length, rfl, Nat.zero_le _, B1, [], [], x1.poke L0 bL hn, (Go.refl g1.bh).poke hL bL, bL, upd_same, .nil, Nat.le_refl _, w0⟩, ?_⟩
    rintro i m H ⟨hm, hi, B, us, acc, xb, gb, lb, hl, hd, ha, wi⟩
    have sb := gb.b
    by_cases hlt : i < ds.length
    · refine .inr ⟨it.go i H (sb.trans xb.bh) hlt, fun H' => ∃ B us acc, EnvOk K G B H' (L2.wipe σ vs) (wipeE ρ vs) ∧ Go G.S B1 H1 B H' ∧ B L = none ∧ H' L = some (.lst us) ∧ DpAll K B us acc ∧ acc.length ≤ i + 1 ∧ W (i + 1) acc,
        fun H' z => ⟨ds.length - (i + 1), by omega, rfl, hlt, z⟩, fun y H' yl => ?_⟩
      obtain ⟨d, B2, e, g2, s2, hdd⟩ := it.yld i B H y H' sb xb.bh xb.src hlt yl
      have xs2 := xb.step g2 s2
      refine hg G B2 H' _ _ y d _ xs2 hdd (turn i acc d e wi) _ fun σ2 ρ2 w2 x2 l2 k2 => ⟨wipe_same l2 k2 hs, ?_⟩
      have outL : outS G.S L := fun s c es => by
        obtain ⟨_, _, _, _, a3, a4⟩ := s1 s c es
        exact ⟨fun z => (by rw [← z, hL] at a3; cases a3), fun z => (by rw [← z, hL] at a4; cases a4)⟩
      refine ht G B2 H' σ2 ρ2 _ x2 w2 _ fun b B3 H3 w3 g3 s3 => ?_
      have g13 := (gb.trans g2).trans g3
      have g03 := g2.trans g3
      have lb3 : B3 L = none := g03.new L _ hl lb
      have hl3 : H3 L = some (.lst us) := g03.keep L _ hl outL
      cases b with
      | false =>
        rw [if_neg Bool.false_ne_true]
        exact ⟨B3, us, acc, xb.step g03 s3, g13, lb3, hl3, hd.up g03.b, by omega, w3⟩
      | true =>
        rw [if_pos rfl]
        refine he G B3 H3 σ2 ρ2 _ (x2.step g3 s3) w3 _ fun v f B4 H4 w4 g4 s4 h4 => ?_
        have g04 := g03.trans g4
        have lb4 : B4 L = none := g04.new L _ hl lb
        have hl4 : H4 L = some (.lst us) := g04.keep L _ hl outL
        have hd4 := hd.up g04.b
        refine ⟨us, hl4, by rw [hd.len, sizeLine_eq]; omega, B4, us ++ [v], acc ++ [f], (xb.step g04 s4).poke L0 lb4 hn, (g13.trans g4).poke hL lb4, lb4, upd_same, hd4.app (.cons h4 .nil), by rw [List.length_append]; show acc.length + 1 ≤ i + 1; omega, w4⟩
    · have ei : i = ds.length := by omega
      subst ei
      refine .inl ⟨it.stop H (sb.trans xb.bh), q L (.lst acc) B H (fin acc wi) (g1.trans gb) xb.src (g1.back hL) lb ⟨us, hl, hd⟩⟩
variable {elt tg iter : Expr} {ifs : List Expr} {scope : Scope} {own : List (Str × Nat)} {wi : TI} {w : WI} {g : Shared → Hp → Addr → List (Str × Addr) → List Addr → TG} {is : List Nat} {wg : WG} {tt : Shared → Hp → Addr → List (Str × Addr) → List Addr → TT} {wt : WT} {te : Shared → Hp → Addr → List (Str × Addr) → List Addr → TE} {we : WE}
theorem o_lc (own : List (Str × Nat)) (nd : X.N.Nodup) (hi : PXI X tg iter wi w) (ok : blkC X.N X.env.scope scope own = true)
    (hg : ∀ (s : Shared) (H : Hp) (C : Addr) (cl : List (Str × Addr)) (fp : List Addr), PXG (X.blk s H scope (compEnvC scope cl C X.env) fp) tg (g s H C cl fp) is wg)
    (ht : ∀ (s : Shared) (H : Hp) (C : Addr) (cl : List (Str × Addr)) (fp : List Addr), PXTs (X.blk s H scope (compEnvC scope cl C X.env) fp) ifs (tt s H C cl fp) wt)
    (he : ∀ (s : Shared) (H : Hp) (C : Addr) (cl : List (Str × Addr)) (fp : List Addr), PX (X.blk s H scope (compEnvC scope cl C X.env) fp) elt (te s H C cl fp) we)
    (hsub : ∀ i ∈ is, i ∈ own.map (·.2) := by decide) (hge : ∀ (s : Shared) (H : Hp) (C : Addr) (cl : List (Str × Addr)) (fp : List Addr), g s H C cl fp = g X.s_0 X.H_0 0 [] [] := by intros; rfl) (hte : ∀ (s : Shared) (H : Hp) (C : Addr) (cl : List (Str × Addr)) (fp : List Addr), tt s H C cl fp = tt X.s_0 X.H_0 0 [] [] := by intros; rfl) (hee : ∀ (s : Shared) (H : Hp) (C : Addr) (cl : List (Str × Addr)) (fp : List Addr), te s H C cl fp = te X.s_0 X.H_0 0 [] [] := by intros; rfl) (hc : X.calm = true := by rfl) (hs : ∀ x, foldedSetIterable iter X.env x = pure x := by intro _; rfl) :
    PXO X (.ListComp elt [⟨tg, iter, ifs, 0⟩] scope pos) (tLc wi (g X.s_0 X.H_0 0 [] []) (tt X.s_0 X.H_0 0 [] []) (te X.s_0 X.H_0 0 [] []) (own.map (·.2))) (wLc w wg wt we (own.map (·.2))) :=
  ⟨pe_lc hc nd hi.pe (blkOk_by ok) (fun s H C cl fp => hge s H C cl fp ▸ (hg s H C cl fp).pe) (fun s H C cl fp => hte s H C cl fp ▸ (ht s H C cl fp).pe) (fun s H C cl fp => hee s H C cl fp ▸ (he s H C cl fp).pe) hs,
    ev_lc hi.ev (hg X.s_0 X.H_0 0 [] []).ev (ht X.s_0 X.H_0 0 [] []).ev (he X.s_0 X.H_0 0 [] []).ev hsub⟩
end
end PL
/-! Layer P, part 5: pairs of names stored at once, a def's body, the law. -/
namespace PL
open PySem L2

/-! ### values for several names -/
inductive MAll (K : PySem.W.Frag) (Ha B H : Hp) : List V → List Sl → Prop
  | nil : MAll K Ha B H [] []
  | dat {v vs d ss} : Dp K B v d → MAll K Ha B H vs ss → MAll K Ha B H (v :: vs) (.dat d :: ss)
  | own {p vs o ss} : Ha p = none → B p = none → OwOk K B H p o → (∀ (j : Nat) oj, ss[j]? = some (.own oj) → vs[j]? ≠ some (.ref p)) → MAll K Ha B H vs ss → MAll K Ha B H (.ref p :: vs) (.own o :: ss)
abbrev WM := Env → (List Sl → Prop) → Prop
def EvM (K : PySem.W.Frag) (ta : TA) (w : WM) : Prop := ∀ (G : Gm) (B H : Hp) (σ : L2.St) (ρ : Env) (P : List Sl → Prop), EnvOk K G B H σ ρ → w ρ P →
  ∀ Q : List V → Hp → Prop, (∀ vs ss B2 H2, P ss → Go G.S B H B2 H2 → SrcOk G.S B2 H2 → MAll K H B2 H2 vs ss → Q vs H2) → ta σ H Q
structure PXM (X : Cx) (es : List Expr) (ta : TA) (w : WM) : Prop where
  pe : PA X es ta
  ev : EvM X.K ta w
theorem MAll.back {K : PySem.W.Frag} {Ha Hb B H : Hp} (h : ∀ p, Hb p = none → Ha p = none) : ∀ {vs : List V} {ss : List Sl}, MAll K Hb B H vs ss → MAll K Ha B H vs ss
  | _, _, .nil => .nil
  | _, _, .dat a t => .dat a (t.back h)
  | _, _, .own a b c d t => .own (h _ a) b c d (t.back h)
theorem MAll.owned {K : PySem.W.Frag} {Ha B H : Hp} : ∀ {vs : List V} {ss : List Sl} {j : Nat} {oj : Ow} {p : Addr}, MAll K Ha B H vs ss → ss[j]? = some (.own oj) → vs[j]? = some (.ref p) → Ha p = none
  | _, _, 0, _, _, .dat _ _, e, _ => by cases e
  | _, _, 0, _, _, .own a _ _ _ _, _, e => by cases e; exact a
  | _, _, j + 1, _, _, .dat _ t, e, f => t.owned (j := j) (by simpa using e) (by simpa using f)
  | _, _, j + 1, _, _, .own _ _ _ _ t, e, f => t.owned (j := j) (by simpa using e) (by simpa using f)
  | _, _, _, _, _, .nil, e, _ => by simp at e
section
variable {X : Cx} {pos : Pos} {e : Expr} {es : List Expr} {te : TE} {tr : TA} {we : WE} {wo : WO} {wm : WM}
def wMNil : WM := fun _ P => P []
def wMD (we : WE) (wm : WM) : WM := fun ρ P => we ρ fun d => wm ρ fun ss => P (.dat d :: ss)
def wMO (wo : WO) (wm : WM) : WM := fun ρ P => wo ρ fun o => wm ρ fun ss => P (.own o :: ss)
theorem xm_nil : PXM X [] tNil wMNil := ⟨pa_nil, fun G B H σ ρ P x w Q q => q [] [] B H w (Go.refl x.bh) x.src .nil⟩
theorem xm_dat (h : PX X e te we) (hr : PXM X es tr wm) (hs : starEach (e :: es) X.env = (false, eval e X.env) :: starEach es X.env := by rfl) : PXM X (e :: es) (tCons te tr) (wMD we wm) := ⟨pa_cons h.pe hr.pe hs, fun G B H σ ρ P x w Q q =>
  h.ev G B H σ ρ _ x w _ fun v d B1 H1 w1 g1 s1 h1 => hr.ev G B1 H1 σ ρ _ (x.step g1 s1) w1 _ fun vs ss B2 H2 w2 g2 s2 h2 => q _ _ B2 H2 w2 (g1.trans g2) s2 (.dat (h1.up g2.b) (h2.back fun p hp => g1.back hp))⟩
theorem xm_own (h : PXO X e te wo) (hr : PXM X es tr wm) (hs : starEach (e :: es) X.env = (false, eval e X.env) :: starEach es X.env := by rfl) : PXM X (e :: es) (tCons te tr) (wMO wo wm) := ⟨pa_cons h.pe hr.pe hs, fun G B H σ ρ P x w Q q =>
  h.ev G B H σ ρ _ x w _ fun p o B1 H1 w1 g1 s1 h0 hb ok => hr.ev G B1 H1 σ ρ _ (x.step g1 s1) w1 _ fun vs ss B2 H2 w2 g2 s2 h2 => by
    obtain ⟨t, ht⟩ := ok.some
    have outP : outS G.S p := fun s c es => by
      obtain ⟨_, _, _, _, a3, a4⟩ := x.src s c es
      exact ⟨fun z => (by rw [← z, h0] at a3; cases a3), fun z => (by rw [← z, h0] at a4; cases a4)⟩
    refine q _ _ B2 H2 w2 (g1.trans g2) s2 (.own h0 (g2.new p t ht hb) (ok.up g2.b fun u hu => g2.keep p u hu outP) (fun j oj h3 h4 => ?_) (h2.back fun p hp => g1.back hp))
    have := h2.owned h3 h4
    rw [ht] at this; cases this⟩
theorem EnvOk.setSl {K : PySem.W.Frag} {G : Gm} {B H Ha : Hp} {σ : L2.St} {ρ : Env} (x : EnvOk K G B H σ ρ) (hG : ∀ p, Ha p = none → G.H0 p = none) {i : Nat} {v : V} {s : Sl} {vs : List V} {ss : List Sl} (m : MAll K Ha B H (v :: vs) (s :: ss))
    (hn : ∀ (j : Nat) oj p, ρ[j]? = some (.own oj) → σ[j]? = some (some (.ref p)) → Ha p = none → s = .no) : EnvOk K G B H (σ.set i (some v)) (ρ.set i s) := by
  cases m with
  | dat h t => exact x.setDat h
  | own h0 hb ok hd t =>
    refine x.setAny ⟨_, rfl, hG _ h0, hb, ok⟩ fun o' p' e1 e2 j oj _ hj hs => ?_
    cases e2
    have := hn j oj _ hj hs h0
    cases this
/-- a, b = x, y -/
def wPar (i j : Nat) (wm : WM) : WS := fun ρ O => wm ρ fun ss => match ss with
  | [a, b] => O.nx ((ρ.set i a).set j b)
  | _ => False
theorem ev_par {K : PySem.W.Frag} {i j : Nat} {ta : TA} (h : EvM K ta wm) (hij : i ≠ j) : EvS K (tPar i j ta) (wPar i j wm) := fun G B H σ ρ O En x k w =>
  h G B H σ ρ _ x w _ fun vs ss B1 H1 w1 g1 s1 m => by
    have x1 := x.step g1 s1
    have hG : ∀ p, H p = none → G.H0 p = none := fun p hp => x.go.back hp
    have old : ∀ {Z : Prop} (j : Nat) oj p, ρ[j]? = some (Sl.own oj) → σ[j]? = some (some (V.ref p)) → H p = none → Z := fun j oj p h1 h2 h3 => by
      obtain ⟨q, e1, _, _, h4⟩ := x.getOwn h1
      rw [e1] at h2
      cases h2
      obtain ⟨t, ht⟩ := h4.some
      rw [h3] at ht; cases ht
    split at w1
    · rename_i a b
      have x2 : ∀ v v2, MAll K H B1 H1 [v, v2] [a, b] → EnvOk K G B1 H1 (σ.set i (some v)) (ρ.set i a) := fun v v2 m => x1.setSl hG m fun j oj p h1 h2 h3 => old j oj p h1 h2 h3
      have fin : ∀ v v2, MAll K H B1 H1 [v, v2] [a, b] → MAll K H B1 H1 [v2] [b] → EnvOk K G B1 H1 ((σ.set i (some v)).set j (some v2)) ((ρ.set i a).set j b) := fun v v2 m m2 => by
        cases m2 with
        | dat hd t => exact (x2 v v2 m).setDat hd
        | own h0 hb ok hd t =>
          refine (x2 v _ m).setAny ⟨_, rfl, hG _ h0, hb, ok⟩ fun o' p' e1 e2 l ol _ hl hs => ?_
          cases e2
          rcases set_cases hl with ⟨e3, e4⟩ | ⟨e3, e4⟩
          · rcases set_cases hs with ⟨_, e5⟩ | ⟨n, _⟩
            · have e6 : v = .ref _ := Option.some.inj e5
              subst e6
              subst e4
              cases m with
              | own _ _ _ hd' _ => exact hd' 0 _ rfl rfl
            · exact n e3
          · rcases set_cases hs with ⟨n, _⟩ | ⟨_, e5⟩
            · exact e3 n
            · exact old l ol _ e4 e5 h0
      cases m with
      | dat hd t =>
        cases t with
        | dat hd2 t2 => cases t2; exact ⟨_, _, rfl, k.nx _ _ B1 H1 w1 (fin _ _ (.dat hd (.dat hd2 .nil)) (.dat hd2 .nil))⟩
        | own a b c d t2 => cases t2; exact ⟨_, _, rfl, k.nx _ _ B1 H1 w1 (fin _ _ (.dat hd (.own a b c d .nil)) (.own a b c d .nil))⟩
      | own a b c d t =>
        cases t with
        | dat hd2 t2 => cases t2; exact ⟨_, _, rfl, k.nx _ _ B1 H1 w1 (fin _ _ (.own a b c d (.dat hd2 .nil)) (.dat hd2 .nil))⟩
        | own a2 b2 c2 d2 t2 => cases t2; exact ⟨_, _, rfl, k.nx _ _ B1 H1 w1 (fin _ _ (.own a b c d (.own a2 b2 c2 d2 .nil)) (.own a2 b2 c2 d2 .nil))⟩
    · exact w1.elim
theorem x_par (i j : Nat) {x y : Str} {a b : Expr} {ta : TA} {px py pt : Pos} {kt k2 : Nat} {pt2 : Pos} (h : PXM X [a, b] ta wm) (hN : X.N.Nodup) (hi : X.N[i]? = some x := by rfl) (hj : X.N[j]? = some y := by rfl) (hij : i ≠ j := by decide) (hx : X.env.scope.names.lookup x = some .local := by rfl) (hy : X.env.scope.names.lookup y = some .local := by rfl)
    (hw : swappedStores [.Tuple [.Name x px, .Name y py] kt pt] (.Tuple [a, b] k2 pt2) X.env = pure (some [x, y]) := by rfl) (hs : swapsWithSole [.Tuple [.Name x px, .Name y py] kt pt] (.Tuple [a, b] k2 pt2) pos.line X.env = pure false := by rfl) (hc : X.calm = true := by rfl) :
    PXS X (.Assign [.Tuple [.Name x px, .Name y py] kt pt] (.Tuple [a, b] k2 pt2) pos) (tPar i j ta) (wPar i j wm) := ⟨ps_par hc hN hi hj hij hx hy h.pe hw hs, ev_par h.ev hij⟩
/-- a, b, c = x, y, z (data) -/
def wPar3 (i j l : Nat) (wa : WA) : WS := fun ρ O => wa ρ fun ds => match ds with
  | [a, b, c] => O.nx (((ρ.set i (.dat a)).set j (.dat b)).set l (.dat c))
  | _ => False
theorem x_par3 (i j l : Nat) {x y z : Str} {a b c : Expr} {ta : TA} {wa : WA} {n : Nat} {px py pz pt : Pos} {kt k2 : Nat} {pt2 : Pos} (h : PXA X [a, b, c] n ta wa) (hN : X.N.Nodup) (hi : X.N[i]? = some x := by rfl) (hj : X.N[j]? = some y := by rfl) (hl : X.N[l]? = some z := by rfl)
    (hij : i ≠ j := by decide) (hil : i ≠ l := by decide) (hjl : j ≠ l := by decide) (hx : X.env.scope.names.lookup x = some .local := by rfl) (hy : X.env.scope.names.lookup y = some .local := by rfl) (hz : X.env.scope.names.lookup z = some .local := by rfl)
    (hw : swappedStores [.Tuple [.Name x px, .Name y py, .Name z pz] kt pt] (.Tuple [a, b, c] k2 pt2) X.env = pure (some [x, y, z]) := by rfl) (hs : swapsWithSole [.Tuple [.Name x px, .Name y py, .Name z pz] kt pt] (.Tuple [a, b, c] k2 pt2) pos.line X.env = pure false := by rfl) (hc : X.calm = true := by rfl) :
    PXS X (.Assign [.Tuple [.Name x px, .Name y py, .Name z pz] kt pt] (.Tuple [a, b, c] k2 pt2) pos) (tPar3 i j l ta) (wPar3 i j l wa) := ⟨ps_par3 hc hN hi hj hl hij hil hjl hx hy hz h.pe hw hs, fun G B H σ ρ O En x k w =>
  h.ev G B H σ ρ _ x w _ fun vs ds B1 H1 l w1 g1 s1 h1 => by
    have x1 := x.step g1 s1
    split at w1
    · cases h1 with
      | cons a t =>
        cases t with
        | cons b t =>
          cases t with
          | cons c t =>
            cases t
            exact ⟨_, _, _, rfl, k.nx _ _ B1 H1 w1 (((x1.setDat a).setDat b).setDat c)⟩
    · exact w1.elim⟩
/-- y = [.. for ..], y a plain local -/
theorem x_setLc (i : Nat) (own : List (Str × Nat)) {y : Str} {py : Pos} {elt tg iter : Expr} {ifs : List Expr} {scope : Scope} {cpos : Pos} {wi : TI} {w : WI} {g : Shared → Hp → Addr → List (Str × Addr) → List Addr → TG} {is : List Nat} {wg : WG} {tt : Shared → Hp → Addr → List (Str × Addr) → List Addr → TT} {wt : WT} {te : Shared → Hp → Addr → List (Str × Addr) → List Addr → TE} {we : WE} (nd : X.N.Nodup) (hi : PXI X tg iter wi w) (ok : blkC X.N X.env.scope scope own = true)
    (hg : ∀ (s : Shared) (H : Hp) (C : Addr) (cl : List (Str × Addr)) (fp : List Addr), PXG (X.blk s H scope (compEnvC scope cl C X.env) fp) tg (g s H C cl fp) is wg)
    (ht : ∀ (s : Shared) (H : Hp) (C : Addr) (cl : List (Str × Addr)) (fp : List Addr), PXTs (X.blk s H scope (compEnvC scope cl C X.env) fp) ifs (tt s H C cl fp) wt)
    (he : ∀ (s : Shared) (H : Hp) (C : Addr) (cl : List (Str × Addr)) (fp : List Addr), PX (X.blk s H scope (compEnvC scope cl C X.env) fp) elt (te s H C cl fp) we)
    (hsw : swapsWith (.ListComp elt [⟨tg, iter, ifs, 0⟩] scope cpos) (some (.Name y py)) pos.line X.env = pure true)
    (hsub : ∀ i ∈ is, i ∈ own.map (·.2) := by decide) (hge : ∀ (s : Shared) (H : Hp) (C : Addr) (cl : List (Str × Addr)) (fp : List Addr), g s H C cl fp = g X.s_0 X.H_0 0 [] [] := by intros; rfl) (hte : ∀ (s : Shared) (H : Hp) (C : Addr) (cl : List (Str × Addr)) (fp : List Addr), tt s H C cl fp = tt X.s_0 X.H_0 0 [] [] := by intros; rfl) (hee : ∀ (s : Shared) (H : Hp) (C : Addr) (cl : List (Str × Addr)) (fp : List Addr), te s H C cl fp = te X.s_0 X.H_0 0 [] [] := by intros; rfl) (hy : X.N[i]? = some y := by rfl) (hyl : X.env.scope.names.lookup y = some .local := by rfl) (hc : X.calm = true := by rfl) (hs : ∀ x, foldedSetIterable iter X.env x = pure x := by intro _; rfl) :
    PXS X (.Assign [.Name y py] (.ListComp elt [⟨tg, iter, ifs, 0⟩] scope cpos) pos) (tAsg (tLc wi (g X.s_0 X.H_0 0 [] []) (tt X.s_0 X.H_0 0 [] []) (te X.s_0 X.H_0 0 [] []) (own.map (·.2))) (gName i)) (wSetO i (wLc w wg wt we (own.map (·.2)))) :=
  ⟨ps_setLc hc nd hy hyl hsw hi.pe (blkOk_by ok) (fun s H C cl fp => hge s H C cl fp ▸ (hg s H C cl fp).pe) (fun s H C cl fp => hte s H C cl fp ▸ (ht s H C cl fp).pe) (fun s H C cl fp => hee s H C cl fp ▸ (he s H C cl fp).pe) hs,
    ev_setO i (ev_lc hi.ev (hg X.s_0 X.H_0 0 [] []).ev (ht X.s_0 X.H_0 0 [] []).ev (he X.s_0 X.H_0 0 [] []).ev hsub)⟩
end

/-! ### a def's body -/
open PySem.Spec PyProof.Rows
def env0 (m : Nat) (b : Bool) (ds : List D) : Env := ((if b then [Sl.src] else []) ++ ds.map Sl.dat) ++ List.replicate (m - ((if b then 1 else 0) + ds.length)) Sl.no
theorem slots_of {K : PySem.W.Frag} {G : Gm} {B H : Hp} {σ : L2.St} {ρ : Env} (h : Paired (fun x s => SlOk K G B H x s) σ ρ) : ∀ (i : Nat) x s, σ[i]? = some x → ρ[i]? = some s → SlOk K G B H x s := by
  induction h with
  | nil => intro i x s e; simp at e
  | cons h t ih =>
    intro i x s e1 e2
    cases i with
    | zero => cases e1; cases e2; exact h
    | succ i => exact ih i x s (by simpa using e1) (by simpa using e2)
theorem paired_app {α β : Type} {F : α → β → Prop} : ∀ {a c : List α} {b d : List β}, Paired F a b → Paired F c d → Paired F (a ++ c) (b ++ d)
  | _, _, _, _, .nil, h => h
  | _, _, _, _, .cons h t, g => .cons h (paired_app t g)
theorem paired_no {K : PySem.W.Frag} {G : Gm} {B H : Hp} : ∀ n : Nat, Paired (fun x s => SlOk K G B H x s) (List.replicate n (none : Option V)) (List.replicate n Sl.no)
  | 0 => .nil
  | n + 1 => .cons trivial (paired_no n)
theorem paired_dat {K : PySem.W.Frag} {G : Gm} {B H : Hp} : ∀ {vs : List V} {ds : List D}, DpAll K B vs ds → Paired (fun x s => SlOk K G B H x s) (vs.map some) (ds.map Sl.dat)
  | _, _, .nil => .nil
  | _, _, .cons h t => .cons ⟨_, rfl, h⟩ (paired_dat t)
theorem noOwn0 {m : Nat} {b : Bool} {ds : List D} {i : Nat} {o : Ow} : (env0 m b ds)[i]? ≠ some (.own o) := fun h => by
  have h := List.mem_of_getElem? h
  unfold env0 at h
  rcases List.mem_append.mp h with h | h
  · rcases List.mem_append.mp h with h | h
    · cases b with
      | true => simp at h
      | false => simp at h
    · obtain ⟨d, _, e⟩ := List.mem_map.mp h
      cases e
  · have := List.eq_of_mem_replicate h
    cases this
theorem env_start {K : PySem.W.Frag} {S : SA} {B H : Hp} {N : List Str} {b : Bool} {us : List V} {ds : List D} (hb : b = true → S.isSome = true) (hs : SrcOk S B H) (h : Same B H) (hd : DpAll K B us ds) (hl : (srcA b S ++ us).length ≤ N.length) :
    EnvOk K ⟨S, B, H⟩ B H (L2.start N (srcA b S ++ us)) (env0 N.length b ds) := by
  have pr : Paired (fun x s => SlOk K ⟨S, B, H⟩ B H x s) (L2.start N (srcA b S ++ us)) (env0 N.length b ds) := by
    unfold L2.start env0
    have hlen : (srcA b S ++ us).length = (if b then 1 else 0) + ds.length := by
      rw [List.length_append, hd.len]
      cases b with
      | false => rfl
      | true =>
        cases S with
        | none => cases hb rfl
        | some sc => rfl
    rw [hlen]
    refine paired_app ?_ (paired_no _)
    rw [List.map_append]
    refine paired_app ?_ (paired_dat hd)
    cases b with
    | false => exact .nil
    | true =>
      cases S with
      | none => cases hb rfl
      | some sc => exact .cons ⟨sc.1, sc.2, rfl, rfl⟩ .nil
  refine ⟨Go.refl h, hs, fun s c e => ?_, Paired.length pr, slots_of pr, fun i j p oi oj e => absurd e noOwn0⟩
  obtain ⟨_, _, _, _, a3, a4⟩ := hs s c e
  exact ⟨⟨_, a3⟩, _, a4⟩
section
variable {P : Program} {w : World} {K : PySem.W.Frag} {mg : Str → Option Value} {base : Heap}
/-- the context of a def's body -/
abbrev bodyX (P : Program) (w : World) (K : PySem.W.Frag) (mg : Str → Option Value) (base : Heap) (N : List Str) (qual : Str) (st : Stmt) (f : Addr) (cdv : Value) (A : Around) (outer : List PySem.Env) (s : Shared) (H : Hp) (E : XK) : Cx :=
  (cxOf CX0 P w K mg base N qual (defScope st) f cdv A outer s H E).nox
theorem fn_ok {x qual : Str} {st : Stmt} {f : Addr} {fd : FuncData} {N ps : List Str} {k n : Nat} {b : Bool} {wf : List D → (D → Prop) → Prop} (F : Fun K x qual st f fd) (S : FnScope N ps (defScope st)) (hl : ps.length = (if b then 1 else 0) + n)
    (hbody : ∀ (cdv : Value) (A : Around) (outer : List PySem.Env) (s : Shared) (H : Hp) (E : XK), Room k (A.deeper (envOfC qual (defScope st) s.heap.objs.size f cdv)) → ∃ ts wb, PXSs (bodyX P w K mg base N qual st f cdv A outer s H E) (defBody st) ts wb ∧
      ∀ (ds : List D) (R : D → Prop), ds.length = n → wf ds R → wb (env0 N.length b ds) ⟨fun _ => R .none, R, fun _ => False, fun _ => False⟩) : FnP P w K mg base (k + 1) f fd ps b n wf := by
  have hlen : ∀ (S : SA) (us : List V) (ds : List D) (B : Hp), (b = true → S.isSome = true) → ds.length = n → DpAll K B us ds → (srcA b S ++ us).length = ps.length := fun S us ds B hb hn hd => by
    rw [List.length_append, hd.len, hn, hl]
    cases b with
    | false => rfl
    | true =>
      cases S with
      | none => cases hb rfl
      | some sc => rfl
  refine F.ok S (fun vs H Q E h => ?_) (fun cdv A outer s H vs Q E hr h => ?_)
  · obtain ⟨S', B, us, ds, R, hb, _, _, rfl, hn, hd, _⟩ := h
    exact hlen S' us ds B hb hn hd
  · obtain ⟨S', B, us, ds, R, hb, hs, hsame, rfl, hn, hd, hwf, hq⟩ := h
    obtain ⟨ts, wb, hbd, hw⟩ := hbody cdv A outer s H E hr
    have hle : (srcA b S' ++ us).length ≤ N.length := by
      rw [hlen S' us ds B hb hn hd, ← S.pre, List.length_take]
      exact Nat.min_le_right _ _
    refine ⟨ts, hbd.pe, ?_⟩
    exact hbd.ev ⟨S', B, H⟩ B H _ _ _ _ (env_start hb hs hsame hd hle) ⟨fun ρ σ B2 H2 r x2 => hq .non .none B2 H2 r x2.go x2.src .non, fun v d B2 H2 r g s2 h2 => hq v d B2 H2 r g s2 h2, fun _ _ _ _ z _ => z, fun _ _ _ _ z _ => z⟩ (hw ds R hn hwf)
end
end PL
/-! Layer P, part 6: a def of the text as one fact; further operations. -/
namespace PL
open PySem L2 PySem.Spec PyProof.Rows

/-- the module's name x holds the def st of the text -/
structure DefAt (K : PySem.W.Frag) (mg : Str → Option Value) (x : Str) (st : Stmt) : Prop where
  ex : ∃ (f : Addr) (fd : FuncData), Fun K x x st f fd ∧ mg x = some (.ref f)
section
variable {P : Program} {w : World} {K : PySem.W.Frag} {mg : Str → Option Value} {base : Heap}
theorem def_ok {x : Str} {st : Stmt} {N ps : List Str} {k n : Nat} {b : Bool} {wf : List D → (D → Prop) → Prop} (A : DefAt K mg x st) (S : FnScope N ps (defScope st)) (hl : ps.length = (if b then 1 else 0) + n)
    (hbind : ∀ (kV doc pm : Value) (an : Option Addr) (cdv ct : Value) (us : List Value), us.length = ps.length → bindArgs (PySem.W.fnOf x x (defArgs st) (defBody st) (defScope st) .none kV doc pm an cdv ct) ⟨us, []⟩ = pure (ps.zip us))
    (hbody : ∀ (f : Addr) (cdv : Value) (A : Around) (outer : List PySem.Env) (s : Shared) (H : Hp) (E : XK), Room k (A.deeper (envOfC x (defScope st) s.heap.objs.size f cdv)) → ∃ ts wb, PXSs (bodyX P w K mg base N x st f cdv A outer s H E) (defBody st) ts wb ∧
      ∀ (ds : List D) (R : D → Prop), ds.length = n → wf ds R → wb (env0 N.length b ds) ⟨fun _ => R .none, R, fun _ => False, fun _ => False⟩) : DefP P w K mg base (k + 1) x b n wf := by
  obtain ⟨f, fd, F, hm⟩ := A.ex
  exact ⟨f, fd, ps, fn_ok F S hl (hbody f), hm, F.kp, F.binds hbind⟩
end

section
variable {X : Cx} {pos : Pos} {a b e : Expr} {ta tb te : TE} {wa wb we : WE}
/-! list + list -/
def rCatL (K : PySem.W.Frag) : R2 := fun x y H Q => ∃ l m xs ys, x = .ref l ∧ y = .ref m ∧ SqL K H l xs ∧ SqL K H m ys ∧ xs.length + ys.length ≤ sizeLine ∧ ∀ p, H p = none → Q (.ref p) (upd H p (.lst (xs ++ ys)))
theorem op_catL : OpR X (binaryOp .Add) (rCatL X.K) := by
  intro pins s σ H x y v u Q I rx ry h
  obtain ⟨l, m, xs, ys, rfl, rfl, h1, h2, hz, q⟩ := h
  cases rx
  cases ry
  obtain ⟨i1, r1, ⟨⟨c1, d1, a1, sl1⟩, n1, g1, hc1, hd1, ha1⟩, _⟩ := I.list h1
  obtain ⟨i2, r2, ⟨⟨c2, d2, a2, sl2⟩, n2, g2, hc2, hd2, ha2⟩, _⟩ := I.list h2
  simp only at hc1 hd1 ha1 hc2 hd2 ha2
  subst hc1 hd1 ha1 hc2 hd2 ha2
  have l1 := r1.length
  have l2 := r2.length
  refine concat_meets ⟨_, g1, rfl⟩ ⟨_, g2, rfl⟩ noFill_list_add seq_list_add PySem.F.slot_list_add PySem.F.entry_list_add (PySem.F.args_list_add_2 _ _) (list_addW l m i1.toArray i2.toArray n1 n2 none none sl1 sl2 (by rw [List.size_toArray, List.size_toArray]; omega)) ⟨g1, g2, ?_⟩
  have ea : i1.toArray ++ i2.toArray = (i1 ++ i2).toArray := by simp
  rw [ea]
  exact ⟨.ref s.heap.objs.size, _, I.laid (t' := s.toks) (o := .lst (xs ++ ys)) (fun b o k => Heap.get?_push_of_some _ k) (Nat.le_refl _) ⟨by rw [List.length_append]; omega, i1 ++ i2, _, r1.append r2, Heap.get?_push_size _ rfl⟩, rfl, q _ (I.hok.fresh (Nat.le_refl _))⟩
def wCatL (wa wb : WE) : WO := fun ρ P => wa ρ fun d => wb ρ fun e => match d, e with
  | .list xs, .list ys => xs.length + ys.length ≤ 10000000 ∧ P (.lst (xs ++ ys))
  | _, _ => False
theorem o_catL (ha : PX X a ta wa) (hb : PX X b tb wb) : PXO X (.BinOp a .Add b pos) (tOp (rCatL X.K) ta tb) (wCatL wa wb) := ⟨pe_op op_catL ha.pe hb.pe, fun G B H σ ρ P x w Q q =>
  ha.ev G B H σ ρ _ x w _ fun v d B1 H1 w1 g1 s1 h1 => hb.ev G B1 H1 σ ρ _ (x.step g1 s1) w1 _ fun u e B2 H2 w2 g2 s2 h2 => by
    have h1' := h1.up g2.b
    split at w2
    · cases h1' with
      | lst hs hd =>
        cases h2 with
        | lst hs' hd' => exact ⟨_, _, _, _, rfl, rfl, sqL_same g2.bh hs, sqL_same g2.bh hs', by rw [hd.len, hd'.len, sizeLine_eq]; omega, fun r hr =>
            q r _ B2 _ w2.2 ((g1.trans g2).trans (Go.own g2.bh hr)) (s2.own g2.bh hr) ((g1.trans g2).back hr) (none_back g2.bh hr) ⟨_, upd_same, hd.app hd'⟩⟩
    · exact w2.elim⟩
theorem x_catL (ha : PX X a ta wa) (hb : PX X b tb wb) : PX X (.BinOp a .Add b pos) (tOp (rCatL X.K) ta tb) (fun ρ P => wCatL wa wb ρ (frz P)) := x_frz (o_catL ha hb)
/-! x.bit_length() -/
def wBits (wa : WE) : WE := fun ρ P => wa ρ fun d => match d with
  | .int i => P (.int (Builtin.Int.intBits i : Nat))
  | _ => False
theorem x_bits {apos : Pos} (ha : PX X e te we) (hbase : attributeBase e "bit_length" X.env (eval e X.env) = eval e X.env := by rfl) (hline : (apos.endLine == pos.line) = true := by rfl) : PX X (.Call (.Attribute e "bit_length" apos) [] [] pos) (tBits te) (wBits we) := ⟨pe_bits ha.pe hbase hline, fun G B H σ ρ P x w Q q =>
  ha.ev G B H σ ρ _ x w _ fun v d B1 H1 w1 g1 s1 h1 => by
    split at w1
    · cases h1; exact ⟨_, rfl, q _ _ B1 H1 w1 g1 s1 (.int _)⟩
    · exact w1.elim⟩
/-! x //= e, x *= e -/
theorem ip_divW : PIp X .FloorDiv (rI CDivW fun i j => .int (i / j)) := fun pins s σ H x y v u Q I r1 r2 h => iop_fdivW pins s σ H x y v u Q I r1 r2 h
theorem rel_ipD {K : PySem.W.Frag} : RelD K (rI CDivW fun i j => .int (i / j)) fDiv := rel_I fun i j => dpc_int _
/-! a loop over a list or a tuple, whichever comes -/
def iSeq (K : PySem.W.Frag) (tl : TE) : TI := fun σ H R => tl σ H fun x H1 => ∃ a, x = .ref a ∧ (((∃ xs, SqL K H1 a xs) ∧ R (Itl K a) H1) ∨ ((∃ xs, SqT K H1 a xs) ∧ R (Itt K a) H1))
theorem pi_seq {tg l : Expr} {tl : TE} (hl : PE X l tl) : PI X tg l (iSeq X.K tl) := by
  refine ⟨fun pins s σ H R I h => thn (hl.run pins s σ H _ I h) fun v s1 hv => ?_⟩
  obtain ⟨x, H1, I1, r1, a, e, q⟩ := hv
  subst e
  cases r1
  have fp : ∀ b ∈ [s1.heap.objs.size], FpOk X pins H1 b := fun b hb => by
    rw [List.mem_singleton.mp hb]
    exact I1.fpOk (Nat.le_refl _) (I1.hok.fresh (Nat.le_refl _))
  rcases q with ⟨⟨xs, hq⟩, q⟩ | ⟨⟨xs, hq⟩, q⟩
  · obtain ⟨its, _, pl, _⟩ := I1.list hq
    exact wpAny_pyIter_list pl.isList ⟨_, [_], _, _, H1, rfl, I1.kept (t' := s1.toks) fun b o k => Heap.get?_push_of_some _ k, turn_list a _, ⟨_, Heap.get?_push_size _ rfl, rfl, rfl⟩, fp, q⟩
  · obtain ⟨its, _, pl, _⟩ := I1.tuple hq
    exact wpAny_pyIter_tuple (show s1.heap.IsTuple a its.toArray from pl) ⟨_, [_], _, _, H1, rfl, I1.kept (t' := s1.toks) fun b o k => Heap.get?_push_of_some _ k, turn_tuple a _, ⟨_, Heap.get?_push_size _ rfl, rfl, rfl⟩, fp, q⟩
def wISeq (we : WE) : WI := fun ρ P => we ρ fun d => match d with
  | .list ds => P ds
  | .tuple ds => P ds
  | _ => False
theorem it_lst {K : PySem.W.Frag} {S : SA} {B : Hp} {p : Addr} {vs : List V} {ds : List D} (hs : SqL K B p vs) (hd : DpAll K B vs ds) (inj : ∀ H' ys, Same B H' → SqL K H' p ys → True) : ItOk K S (Itl K p) ds B :=
  ⟨fun H' e => ⟨vs, sqL_same e hs, Nat.le_of_eq hd.len⟩, fun i H' e hi => by
    have hi' : i < vs.length := by rw [hd.len]; exact hi
    exact ⟨vs, vs[i], sqL_same e hs, by simp [hi']⟩, fun i B' H' y H'' e1 e2 sr hi z => by
    obtain ⟨rfl, z⟩ := z
    obtain ⟨d, e3, e4⟩ := hd.atV (z vs (sqL_same (e1.trans e2) hs))
    exact ⟨d, B', e3, Go.refl e2, sr, e4.up e1⟩⟩
theorem it_tup {K : PySem.W.Frag} {S : SA} {B : Hp} {p : Addr} {vs : List V} {ds : List D} (hs : SqT K B p vs) (hd : DpAll K B vs ds) : ItOk K S (Itt K p) ds B :=
  ⟨fun H' e => ⟨vs, sqT_same e hs, Nat.le_of_eq hd.len⟩, fun i H' e hi => by
    have hi' : i < vs.length := by rw [hd.len]; exact hi
    exact ⟨vs, vs[i], sqT_same e hs, by simp [hi']⟩, fun i B' H' y H'' e1 e2 sr hi z => by
    obtain ⟨rfl, z⟩ := z
    obtain ⟨d, e3, e4⟩ := hd.atV (z vs (sqT_same (e1.trans e2) hs))
    exact ⟨d, B', e3, Go.refl e2, sr, e4.up e1⟩⟩
theorem xi_seq {tg : Expr} (h : PX X e te we) : PXI X tg e (iSeq X.K te) (wISeq we) := ⟨pi_seq h.pe, fun G B H σ ρ P x w R r =>
  h.ev G B H σ ρ _ x w _ fun v d B1 H1 w1 g1 s1 h1 => by
    split at w1
    · cases h1 with
      | lst hs hd => exact ⟨_, rfl, .inl ⟨⟨_, sqL_same g1.bh hs⟩, r _ _ B1 H1 w1 g1 s1 (it_lst hs hd fun _ _ _ _ => trivial)⟩⟩
    · cases h1 with
      | tup hs hd => exact ⟨_, rfl, .inr ⟨⟨_, sqT_same g1.bh hs⟩, r _ _ B1 H1 w1 g1 s1 (it_tup hs hd)⟩⟩
    · exact w1.elim⟩
end
end PL
/-! Layer P, part 7: the law's own source (a dict and its cells). -/
namespace PL
open PySem L2 PySem.Spec PyProof.Rows

section
variable {X : Cx} {pos : Pos} {e : Expr} {te : TE} {we : WE}
/-- a walk alone; its reading promises nothing -/
theorem x_raw (h : PE X e te) : PX X e te (fun _ _ => False) := ⟨h, fun _ _ _ _ _ _ _ w => w.elim⟩
theorem x_sget {o : Expr} {k : Str} {j : Nat} {p2 : Pos} {to : TE} {wo : WE} (hu : X.A.units + 64 < cLine) (ho : PX X o to wo) : PX X (.Subscript o (.Constant (.str k) j p2) pos) (tDGet to (tC (.str k))) (fun _ _ => False) :=
  x_raw (pe_dget (by omega) ho.pe pe_str (fun _ _ => rfl))
theorem x_sput {o : Expr} {k : Str} {j : Nat} {p1 p2 : Pos} {to : TE} {wo : WE} (hu : X.A.units + 64 < cLine) (ho : PX X o to wo) (he : PX X e te we) (hs : swapsWith e (some (.Subscript o (.Constant (.str k) j p2) p1)) pos.line X.env = pure false := by rfl) :
    PXS X (.Assign [.Subscript o (.Constant (.str k) j p2) p1] e pos) (sDPut to (tC (.str k)) te) (fun _ _ => False) := ⟨ps_dput (by omega) ho.pe pe_str he.pe hs, fun _ _ _ _ _ _ _ _ _ w => w.elim⟩
theorem x_spop {apos : Pos} (he : PX X e te we) (hbase : attributeBase e "pop" X.env (eval e X.env) = eval e X.env := by rfl) (hline : (apos.endLine == pos.line) = true := by rfl) :
    PX X (.Call (.Attribute e "pop" apos) [] [] pos) (tBM0 X.K "list" rPop te) (fun _ _ => False) := x_raw (pe_bm0 PySem.F.plainAttrs_list PySem.F.slot_list_pop PySem.F.type_list_pop mt_pop he.pe hbase hline)
end
theorem src_cells {c : Addr} {x : SrcSt} : valV (srcK c x) (.inr "cells") = some (.ref c) := rfl
theorem src_left {c : Addr} {x : SrcSt} : valV (srcK c x) (.inr "left") = some (.int x.left) := rfl
theorem src_mixed {c : Addr} {x : SrcSt} : valV (srcK c x) (.inr "mixed") = some (.int x.mixed) := rfl
theorem src_turn {c : Addr} {x : SrcSt} : valV (srcK c x) (.inr "turn") = some (.int x.turn) := rfl
theorem put_left {c : Addr} {x : SrcSt} {z : Int} : putK (srcK c x) (.inr "left") (.int z) = srcK c { x with left := z } := rfl
theorem put_mixed {c : Addr} {x : SrcSt} {z : Int} : putK (srcK c x) (.inr "mixed") (.int z) = srcK c { x with mixed := z } := rfl
theorem put_turn {c : Addr} {x : SrcSt} {z : Int} : putK (srcK c x) (.inr "turn") (.int z) = srcK c { x with turn := z } := rfl
/-- the source stands, and all else as in H0 -/
structure SrcAt (s c : Addr) (x : SrcSt) (H0 H : Hp) : Prop where
  g : SrcGood x
  d : H s = some (.dK (srcK c x))
  l : H c = some (.lst (x.cells.map V.int))
  k : ∀ a, a ≠ s → a ≠ c → H a = H0 a
  n : s ≠ c
section
variable {s c : Addr} {x : SrcSt} {H0 H : Hp}
theorem SrcAt.get {y : Str} {v : V} (h : SrcAt s c x H0 H) (e : valV (srcK c x) (.inr y) = some v) : DGet H s (.str y) (some v) := by
  have := DGet.k (k := .inr y) h.d
  rw [e] at this
  exact this
theorem SrcAt.put {y : Str} {v : V} {x' : SrcSt} (h : SrcAt s c x H0 H) (e : putK (srcK c x) (.inr y) v = srcK c x') (hc : x'.cells = x.cells) (g : SrcGood x') : DPut H s (.str y) v (upd H s (.dK (srcK c x'))) ∧ SrcAt s c x' H0 (upd H s (.dK (srcK c x'))) := by
  have := DPut.k (k := .inr y) (v := v) h.d (by rw [sizeLine_eq]; show 4 < _; omega)
  rw [e] at this
  exact ⟨this, ⟨g, upd_same, by rw [upd_ne (Ne.symm h.n), hc]; exact h.l, fun a h1 h2 => by rw [upd_ne h1]; exact h.k a h1 h2, h.n⟩⟩
theorem SrcAt.pop {y : Int} {l : List Int} (h : SrcAt s c x H0 H) (e : x.cells = l ++ [y]) : 0 ≤ y ∧ (x.cells.map V.int)[(x.cells.map V.int).length - 1]? = some (.int y) ∧ SrcAt s c { x with cells := l } H0 (upd H c (.lst (x.cells.map V.int).dropLast)) := by
  refine ⟨h.g.cells y (by rw [e]; simp), by rw [e]; simp, ⟨⟨fun z hz => h.g.cells z (by rw [e]; simp [hz]), ?_, h.g.left, h.g.m0, h.g.m1, h.g.turn⟩, ?_, ?_, ?_, h.n⟩⟩
  · have := h.g.few
    rw [e] at this
    simp at this
    show l.length ≤ 63
    omega
  · rw [upd_ne h.n]; exact h.d
  · rw [upd_same, e]; simp
  · intro a h1 h2
    rw [upd_ne h2]
    exact h.k a h1 h2
theorem SrcAt.go {S : SA} {B : Hp} (h : SrcAt s c x H0 H) (hS : S = some (s, c)) (e : Same B H0) (hs : SrcOk S B H0) : Go S B H0 B H ∧ SrcOk S B H := by
  obtain ⟨b1, b2, x0, g0, d0, l0⟩ := hs s c hS
  refine ⟨⟨Same.refl B, fun a o ea => ?_, fun a o ea ha => ?_, fun _ _ _ e => e, fun a o ea => ?_⟩, fun s' c' e' => ?_⟩
  · have h1 : a ≠ s := fun z => by rw [z, b1] at ea; cases ea
    have h2 : a ≠ c := fun z => by rw [z, b2] at ea; cases ea
    rw [h.k a h1 h2]
    exact e a o ea
  · obtain ⟨h1, h2⟩ := ha s c hS
    rw [h.k a h1 h2]
    exact ea
  · by_cases h1 : a = s
    · exact ⟨_, by rw [h1]; exact h.d⟩
    · by_cases h2 : a = c
      · exact ⟨_, by rw [h2]; exact h.l⟩
      · exact ⟨o, by rw [h.k a h1 h2]; exact ea⟩
  · rw [hS] at e'
    cases e'
    exact ⟨b1, b2, x, h.g, h.d, h.l⟩
end
def wPick : WS := fun ρ O => ∃ m : Int, ρ = [.src, .dat (.int m), .no, .no] ∧ 0 < m ∧ m < 2 ^ 60 ∧ ∀ r : Int, 0 ≤ r → r < m → O.rt (.int r)
def wf_law_pick : List D → (D → Prop) → Prop := fun ds R => ∃ m : Int, ds = [.int m] ∧ 0 < m ∧ m < 2 ^ 60 ∧ ∀ r : Int, 0 ≤ r → r < m → R (.int r)
end PL
/-! Layer P, part 8: what _law_pick hands back. -/
namespace PL
open PySem L2 PySem.Spec PyProof.Rows
theorem if_t {c : Bool} {A B : Prop} (hc : c = true) (h : A) : if c = true then A else B := by rw [if_pos hc]; exact h
theorem if_f {c : Bool} {A B : Prop} (hc : c = false) (h : B) : if c = true then A else B := by rw [hc, if_neg (by decide)]; exact h
abbrev tG (k : String) : TE := tDGet (tVar 0) (tC (.str (Str.ofString k)))
abbrev tI1 (t : TE) : TE := tCB (fun xs H Q => (∃ i, xs = [V.int i] ∧ Q (V.int i) H) ∨ ∃ k, xs = [V.bl k] ∧ Q (V.int (if k = true then 1 else 0)) H) (tCons t tNil)
abbrev tMx (a b : TE) : TE := tCB (fun xs H Q => ∃ i j, xs = [V.int i, V.int j] ∧ Q (V.int (if j > i then j else i)) H) (tCons a (tCons b tNil))
abbrev tMod (a b : TE) : TE := tOp (rI (fun _ j => 0 < j) fun i j => V.int (i % j)) a b
abbrev tDivv (a b : TE) : TE := tOp (rI CDivW fun i j => V.int (i / j)) a b
abbrev tMl (a b : TE) : TE := tOp (rI PL.MulOk fun i j => V.int (i * j)) a b
abbrev tAd (a b : TE) : TE := tOp (rI0 fun i j => V.int (i + j)) a b
abbrev tGt (a b : TE) : TT := tTest (tOp (rI0 fun i j => V.bl (decide (j < i))) a b)
abbrev tLtt (a b : TE) : TT := tTest (tOp (rI0 fun i j => V.bl (decide (i < j))) a b)
def tsPick (K : PySem.W.Frag) : TS :=
  tSeq (tWhile (tAnd (tGt (tVar 1) (tC (.int 1))) (tAnd (tLtt (tG "left") (tC (.int 2))) (tGt (tCB (rLen K) (tCons (tG "cells") tNil)) (tC (.int 0)))))
      (sDPut (tVar 0) (tC (.str (Str.ofString "left"))) (tBM0 K "list" rPop (tG "cells"))))
  (tSeq (tAsg (tG "left") (gName 2))
  (tSeq (tIfS (tOr (tLtt (tVar 1) (tC (.int 2))) (tGt (tVar 2) (tC (.int 1))))
      (tSeq (sDPut (tVar 0) (tC (.str (Str.ofString "left"))) (tDivv (tVar 2) (tMx (tC (.int 1)) (tVar 1)))) (tRet (tMod (tI1 (tVar 2)) (tMx (tC (.int 1)) (tVar 1))))) tNext)
  (tSeq (sDPut (tVar 0) (tC (.str (Str.ofString "turn"))) (tAd (tG "turn") (tC (.int 1))))
  (tSeq (tAsg (tMod (tI1 (tAd (tG "mixed") (tMl (tG "turn") (tC (.int 104729))))) (tC (.int 998244353))) (gName 3))
  (tSeq (tAsg (tMod (tI1 (tAd (tMl (tVar 3) (tVar 3)) (tMl (tG "turn") (tC (.int 17))))) (tC (.int 2147483647))) (gName 3))
  (tSeq (sDPut (tVar 0) (tC (.str (Str.ofString "mixed"))) (tVar 3))
    (tRet (tMod (tI1 (tDivv (tVar 3) (tC (.int 16)))) (tVar 1)))))))))
theorem max1 {m : Int} (h : 0 < m) : (if m > 1 then m else 1) = m := by split <;> omega
theorem mulOk_r {i j : Int} (h1 : 0 ≤ j) (h2 : j < 2 ^ 60) : MulOk i j := .inl (.inr ⟨by omega, by omega⟩)
theorem divOk_s {i j : Int} (h1 : 0 < j) (h2 : j < 2 ^ 60) : CDivW i j := ⟨h1, by
  have : j.natAbs.log2 < 60 := PySem.Flt.log2_lt_of (by decide) (by omega)
  omega⟩
theorem ev_pick {K : PySem.W.Frag} : EvS K (tsPick K) wPick := by
  intro G B H σ ρ O En x e w
  obtain ⟨m, rfl, m0, m1, hr⟩ := w
  have hl := x.len
  match σ, hl with
  | [s0, s1, s2, s3], _ =>
  obtain ⟨s, c, hS, rfl⟩ := x.sl 0 _ _ rfl rfl
  obtain ⟨u, rfl, hd⟩ := x.sl 1 _ _ rfl rfl
  cases hd
  obtain ⟨b1, b2, X0, g0, d0, l0⟩ := x.src s c hS
  have hne : s ≠ c := fun z => by rw [z, l0] at d0; cases d0
  have A0 : SrcAt s c X0 H H := ⟨g0, d0, l0, fun _ _ _ => rfl, hne⟩
  have ret : ∀ x' H' r, SrcAt s c x' H H' → 0 ≤ r → r < m → En.rt (.int r) H' := fun x' H' r A r0 r1 => by
    obtain ⟨g, sr⟩ := A.go hS x.bh x.src
    exact e.rt _ _ B H' (hr r r0 r1) (x.go.trans g) sr (.int r)
  have A2 : ∀ (x1 : SrcSt) (s2 s3 : Option V) (H1 : Hp), SrcAt s c x1 H H1 → 2 ≤ m → (tSeq (sDPut (tVar 0) (tC (.str (Str.ofString "turn"))) (tAd (tG "turn") (tC (.int 1))))
      (tSeq (tAsg (tMod (tI1 (tAd (tG "mixed") (tMl (tG "turn") (tC (.int 104729))))) (tC (.int 998244353))) (gName 3))
      (tSeq (tAsg (tMod (tI1 (tAd (tMl (tVar 3) (tVar 3)) (tMl (tG "turn") (tC (.int 17))))) (tC (.int 2147483647))) (gName 3))
      (tSeq (sDPut (tVar 0) (tC (.str (Str.ofString "mixed"))) (tVar 3))
        (tRet (tMod (tI1 (tDivv (tVar 3) (tC (.int 16)))) (tVar 1))))))) En [some (.ref s), some (.int m), s2, s3] H1 := by
    intro x1 s2 s3 H1 A hm
    have g := A.g
    obtain ⟨p1, A1⟩ := A.put (y := "turn") (put_turn (z := x1.turn + 1)) rfl ⟨g.cells, g.few, g.left, g.m0, g.m1, by have := g.turn; show 0 ≤ x1.turn + 1; omega⟩
    refine ⟨_, rfl, s, _, rfl, A.get src_turn, _, _, rfl, rfl, _, rfl, s, _, rfl, p1, ?_⟩
    refine ⟨_, rfl, s, _, rfl, A1.get src_mixed, _, rfl, s, _, rfl, A1.get src_turn, _, _, rfl, rfl, mulOk_r (by decide) (by decide), _, _, rfl, rfl, .inl ⟨_, rfl, _, _, rfl, rfl, by show (0 : Int) < 998244353; decide, ?_⟩⟩
    dsimp only
    generalize hv : (x1.mixed + (x1.turn + 1) * 104729) % 998244353 = v
    have v0 : 0 ≤ v := by omega
    have v1 : v < 998244353 := by omega
    refine ⟨_, rfl, _, rfl, _, _, rfl, rfl, mulOk_r v0 (by omega), _, rfl, s, _, rfl, A1.get src_turn, _, _, rfl, rfl, mulOk_r (by decide) (by decide), _, _, rfl, rfl, .inl ⟨_, rfl, _, _, rfl, rfl, by show (0 : Int) < 2147483647; decide, ?_⟩⟩
    dsimp only
    generalize hv2 : (v * v + (x1.turn + 1) * 17) % 2147483647 = z
    have z0 : 0 ≤ z := by omega
    have z1 : z < 2147483647 := by omega
    obtain ⟨p3, A3⟩ := A1.put (y := "mixed") (put_mixed (z := z)) rfl ⟨g.cells, g.few, g.left, z0, z1, A1.g.turn⟩
    refine ⟨_, rfl, _, rfl, s, _, rfl, p3, ?_⟩
    refine ⟨_, rfl, _, _, rfl, rfl, divOk_s (by decide) (by decide), .inl ⟨_, rfl, _, rfl, _, _, rfl, rfl, m0, ?_⟩⟩
    exact ret _ _ _ A3 (Int.emod_nonneg _ (by omega)) (Int.emod_lt_of_pos _ m0)
  have A1 : ∀ (x1 : SrcSt) (s2 s3 : Option V) (H1 : Hp), SrcAt s c x1 H H1 → (tSeq (tAsg (tG "left") (gName 2))
      (tSeq (tIfS (tOr (tLtt (tVar 1) (tC (.int 2))) (tGt (tVar 2) (tC (.int 1))))
      (tSeq (sDPut (tVar 0) (tC (.str (Str.ofString "left"))) (tDivv (tVar 2) (tMx (tC (.int 1)) (tVar 1)))) (tRet (tMod (tI1 (tVar 2)) (tMx (tC (.int 1)) (tVar 1))))) tNext)
      (tSeq (sDPut (tVar 0) (tC (.str (Str.ofString "turn"))) (tAd (tG "turn") (tC (.int 1))))
      (tSeq (tAsg (tMod (tI1 (tAd (tG "mixed") (tMl (tG "turn") (tC (.int 104729))))) (tC (.int 998244353))) (gName 3))
      (tSeq (tAsg (tMod (tI1 (tAd (tMl (tVar 3) (tVar 3)) (tMl (tG "turn") (tC (.int 17))))) (tC (.int 2147483647))) (gName 3))
      (tSeq (sDPut (tVar 0) (tC (.str (Str.ofString "mixed"))) (tVar 3))
        (tRet (tMod (tI1 (tDivv (tVar 3) (tC (.int 16)))) (tVar 1))))))))) En [some (.ref s), some (.int m), s2, s3] H1 := by
    intro x1 s2 s3 H1 A
    have g := A.g
    refine ⟨_, rfl, s, _, rfl, A.get src_left, ?_⟩
    have fin : (tSeq (sDPut (tVar 0) (tC (.str (Str.ofString "left"))) (tDivv (tVar 2) (tMx (tC (.int 1)) (tVar 1)))) (tRet (tMod (tI1 (tVar 2)) (tMx (tC (.int 1)) (tVar 1))))) En [some (.ref s), some (.int m), some (.int x1.left), s3] H1 := by
      obtain ⟨p1, A1⟩ := A.put (y := "left") (put_left (z := x1.left / m)) rfl ⟨g.cells, g.few, Int.ediv_nonneg g.left (by omega), g.m0, g.m1, g.turn⟩
      refine ⟨_, rfl, _, rfl, _, _, rfl, ?_⟩
      rw [max1 m0]
      refine ⟨_, _, rfl, rfl, divOk_s m0 m1, _, rfl, s, _, rfl, p1, ?_⟩
      refine ⟨_, rfl, .inl ⟨_, rfl, _, rfl, _, _, rfl, ?_⟩⟩
      rw [max1 m0]
      refine ⟨_, _, rfl, rfl, m0, ?_⟩
      exact ret _ _ _ A1 (Int.emod_nonneg _ (by omega)) (Int.emod_lt_of_pos _ m0)
    refine ⟨_, rfl, _, _, rfl, rfl, _, rfl, ?_⟩
    by_cases h1 : m < 2
    · refine if_t (decide_eq_true h1) ?_
      refine if_t rfl fin
    · refine if_f (decide_eq_false h1) ?_
      refine ⟨_, rfl, _, _, rfl, rfl, _, rfl, ?_⟩
      by_cases h2 : 1 < x1.left
      · exact if_t (decide_eq_true h2) fin
      · exact if_f (decide_eq_false h2) (A2 x1 _ _ H1 A (by omega))
  refine ⟨fun k σ' H' => ∃ x', σ' = [some (.ref s), some (.int m), s2, s3] ∧ SrcAt s c x' H H' ∧ x'.cells.length = k, ⟨_, X0, rfl, A0, rfl⟩, ?_⟩
  rintro k σ' H1 ⟨x1, rfl, A, rfl⟩
  have out := A1 x1 s2 s3 H1 A
  refine ⟨_, rfl, _, _, rfl, rfl, _, rfl, ?_⟩
  by_cases h1 : 1 < m
  · refine if_t (decide_eq_true h1) ?_
    refine ⟨_, rfl, s, _, rfl, A.get src_left, _, _, rfl, rfl, _, rfl, ?_⟩
    by_cases h2 : x1.left < 2
    · refine if_t (decide_eq_true h2) ?_
      refine ⟨_, rfl, s, _, rfl, A.get src_cells, _, _, rfl, .inl ⟨_, SqL.of A.l, rfl⟩, _, _, rfl, rfl, _, rfl, ?_⟩
      rw [List.length_map]
      by_cases h3 : (0 : Int) < (x1.cells.length : Nat)
      · refine if_t (decide_eq_true h3) ?_
        have hc : x1.cells ≠ [] := fun z => by rw [z] at h3; simp at h3
        have ee := (List.dropLast_concat_getLast hc).symm
        obtain ⟨y0, q1, A3⟩ := A.pop ee
        obtain ⟨p1, A4⟩ := A3.put (y := "left") (put_left (z := x1.cells.getLast hc)) rfl ⟨A3.g.cells, A3.g.few, y0, A3.g.m0, A3.g.m1, A3.g.turn⟩
        refine ⟨fun σ' H' => ∃ m', m' < x1.cells.length ∧ ∃ x', σ' = [some (.ref s), some (.int m), s2, s3] ∧ SrcAt s c x' H H' ∧ x'.cells.length = m', fun _ _ z => z, ?_⟩
        refine ⟨_, rfl, s, _, rfl, A.get src_cells, .inl ⟨rfl, _, SqL.of A.l⟩, c, _, _, rfl, rfl, A.l, q1, _, rfl, s, _, rfl, p1, _, ?_, _, rfl, A4, rfl⟩
        show x1.cells.dropLast.length < _
        rw [List.length_dropLast]
        omega
      · exact if_f (decide_eq_false h3) out
    · refine if_f (decide_eq_false h2) ?_
      exact out
  · refine if_f (decide_eq_false h1) ?_
    exact out
end PL
/-! Layer P, part 9: what _law_source hands back; the law's own beginning. -/
namespace PL
open PySem L2 PySem.Spec PyProof.Rows
def intsD (ns : List Int) : D := .list (ns.map PyData.int)
theorem dp_ints {K : PySem.W.Frag} {B : Hp} : ∀ ns : List Int, DpAll K B (ns.map V.int) (ns.map PyData.int)
  | [] => .nil
  | n :: ns => .cons (.int n) (dp_ints ns)
theorem ints_dp {K : PySem.W.Frag} {B : Hp} : ∀ {ns : List Int} {vs : List V}, DpAll K B vs (ns.map PyData.int) → vs = ns.map V.int
  | [], _, .nil => rfl
  | n :: ns, _, .cons h t => by
    cases h
    rw [ints_dp t]
    rfl
/-- the source as it is handed back, new -/
structure SrcNew (s c : Addr) (x : SrcSt) (H0 H : Hp) : Prop where
  g : SrcGood x
  d : H s = some (.dK (srcK c x))
  l : H c = some (.lst (x.cells.map V.int))
  k : Same H0 H
  s0 : H0 s = none
  c0 : H0 c = none
def spSource (K : PySem.W.Frag) : Sp := fun vs H Q _ => ∃ (a : Addr) (ns : List Int), vs = [.ref a] ∧ SqL K H a (ns.map V.int) ∧ ns.length ≤ 63 ∧ ∀ s c x H', SrcNew s c x H H' → Q (.ref s) H'
def SrcBody (X : Cx) (body : List Stmt) : Prop := ∃ t, PSs X body t ∧ ∀ (H : Hp) (a : Addr) (ns : List Int) (nx : L2.St → Hp → Prop) (Q : VK), SqL X.K H a (ns.map V.int) → ns.length ≤ 63 → (∀ s c x H', SrcNew s c x H H' → Q (.ref s) H') →
  t { nx := nx, rt := Q } [some (.ref a), none, none] H
theorem src_body {X : Cx} {st1 st2 : Stmt} {el ev : Expr} {t1 t2 : TS} {w1 w2 : WS} {tl : TE} {wl : WO} {i1 i2 i3 i4 j2 j4 : Nat} {p1 p2 p3 p4 q2 q4 pd pr : Pos}
    (e1 : PXS X st1 t1 w1) (e2 : PXS X st2 t2 w2) (e3 : PXO X el tl wl) (e4 : PE X ev (tVar 1))
    (hw : ∀ (ns : List Int) (R : Env → Prop), ns.length ≤ 63 → (∀ m s, 0 ≤ m → m < 2147483647 → R [.dat (intsD ns), .dat (.int m), s]) → wSeq w1 w2 [.dat (intsD ns), .no, .no] ⟨R, fun _ => False, fun _ => False, fun _ => False⟩)
    (hl : ∀ (ns : List Int) (m : Int) (s : Sl) (P : Ow → Prop), ns.length ≤ 63 → P (.lst ((ns.map absI).reverse.map PyData.int)) → wl [.dat (intsD ns), .dat (.int m), s] P) :
    SrcBody X [st1, st2, .Return (some (.Dict [some (.Constant (.str "cells") i1 p1), some (.Constant (.str "left") i2 p2), some (.Constant (.str "mixed") i3 p3), some (.Constant (.str "turn") i4 p4)] [el, .Constant (.int 1) j2 q2, ev, .Constant (.int 0) j4 q4] pd)) pr] := by
  refine ⟨_, pss_cons e1.pe (pss_cons e2.pe (pss_one (ps_ret (pe_disp (pps_cons pe_str e3.pe (pps_cons pe_str pe_int (pps_cons pe_str e4 (pps_cons pe_str pe_int pps_nil)))) rfl rfl (fun z => by cases z) (by show 4 ≤ 15; decide))))), ?_⟩
  intro H a ns nx Q hS hn hq
  have x0 : EnvOk X.K ⟨none, H, H⟩ H H [some (.ref a), none, none] [.dat (intsD ns), .no, .no] := by
    refine ⟨Go.refl (Same.refl H), SrcOk.none, (fun _ _ e => nomatch e), rfl, ?_, ?_⟩
    · intro i x s h1 h2
      match i with
      | 0 => cases h1; cases h2; exact ⟨_, rfl, .lst hS (dp_ints ns)⟩
      | 1 => cases h1; cases h2; trivial
      | 2 => cases h1; cases h2; trivial
      | n + 3 => simp at h1
    · intro i j p oi oj h1
      match i with
      | 0 => cases h1
      | 1 => cases h1
      | 2 => cases h1
      | n + 3 => simp at h1
  refine ev_seq e1.ev e2.ev ⟨none, H, H⟩ H H _ _ ⟨fun ρ => ∃ m s, ρ = [.dat (intsD ns), .dat (.int m), s] ∧ 0 ≤ m ∧ m < 2147483647, fun _ => False, fun _ => False, fun _ => False⟩ { nx := _, rt := Q } x0 ⟨?_, fun _ _ _ _ z => z.elim, fun _ _ _ _ z => z.elim, fun _ _ _ _ z => z.elim⟩ (hw ns _ hn fun m s h0 h1 => ⟨m, s, rfl, h0, h1⟩)
  rintro ρ σ B H1 ⟨m, s, rfl, m0, m1⟩ x1 p hp
  obtain ⟨y0, y1, y2, rfl⟩ : ∃ y0 y1 y2, σ = [y0, y1, y2] := by
    have := x1.len
    match σ, this with
    | [a, b, c], _ => exact ⟨a, b, c, rfl⟩
  have hbp : B p = none := none_back x1.bh hp
  have hp0 : H p = none := x1.go.back hp
  have x2 : EnvOk X.K ⟨none, H, H⟩ B (upd H1 p (.dK [])) [y0, y1, y2] [.dat (intsD ns), .dat (.int m), s] := x1.step (Go.own x1.bh hp) (SrcOk.none)
  refine e3.ev ⟨none, H, H⟩ B _ _ _ _ x2 (hl ns m s (fun o => o = .lst ((ns.map absI).reverse.map PyData.int)) hn rfl) _ fun c o B2 H2 ho g2 s2 hc hb2 hok => ?_
  subst ho
  obtain ⟨vs, hv, hd⟩ := hok
  have hvs := ints_dp hd
  subst hvs
  have hne : p ≠ c := fun z => by rw [← z, upd_same] at hc; cases hc
  have h2p : H2 p = some (.dK []) := g2.keep p _ upd_same (fun _ _ e => nomatch e)
  have hc1 : H1 c = none := by rw [upd_ne (Ne.symm hne)] at hc; exact hc
  obtain ⟨u, hu, hdu⟩ := x2.sl 1 _ _ rfl rfl
  subst hu
  cases hdu
  refine ⟨.int m, rfl, h2p, [(.inr "cells", .ref c), (.inr "left", .int 1), (.inr "mixed", .int m), (.inr "turn", .int 0)], rfl, by show 4 ≤ 15; decide, ?_⟩
  · refine hq p c ⟨(ns.map absI).reverse, 1, m, 0⟩ _ ⟨⟨?_, ?_, by show (0 : Int) ≤ 1; decide, m0, m1, by show (0 : Int) ≤ 0; decide⟩, ?_, ?_, ?_, hp0, x1.go.back hc1⟩
    · intro z hz
      rw [List.mem_reverse, List.mem_map] at hz
      obtain ⟨y, _, rfl⟩ := hz
      unfold absI
      split <;> omega
    · simp [hn]
    · rw [upd_same]; rfl
    · rw [upd_ne (Ne.symm hne)]; exact hv
    · intro b o hb
      have : H1 b = some o := x1.go.keep b o hb (fun _ _ e => nomatch e)
      have hbp : b ≠ p := fun z => by rw [z, hp] at this; cases this
      have h3 := g2.keep b o (by rw [upd_ne hbp]; exact this) (fun _ _ e => nomatch e)
      rw [upd_ne hbp]
      exact h3

/-! ### the law -/
def spLaw (K : PySem.W.Frag) : Sp := fun vs H Q _ => ∃ (a : Addr) (ns : List Int), vs = [.ref a] ∧ SqL K H a (ns.map V.int) ∧ ns.length ≤ 63 ∧ ∀ H', Q (.bl true) H'
/-- the def _law_source, and its promise -/
structure SrcP (P : Program) (w : World) (K : PySem.W.Frag) (mg : Str → Option Value) (base : Heap) (k : Nat) : Prop where
  on : ∃ (f : Addr) (fd : FuncData), FnOk P w K mg base CX0 k f fd ["script"] (spSource K) ∧ mg "_law_source" = some (.ref f) ∧ PySem.W.keepIn K (.ref f) = true ∧ Binds K fd ["script"] []
section
variable {P : Program} {w : World} {K : PySem.W.Frag} {mg : Str → Option Value} {base : Heap}
theorem src_ok {st : Stmt} {k : Nat} (A : DefAt K mg "_law_source" st) (S : FnScope ["script", "mixed", "cell"] ["script"] (defScope st))
    (hbind : ∀ (kV doc pm : Value) (an : Option Addr) (cdv ct : Value) (us : List Value), us.length = 1 → bindArgs (PySem.W.fnOf "_law_source" "_law_source" (defArgs st) (defBody st) (defScope st) .none kV doc pm an cdv ct) ⟨us, []⟩ = pure ((["script"] : List Str).zip us))
    (hbody : ∀ (f : Addr) (cdv : Value) (A : Around) (outer : List PySem.Env) (s : Shared) (H : Hp) (E : XK), Room k (A.deeper (envOfC "_law_source" (defScope st) s.heap.objs.size f cdv)) → SrcBody (bodyX P w K mg base ["script", "mixed", "cell"] "_law_source" st f cdv A outer s H E) (defBody st)) :
    SrcP P w K mg base (k + 1) := by
  obtain ⟨f, fd, F, hm⟩ := A.ex
  refine ⟨f, fd, F.ok S (fun vs H Q E h => ?_) (fun cdv A outer s H vs Q E hr h => ?_), hm, F.kp, F.binds hbind⟩
  · obtain ⟨a, ns, rfl, _⟩ := h
    rfl
  · obtain ⟨a, ns, rfl, hS, hn, hq⟩ := h
    obtain ⟨t, hp, ht⟩ := hbody f cdv A outer s H E hr
    exact ⟨t, hp, ht H a ns _ Q hS hn hq⟩
theorem law_ok {st : Stmt} {f : Addr} {fd : FuncData} {N : List Str} {k : Nat} (F : Fun K "law" "law" st f fd) (S : FnScope N ["script"] (defScope st)) (h2 : 2 ≤ N.length)
    (hbody : ∀ (cdv : Value) (A : Around) (outer : List PySem.Env) (s : Shared) (H : Hp) (E : XK), Room k (A.deeper (envOfC "law" (defScope st) s.heap.objs.size f cdv)) → ∃ (st1 : Stmt) (rest : List Stmt) (ts : TS) (wb : WS) (E' : XK), defBody st = st1 :: rest ∧
      PS (bodyX P w K mg base N "law" st f cdv A outer s H E) st1 (tAsg (tCall (spSource K) [] E' (tCons (tVar 0) tNil)) (gName 1)) ∧ PXSs (bodyX P w K mg base N "law" st f cdv A outer s H E) rest ts wb ∧
      wb (.no :: .src :: List.replicate (N.length - 2) .no) ⟨fun _ => False, fun d => d = .bool true, fun _ => False, fun _ => False⟩) : FnOk P w K mg base CX0 (k + 1) f fd ["script"] (spLaw K) := by
  refine F.ok S (fun vs H Q E h => ?_) (fun cdv A outer s H vs Q E hr h => ?_)
  · obtain ⟨a, ns, rfl, _⟩ := h
    rfl
  · obtain ⟨a, ns, rfl, hS, hn, hq⟩ := h
    obtain ⟨st1, rest, ts, wb, E', hb, h1, h3, hw⟩ := hbody cdv A outer s H E hr
    obtain ⟨n, hN⟩ : ∃ n, N.length = n + 2 := ⟨N.length - 2, by omega⟩
    rw [hb]
    refine ⟨_, pss_cons h1 h3.pe, ?_⟩
    have hst : start N [V.ref a] = some (.ref a) :: none :: List.replicate n none := by
      show some (V.ref a) :: List.replicate (N.length - 1) none = _
      rw [hN]
      rfl
    rw [hst]
    rw [hN, show n + 2 - 2 = n by omega] at hw
    refine ⟨_, rfl, a, ns, rfl, hS, hn, fun s c x H' nw => ?_⟩
    have hsc : s ≠ c := fun z => by have := nw.d; rw [z, nw.l] at this; cases this
    have hso : SrcOk (some (s, c)) (fun _ => none) H' := fun s' c' e => by cases e; exact ⟨rfl, rfl, x, nw.g, nw.d, nw.l⟩
    refine h3.ev ⟨some (s, c), fun _ => none, H'⟩ (fun _ => none) H' _ _ ⟨fun _ => False, fun d => d = .bool true, fun _ => False, fun _ => False⟩ _ ⟨Go.refl (fun _ _ e => nomatch e), hso, ?_, ?_, ?_, ?_⟩ ⟨fun _ _ _ _ z => z.elim, ?_, fun _ _ _ _ z => z.elim, fun _ _ _ _ z => z.elim⟩ hw
    · intro s' c' e
      cases e
      exact ⟨⟨_, nw.d⟩, _, nw.l⟩
    · simp
    · intro i u v h1 h2
      match i with
      | 0 => cases h2; trivial
      | 1 => cases h1; cases h2; exact ⟨s, c, rfl, rfl⟩
      | i + 2 =>
        have : (List.replicate n Sl.no)[i]? = some v := h2
        have := List.eq_of_mem_replicate (List.mem_of_getElem? this)
        subst this
        trivial
    · intro i j p oi oj h1
      match i with
      | 0 => cases h1
      | 1 => cases h1
      | i + 2 =>
        have : (List.replicate n Sl.no)[i]? = some (.own oi) := h1
        have := List.eq_of_mem_replicate (List.mem_of_getElem? this)
        cases this
    · intro v d B H2 hd _ _ hp
      subst hd
      cases hp
      exact hq H2
theorem x_source {X : Cx} {pos p ps : Pos} {y : Str} {k : Nat} (F : SrcP X.prog X.w X.K X.mg X.base k) (hr : Room k X.A) (hi : PE X (.Name y ps) (tVar 0)) (hg : Gl X "_law_source" := by rfl)
    (he : starEach [.Name y ps] X.env = (false, eval (.Name y ps) X.env) :: starEach [] X.env := by rfl) (hpl : (backTo pos (starEach [] X.env)).any (·.1) = false := by rfl) :
    PX X (.Call (.Name "_law_source" p) [.Name y ps] [] pos) (tCall (spSource X.K) [] E0 (tCons (tVar 0) tNil)) (fun _ _ => False) :=
  let ⟨_, _, G, hm, hk, hb⟩ := F.on
  x_raw (pe_call G hr hg hm hk hb .nil pass0 (pa_cons hi pa_nil he) (by decide) he hpl)
end
end PL
/-! Layer P, part a: enumerate over tuples and lists. -/
namespace PySem
theorem meets_enum_of {v : Value} {o : Obj} {H : Heap → Prop} (B : Begins v o H) :
    Meets (Builtin.«enumerate.__new__» ⟨[.type "enumerate", v], []⟩) (fun _ R s => H s.heap ∧
      R (.ok (.ret (.ref (s.heap.push o).objs.size))) { s with heap := (s.heap.push o).push { cls := .type "enumerate", data := .fields #[.none, .bool false, .ref s.heap.objs.size, rawInt 0, .none, .none] } }) :=
  .of_wp fun prog w A R s h => by
    obtain ⟨hp, g, d, tk, os⟩ := s; obtain ⟨h1, h⟩ := h
    have hsub := sub_enumerate
    have q1 : ∀ {A' : Around} {E : Value → Shared → Prop} {Q : Value → Shared → Prop}, Q (.ref hp.objs.size) ⟨hp.push o, g, d, tk, os⟩ → wpAny (model prog w) A' (pyIter v) Q E ⟨hp, g, d, tk, os⟩ :=
      fun q => B.iter prog w _ _ ⟨hp, g, d, tk, os⟩ _ h1 q
    wp_walk using q1
    refine wpAny_stack_any fun st => wpAny_pure ?_
    split
    · rename_i c _ _ _ _ _
      cases (c == Value.type "enumerate")
      · wp_walk using q1
        exact ⟨_, rfl, h⟩
      · wp_walk using q1
        exact ⟨_, rfl, h⟩
    · wp_walk using q1
      exact ⟨_, rfl, h⟩
theorem call_enum_of {prog : Program} {w : World} {A : Around} {E : Value → Shared → Prop} {s : Shared} {v : Value} {o : Obj} {H : Heap → Prop} {Q : Value → Shared → Prop} (B : Begins v o H) (h1 : H s.heap)
    (h : ∀ h', IsEnum h' (s.heap.objs.size + 1) s.heap.objs.size 0 .none → h'.get? s.heap.objs.size = some o → h'.objs.size = s.heap.objs.size + 2 →
      (∀ b o, s.heap.get? b = some o → h'.get? b = some o) → Q (.ref (s.heap.objs.size + 1)) { s with heap := h' }) :
    wpAny (model prog w) A (call (.type "enumerate") [v]) Q E s := by
  refine callType_new F.called_enumerate (by decide) (F.typeCall_enumerate_1 _) (F.newCall_enumerate_1 _) (fun obj => F.args_object_init_2 obj _) F.entry_enumerate_new
    (meets_enum_of B) ⟨h1, ?_⟩
  have hz : (s.heap.push o).objs.size = s.heap.objs.size + 1 := Heap.size_push ..
  show _ ∧ _
  rw [hz]
  have he : IsEnum ((s.heap.push o).push { cls := .type "enumerate", data := .fields #[.none, .bool false, .ref s.heap.objs.size, rawInt 0, .none, .none] }) (s.heap.objs.size + 1) s.heap.objs.size 0 .none := by
    have := Heap.get?_push_size (s.heap.push o) (o := { cls := .type "enumerate", data := .fields #[.none, .bool false, .ref s.heap.objs.size, rawInt 0, .none, .none] }) rfl
    rw [hz] at this; exact this
  refine ⟨⟨_, he, rfl⟩, h _ he (Heap.get?_push_of_some _ (Heap.get?_push_size _ B.free)) (by rw [Heap.size_push, hz]) fun b o x => Heap.get?_push_of_some _ (Heap.get?_push_of_some _ x)⟩
end PySem
namespace PL
open PySem L2 PySem.Spec PyProof.Rows
/-- the tuple at a as it stands at each turn, each item in a new pair -/
def Itet (K : PySem.W.Frag) (a : Addr) : It :=
  ⟨fun i H => ∃ (xs : List V) (x : V), SqT K H a xs ∧ xs[i]? = some x, fun i H v H' => ∃ T x, v = .ref T ∧ H T = none ∧ H' = upd H T (.tup [.int (i : Nat), x]) ∧ ∀ xs, SqT K H a xs → xs[i]? = some x, fun i H => ∃ xs : List V, SqT K H a xs ∧ xs.length ≤ i⟩
theorem turn_enumT {P : Program} {w : World} {K : PySem.W.Frag} {elts : List Expr} {kk : Nat} {tpos : Pos} (a e it : Addr) :
    Turn P w K (.Tuple elts kk tpos) (Itet K a) [e, it] e (fun i h => (∃ old, IsEnum h e it ((i : Nat) : Int) old) ∧ h.IsTupleIter it a i ∧ e ≠ it) where
  mem := by simp
  obj := fun i h st b hb => by
    obtain ⟨⟨old, he⟩, ⟨o, ho, hc, hd⟩, _⟩ := st
    have e' : b = e ∨ b = it := by simpa using hb
    rcases e' with z | z
    · rw [z]; exact ⟨_, he, fun v q => nomatch q⟩
    · rw [z]; exact ⟨o, ho, fun v q => by rw [hd] at q; cases q⟩
  keep := fun i h h' st k => let ⟨⟨old, he⟩, hi, hne⟩ := st; ⟨⟨old, k e (by simp) _ he⟩, hi.at fun o q => k it (by simp) o q, hne⟩
  item := by
    intro X hP hw hK hc i pins s σ H E I hf st hg
    subst hP hw hK
    obtain ⟨⟨old, he⟩, hit, hne⟩ := st
    obtain ⟨xs, x, hq, hx⟩ := hg
    obtain ⟨its, rv, p, hz⟩ := I.tuple hq
    obtain ⟨u, hu, ru⟩ := rv.get hx
    have hel : e < s.heap.objs.size := Heap.lt_size he
    have hil : it < s.heap.objs.size := by obtain ⟨_, q, _⟩ := hit; exact Heap.lt_size q
    have hlt : i < its.toArray.size := by
      have := (List.getElem?_eq_some_iff.mp hu).1
      simpa using this
    have hat : a ≠ it := fun z => by
      obtain ⟨o, ho, hc', _⟩ := hit
      obtain ⟨o2, ho2, hc2, _⟩ := p
      rw [z, ho] at ho2
      cases ho2
      rw [hc'] at hc2
      exact absurd (Value.type.inj hc2) (by decide)
    have hae : e ≠ a := fun z => by
      obtain ⟨o2, ho2, hc2, _⟩ := p
      rw [← z, he] at ho2
      cases ho2
      exact absurd (Value.type.inj hc2) (by decide)
    have D := Draws.tuple (prog := X.prog) (w := X.w) (A := X.A.in1) (I.ok.hd hc) it a hat its.toArray
    refine wpAny_pyNext_enum_itemD D he ⟨hit, p⟩ hlt hne (by simp [hne, hae]) fun y h' tk hy ho st' hT hsz hk => ?_
    have hyu : y = u := by
      have : its.toArray[i]? = some u := by simpa using hu
      rw [this] at hy
      exact (Option.some.inj hy).symm
    subst hyu
    have hit' := st'.1
    refine ⟨_, rfl, wpAny_letOwnedTupleGo_enum (s := { s with heap := h', toks := tk + 1 }) ho fun h'' he' sb => ?_⟩
    have hT2 : h''.get? s.heap.objs.size = some { cls := .type "tuple", data := .seq #[.int i tk, y] } := (sb.2 _ (Nat.ne_of_gt hel)).trans hT
    have new : ObjOk X.prog X.w (upd H s.heap.objs.size (.tup [.int (i : Nat), x])) h'' s.heap.objs.size (.tup [.int (i : Nat), x]) :=
      ⟨by show 2 ≤ sizeLine; decide, [.int i tk, y], .cons ⟨_, rfl⟩ (.cons ru .nil), ⟨_, hT2, rfl, _, rfl⟩⟩
    have I1 : Inv X pins σ (upd H s.heap.objs.size (.tup [.int (i : Nat), x])) { s with heap := h'', toks := tk + 1 } :=
      I.turnedNew (ch := [e, it]) (fun b ob hb q => (sb.2 b (fun z => hb (by simp [z]))).trans (hk b ob (fun z => hb (by simp [z])) (fun z => hb (by simp [z])) q)) hf (Nat.le_refl _) new
    refine ⟨.ref s.heap.objs.size, _, I1, rfl, ⟨_, x, rfl, I.hok.fresh (Nat.le_refl _), rfl, fun ys hy => by rw [I.tuple_inj hy hq]; exact hx⟩, ⟨⟨y, ?_⟩, hit'.at fun o q => (sb.2 it (Ne.symm hne)).trans q, hne⟩, fun b hb => ?_⟩
    · have e1 : ((i + 1 : Nat) : Int) = (i : Int) + 1 := by omega
      rw [e1]; exact he'
    · have hb' : b < s.heap.objs.size := by
        have e' : b = e ∨ b = it := by simpa using hb
        rcases e' with z | z
        · rw [z]; exact hel
        · rw [z]; exact hil
      rw [upd_ne (Nat.ne_of_lt hb')]
      exact (hf b hb).1
  done := by
    intro X hP hw hK hc i pins s σ H E I hf st hg
    subst hP hw hK
    obtain ⟨⟨old, he⟩, hit, hne⟩ := st
    obtain ⟨xs, hq, hx⟩ := hg
    obtain ⟨its, rv, p, hz⟩ := I.tuple hq
    obtain ⟨f0, f1, f2, f3, f4, f5⟩ := hf it (by simp)
    have hl := rv.length
    have hT : s.TypeIs (.ref e) "enumerate" := ⟨_, he, rfl⟩
    unfold pyNext
    refine wpAny_bind (wpAny_attempt (wpAny_callSpecial?_slot (name := Str.ofString "__next__") hT F.slot_enumerate_next
      (wpAny_call_entry F.slot_enumerate_next hT F.entry_enumerate_next ?_ (F.args_enumerate_next_1 _))))
    show wpAny _ _ (field (.ref e) 2 >>= _) _ _ _
    refine wpAny_bind (wpAny_field he rfl (x := .ref it) rfl ?_)
    refine wpAny_bind (wpAny_nextOf_tuple_end (I.ok.hd hc) hit p (by simp; omega) fun h' x eb hx' => ?_)
    obtain ⟨o, ho, hc⟩ := hx'
    refine wpAny_bind (wpAny_isInstance (T := "StopIteration") (b := true) ⟨o, ho, hc⟩ isSubtype_stop ?_)
    exact wpAny_pure ⟨rfl, I.turned (t' := s.toks) (fun b o hb q => eb b o hb q) f0 f1 f3 f4 f5⟩
  self := fun A i s Q E st h => let ⟨⟨_, he⟩, _⟩ := st; wpAny_pyIter_enum he h
def iEnumT (K : PySem.W.Frag) (ta : TA) : TI := fun σ H R => ta σ H fun vs H1 => ∃ a xs, vs = [.ref a] ∧ SqT K H1 a xs ∧ R (Itet K a) H1
theorem pi_enumT {X : Cx} {e : Expr} {ta : TA} {p pos tpos : Pos} {elts : List Expr} {kk : Nat} (hg : Gl X "enumerate") (hm : X.mg "enumerate" = none) (ha : PA X [e] ta) (hs : starEach [e] X.env = [(false, eval e X.env)] := by rfl) :
    PI X (.Tuple elts kk tpos) (.Call (.Name "enumerate" p) [e] [] pos) (iEnumT X.K ta) := by
  refine ⟨fun pins s σ H R I h => ?_⟩
  refine Call_ (ld_blt I hg hm boot_enumerate (PyProof.Rows.callWith_type1 (thn (ha.run pos pins s σ H _ I h) fun us s1 ⟨vs, H1, I1, r1, q1⟩ => ?_) hs rfl))
  obtain ⟨a, xs, ex, hq, q⟩ := q1
  subst ex
  cases r1 with
  | cons r rr =>
    cases rr
    cases r
    obtain ⟨its, rv, p', hz⟩ := I1.tuple hq
    refine call_enum_of (begins_tuple a its.toArray) p' fun h' he hit hsz hk => wpAny_pyIter_enum he ?_
    have I2 : Inv X pins σ H1 { s1 with heap := h' } := I1.kept (t' := s1.toks) hk
    refine ⟨s1.heap.objs.size + 1, [s1.heap.objs.size + 1, s1.heap.objs.size], _, _, H1, rfl, I2, turn_enumT a (s1.heap.objs.size + 1) s1.heap.objs.size, ⟨⟨.none, he⟩, ⟨_, hit, rfl, rfl⟩, Nat.succ_ne_self _⟩, fun b hb => ?_, q⟩
    have e' : b = s1.heap.objs.size + 1 ∨ b = s1.heap.objs.size := by simpa using hb
    have hle : s1.heap.objs.size ≤ b := by
      rcases e' with z | z
      · rw [z]; exact Nat.le_add_right _ _
      · rw [z]; exact Nat.le_refl _
    exact I1.fpOk hle (I1.hok.fresh hle)
/-- the pairs that enumerate makes -/
def enumD (ds : List D) : List D := (List.range ds.length).map fun i : Nat => .tuple [.int i, ds.getD i .none]
theorem enumD_len (ds : List D) : (enumD ds).length = ds.length := by simp [enumD]
theorem enumD_at {ds : List D} {i : Nat} {d : D} (h : ds[i]? = some d) : (enumD ds)[i]? = some (.tuple [.int i, d]) := by
  have hi := (List.getElem?_eq_some_iff.mp h).1
  unfold enumD
  rw [List.getElem?_map, List.getElem?_range hi]
  simp [List.getD_eq_getElem?_getD, h]
def wIEn (we : WE) : WI := fun ρ P => we ρ fun d => match d with
  | .tuple ds => P (enumD ds)
  | _ => False
def wIEl (we : WE) : WI := fun ρ P => we ρ fun d => match d with
  | .list ds => P (enumD ds)
  | _ => False
section
variable {X : Cx} {pos p tpos : Pos} {e : Expr} {te : TE} {we : WE} {elts : List Expr} {kk : Nat}
theorem it_enT {K : PySem.W.Frag} {S : SA} {B : Hp} {a : Addr} {vs : List V} {ds : List D} (hs : SqT K B a vs) (hd : DpAll K B vs ds) : ItOk K S (Itet K a) (enumD ds) B :=
  ⟨fun H' e => ⟨vs, sqT_same e hs, by rw [enumD_len]; exact Nat.le_of_eq hd.len⟩, fun i H' e hi => by
    have hi' : i < vs.length := by rw [hd.len, ← enumD_len]; exact hi
    exact ⟨vs, vs[i], sqT_same e hs, by simp [hi']⟩, fun i B' H' y H'' e1 e2 sr hi z => by
    obtain ⟨T, x, rfl, hT, rfl, z⟩ := z
    obtain ⟨d, e3, e4⟩ := hd.atV (z vs (sqT_same (e1.trans e2) hs))
    have g := Go.add (S := S) (o := .tup [.int (i : Nat), x]) e2 hT
    exact ⟨_, _, enumD_at e3, g, sr.add e2 hT, .tup (.inl (.inl upd_same)) (.cons (.int _) (.cons ((e4.up e1).up g.b) .nil))⟩⟩
theorem it_enL {K : PySem.W.Frag} {S : SA} {B : Hp} {a : Addr} {vs : List V} {ds : List D} (hs : SqL K B a vs) (hd : DpAll K B vs ds) : ItOk K S (Ite K a) (enumD ds) B :=
  ⟨fun H' e => ⟨vs, sqL_same e hs, by rw [enumD_len]; exact Nat.le_of_eq hd.len⟩, fun i H' e hi => by
    have hi' : i < vs.length := by rw [hd.len, ← enumD_len]; exact hi
    exact ⟨vs, vs[i], sqL_same e hs, by simp [hi']⟩, fun i B' H' y H'' e1 e2 sr hi z => by
    obtain ⟨T, x, rfl, hT, rfl, z⟩ := z
    obtain ⟨d, e3, e4⟩ := hd.atV (z vs (sqL_same (e1.trans e2) hs))
    have g := Go.add (S := S) (o := .tup [.int (i : Nat), x]) e2 hT
    exact ⟨_, _, enumD_at e3, g, sr.add e2 hT, .tup (.inl (.inl upd_same)) (.cons (.int _) (.cons ((e4.up e1).up g.b) .nil))⟩⟩
theorem xi_enumT (hm : X.mg "enumerate" = none) (h : PX X e te we) (hg : Gl X "enumerate" := by rfl) (hs : starEach [e] X.env = [(false, eval e X.env)] := by rfl) (hs0 : starEach [e] X.env = (false, eval e X.env) :: starEach [] X.env := by rfl) :
    PXI X (.Tuple elts kk tpos) (.Call (.Name "enumerate" p) [e] [] pos) (iEnumT X.K (tCons te tNil)) (wIEn we) := ⟨pi_enumT hg hm (pa_cons h.pe pa_nil hs0) hs, fun G B H σ ρ P x w R r =>
  h.ev G B H σ ρ _ x w _ fun v d B1 H1 w1 g1 s1 h1 => by
    split at w1
    · cases h1 with
      | tup hs hd => exact ⟨_, _, rfl, sqT_same g1.bh hs, r _ _ B1 H1 w1 g1 s1 (it_enT hs hd)⟩
    · exact w1.elim⟩
theorem xi_enumL (hm : X.mg "enumerate" = none) (h : PX X e te we) (hg : Gl X "enumerate" := by rfl) (hs : starEach [e] X.env = [(false, eval e X.env)] := by rfl) (hs0 : starEach [e] X.env = (false, eval e X.env) :: starEach [] X.env := by rfl) :
    PXI X (.Tuple elts kk tpos) (.Call (.Name "enumerate" p) [e] [] pos) (iEnum X.K (tCons te tNil)) (wIEl we) := ⟨pi_enum hg hm (pa_cons h.pe pa_nil hs0) hs, fun G B H σ ρ P x w R r =>
  h.ev G B H σ ρ _ x w _ fun v d B1 H1 w1 g1 s1 h1 => by
    split at w1
    · cases h1 with
      | lst hs hd => exact ⟨_, _, rfl, sqL_same g1.bh hs, r _ _ B1 H1 w1 g1 s1 (it_enL hs hd)⟩
    · exact w1.elim⟩
end
end PL
/-! Layer P, part b: dicts of a name's own. -/
namespace PL
open PySem L2 PySem.Spec PyProof.Rows
def keyD : D → Option Key
  | .int i => some (.inl i)
  | .str s => some (.inr s)
  | _ => none
theorem key_v {K : PySem.W.Frag} {B : Hp} {v : V} {d : D} {k : Key} (h : Dp K B v d) (e : keyD d = some k) : v = kV k := by
  cases h <;> simp only [keyD, Option.some.injEq, reduceCtorEq] at e
  · subst e; rfl
  · subst e; rfl
section
variable {κ α : Type} [DecidableEq κ]
def getA (kvs : List (κ × α)) (k : κ) : Option α := (kvs.find? fun kv => decide (kv.1 = k)).map (·.2)
def putA (kvs : List (κ × α)) (k : κ) (v : α) : List (κ × α) := if (kvs.any fun kv => decide (kv.1 = k)) = true then kvs.map (fun kv => if kv.1 = k then (kv.1, v) else kv) else kvs ++ [(k, v)]
theorem getA_put (kvs : List (κ × α)) (k j : κ) (v : α) : getA (putA kvs k v) j = if j = k then some v else getA kvs j := by
  unfold putA
  by_cases h : (kvs.any fun kv => decide (kv.1 = k)) = true
  · rw [if_pos h]
    induction kvs with
    | nil => simp at h
    | cons p r ih =>
      by_cases hp : p.1 = k
      · by_cases hj : j = k
        · subst hj
          simp [getA, hp]
        · have hjp : ¬ p.1 = j := fun z => hj (z ▸ hp)
          rw [if_neg hj]
          have : ∀ l : List (κ × α), getA (l.map fun kv => if kv.1 = k then (kv.1, v) else kv) j = getA l j := by
            intro l
            induction l with
            | nil => rfl
            | cons q l il =>
              by_cases hq : q.1 = k
              · have hqj : ¬ q.1 = j := fun z => hj (z ▸ hq)
                simp only [getA, List.map_cons, List.find?_cons] at il ⊢
                rw [if_pos hq]
                simp only [hqj, decide_false]
                exact il
              · simp only [getA, List.map_cons, List.find?_cons] at il ⊢
                rw [if_neg hq]
                by_cases hqj : q.1 = j
                · simp [hqj]
                · simp only [hqj, decide_false]
                  exact il
          exact this (p :: r)
      · have h' : (r.any fun kv => decide (kv.1 = k)) = true := by simpa [hp] using h
        have := ih h'
        simp only [getA, List.map_cons, List.find?_cons] at this ⊢
        rw [if_neg hp]
        by_cases hpj : p.1 = j
        · have : ¬ j = k := fun z => hp (hpj.trans z)
          simp [hpj, this]
        · simp only [hpj, decide_false]
          exact this
  · rw [if_neg h]
    have hn : ∀ l : List (κ × α), (l.any fun kv => decide (kv.1 = k)) = false → getA (l ++ [(k, v)]) j = if j = k then some v else getA l j := by
      intro l
      induction l with
      | nil =>
        intro _
        by_cases hj : j = k
        · subst hj; simp [getA]
        · have : ¬ k = j := fun z => hj z.symm
          simp [getA, hj, this]
      | cons p r ih =>
        intro hl
        have hp : ¬ p.1 = k := by simp at hl; exact hl.1
        have hr : (r.any fun kv => decide (kv.1 = k)) = false := by
          rw [List.any_cons] at hl
          exact (Bool.or_eq_false_iff.mp hl).2
        have := ih hr
        simp only [getA, List.cons_append, List.find?_cons] at this ⊢
        by_cases hpj : p.1 = j
        · have : ¬ j = k := fun z => hp (hpj.trans z)
          simp [hpj, this]
        · simp only [hpj, decide_false]
          exact this
    exact hn kvs (by cases hh : (kvs.any fun kv => decide (kv.1 = k)) with | true => exact absurd hh h | false => rfl)
theorem putA_len (kvs : List (κ × α)) (k : κ) (v : α) : (putA kvs k v).length ≤ kvs.length + 1 := by
  unfold putA
  split
  · simp
  · simp
theorem kv_get {K : PySem.W.Frag} {B : Hp} {us : List (κ × V)} {ks : List (κ × D)} (h : KvOk K B us ks) {k : κ} {d : D} (e : getA ks k = some d) : ∃ v, valV us k = some v ∧ Dp K B v d := by
  induction h with
  | nil => simp [getA] at e
  | @cons p q ps qs hp t ih =>
    obtain ⟨h1, h2⟩ := hp
    by_cases hk : q.1 = k
    · have : d = q.2 := by simp [getA, hk] at e; exact e.symm
      subst this
      exact ⟨p.2, valV_pos (h1.trans hk), h2⟩
    · have e' : getA qs k = some d := by simpa [getA, hk] using e
      obtain ⟨v, h3, h4⟩ := ih e'
      exact ⟨v, by rw [valV_neg (fun z => hk (h1.symm.trans z))]; exact h3, h4⟩
theorem kv_any {K : PySem.W.Frag} {B : Hp} {us : List (κ × V)} {ks : List (κ × D)} (h : KvOk K B us ks) (k : κ) : (us.any fun kv => decide (kv.1 = k)) = (ks.any fun kv => decide (kv.1 = k)) := by
  induction h with
  | nil => rfl
  | @cons p q ps qs hp t ih =>
    rw [List.any_cons, List.any_cons, ih, hp.1]
theorem kv_put {K : PySem.W.Frag} {B : Hp} {us : List (κ × V)} {ks : List (κ × D)} (h : KvOk K B us ks) {k : κ} {v : V} {d : D} (hd : Dp K B v d) : KvOk K B (putK us k v) (putA ks k d) := by
  unfold putK putA
  rw [kv_any h k]
  split
  · induction h with
    | nil => exact .nil
    | @cons p q ps qs hp t ih =>
      rename_i hany
      refine .cons ?_ ?_
      · obtain ⟨h1, h2⟩ := hp
        dsimp only
        by_cases hk : q.1 = k
        · rw [if_pos hk, if_pos (h1.trans hk)]
          exact ⟨h1, hd⟩
        · rw [if_neg hk, if_neg (fun z => hk (h1.symm.trans z))]
          exact ⟨h1, h2⟩
      · clear ih hany
        induction t with
        | nil => exact .nil
        | @cons p' q' ps' qs' hp' t' ih' =>
          refine .cons ?_ ih'
          obtain ⟨h1, h2⟩ := hp'
          dsimp only
          by_cases hk : q'.1 = k
          · rw [if_pos hk, if_pos (h1.trans hk)]
            exact ⟨h1, hd⟩
          · rw [if_neg hk, if_neg (fun z => hk (h1.symm.trans z))]
            exact ⟨h1, h2⟩
  · exact paired_app h (.cons ⟨rfl, hd⟩ .nil)
theorem kv_len {K : PySem.W.Frag} {B : Hp} {us : List (κ × V)} {ks : List (κ × D)} (h : KvOk K B us ks) : us.length = ks.length := Paired.length h
end
section
variable {X : Cx} {pos : Pos} {e ke : Expr} {te tk : TE} {we wk : WE}
theorem o_dict : PXO X (.Dict [] [] pos) tDNewK (fun _ P => P (.dk [])) := ⟨pe_dnewK, fun G B H σ ρ P x w Q q p hp =>
  q p _ B _ w (Go.own x.bh hp) (x.src.own x.bh hp) hp (none_back x.bh hp) ⟨[], upd_same, .nil⟩⟩
def wDPut (i : Nat) (wk we : WE) : WS := fun ρ O => match ρ[i]? with
  | some (.own (.dk kvs)) => we ρ fun d => wk ρ fun kd => match keyD kd with
    | some k => kvs.length < 10000000 ∧ O.nx (ρ.set i (.own (.dk (putA kvs k d))))
    | none => False
  | _ => False
theorem ev_dput {K : PySem.W.Frag} {i : Nat} (he : Ev K te we) (hk : Ev K tk wk) : EvS K (sDPut (tVar i) tk te) (wDPut i wk we) := fun G B H σ ρ O En x c w => by
  unfold wDPut at w
  split at w
  · rename_i kvs hi
    refine he G B H σ ρ _ x w _ fun v d B1 H1 w1 g1 s1 h1 => ?_
    have x1 := x.step g1 s1
    obtain ⟨p, e1, _, _, _⟩ := x1.getOwn hi
    refine ⟨_, e1, hk G B1 H1 σ ρ _ x1 w1 _ fun kv kd B2 H2 w2 g2 s2 h2 => ?_⟩
    split at w2
    · rename_i k hkd
      have x2 := x1.step g2 s2
      obtain ⟨p', e1', _, _, us, hp, hkv⟩ := x2.getOwn hi
      rw [e1] at e1'
      cases e1'
      have hv := key_v h2 hkd
      subst hv
      exact ⟨p, _, rfl, DPut.k hp (by rw [kv_len hkv, sizeLine_eq]; omega), c.nx _ _ B2 _ w2.2 (x2.write hi e1 ⟨_, upd_same, kv_put hkv (h1.up g2.b)⟩)⟩
    · exact w2.elim
  · exact w.elim
theorem x_dput (i : Nat) {y : Str} {py p1 : Pos} (hu : X.A.units + 64 < cLine) (hk : PX X ke tk wk) (he : PX X e te we) (hi : PE X (.Name y py) (tVar i)) (hs : swapsWith e (some (.Subscript (.Name y py) ke p1)) pos.line X.env = pure false := by rfl) :
    PXS X (.Assign [.Subscript (.Name y py) ke p1] e pos) (sDPut (tVar i) tk te) (wDPut i wk we) := ⟨ps_dput (by omega) hi hk.pe he.pe hs, ev_dput he.ev hk.ev⟩
def wDGet (i : Nat) (wk : WE) : WE := fun ρ P => match ρ[i]? with
  | some (.own (.dk kvs)) => wk ρ fun kd => match keyD kd with
    | some k => ∃ d, getA kvs k = some d ∧ P d
    | none => False
  | _ => False
theorem x_dgetO (i : Nat) {y : Str} {py : Pos} (hu : X.A.units + 64 < cLine) (hi : PE X (.Name y py) (tVar i)) (hk : PX X ke tk wk) (hs : NoSl ke := by exact fun _ _ => rfl) : PX X (.Subscript (.Name y py) ke pos) (tDGet (tVar i) tk) (wDGet i wk) :=
  ⟨pe_dget (by omega) hi hk.pe hs, fun G B H σ ρ P x w Q q => by
    unfold wDGet at w
    split at w
    · rename_i kvs hi'
      obtain ⟨p, e1, _, _, _⟩ := x.getOwn hi'
      refine ⟨_, e1, hk.ev G B H σ ρ _ x w _ fun kv kd B2 H2 w2 g2 s2 h2 => ?_⟩
      split at w2
      · rename_i k hkd
        have x2 := x.step g2 s2
        obtain ⟨p', e1', _, _, us, hp, hkv⟩ := x2.getOwn hi'
        rw [e1] at e1'
        cases e1'
        have hv := key_v h2 hkd
        subst hv
        obtain ⟨d, hd, w3⟩ := w2
        obtain ⟨v, h3, h4⟩ := kv_get hkv hd
        have := DGet.k (k := k) hp
        rw [h3] at this
        exact ⟨p, v, rfl, this, q _ _ B2 H2 w3 g2 s2 h4⟩
      · exact w2.elim
    · exact w.elim⟩
end
end PL
/-! Layer P, part c: a tuple turned, t[::-1]. -/
namespace PL
open PySem L2 HT PySem.Spec PyProof.Rows
section
open PySem.SeqAt
open PySem.AutoSeq1 (wpAny_loadPart')
open PySem.MeetsSeq PySem.MeetsSeq2 PySem.MeetsSeq3
variable {prog : Program} {w : World} {A : Around} {E : Value → Shared → Prop} {s : Shared}
theorem sliceApplied_back {sl : Addr} {vl vu vs : Value} {n : Nat} {Q : Int × Int × Nat → Shared → Prop} (hs : s.heap.IsSliceOf sl vl vu vs) (pl : IsPart vl none) (pu : IsPart vu none) (ps : IsPart vs (some (-1)))
    (h : Q ((n : Int) - 1, -1, n) s) : wpAny (model prog w) A (Builtin.Slice.sliceApplied (.ref sl) (pure (n : Int))) Q E s := by
  obtain ⟨os, hos, hcs, hds⟩ := id hs
  unfold Builtin.Slice.sliceApplied Builtin.Slice.sliceFields
  refine wpAny_bind (wpAny_bind (wpAny_field hos hds (x := vl) rfl (wpAny_bind (wpAny_field hos hds (x := vu) rfl (wpAny_bind (wpAny_field hos hds (x := vs) rfl (wpAny_pure ?_)))))))
  refine wpAny_bind (slicePart_ ps ?_)
  show wpAny _ _ (if ((-1 : Int) == 0) = true then _ else _) _ _ s
  rw [if_neg (by decide)]
  refine wpAny_bind (slicePart_ pl (wpAny_bind (slicePart_ pu (wpAny_bind (wpAny_pure ?_)))))
  show wpAny _ _ (pure ((n : Int) - 1, (-1 : Int), Builtin.Slice.slicePlaces ((n : Int) - 1) (-1) (-1))) _ _ s
  have e : Builtin.Slice.slicePlaces ((n : Int) - 1) (-1) (-1) = n := by
    unfold Builtin.Slice.slicePlaces
    have h1 : ¬ ((-1 : Int) > 0) := by decide
    rw [if_neg h1, show (- -1 : Int) = 1 by decide, Int.ediv_one]
    split <;> omega
  rw [e]
  exact wpAny_pure h
theorem pick_back (xs : Array Value) : ((List.range xs.size).filterMap fun (m : Nat) => xs[((xs.size : Int) - 1 + (m : Int) * (-1)).toNat]?).toArray = xs.toList.reverse.toArray := by
  have key : ∀ l : List Nat, (∀ m ∈ l, m < xs.size) → l.filterMap (fun (m : Nat) => xs[((xs.size : Int) - 1 + (m : Int) * (-1)).toNat]?) = l.filterMap (fun m => xs[xs.size - 1 - m]?) := by
    intro l
    induction l with
    | nil => intro _; rfl
    | cons m l ih =>
      intro h
      have hm := h m List.mem_cons_self
      have em : ((xs.size : Int) - 1 + (m : Int) * (-1)).toNat = xs.size - 1 - m := by omega
      rw [List.filterMap_cons, List.filterMap_cons, em, ih fun k hk => h k (List.mem_cons_of_mem _ hk)]
  have e := key (List.range xs.size) fun m hm => List.mem_range.mp hm
  have e2 : (List.range xs.size).filterMap (fun m => xs[xs.size - 1 - m]?) = ((List.range xs.size).map (fun k => xs.size - 1 - k)).filterMap (xs[·]?) := by
    rw [List.filterMap_map]
    rfl
  rw [e, e2, PySem.W.krv_range, List.filterMap_reverse, PySem.W.krv_all]
theorem getItem_tuple_back {t sl : Addr} {items : Array Value} {vl vu vs : Value} {Q : Value → Shared → Prop} (ht : IsTup s.heap t items) (hs : s.heap.IsSliceOf sl vl vu vs) (pl : IsPart vl none) (pu : IsPart vu none) (ps : IsPart vs (some (-1)))
    (h : Q (.ref s.heap.objs.size) { s with heap := s.heap.push { cls := .type "tuple", data := .seq items.toList.reverse.toArray } })
    (hsz : items.size ≤ sizeLine) : wpAny (model prog w) A (getItem (.ref t) (.ref sl)) Q E s := by
  have htake : sizeOk (.seq items.toList.reverse.toArray) := by
    show items.toList.reverse.toArray.size ≤ sizeLine
    rw [List.size_toArray, List.length_reverse, Array.length_toList]
    exact hsz
  obtain ⟨os, hos, hcs, hds⟩ := id hs
  have hTs : s.TypeIs (.ref sl) "slice" := ⟨os, hos, hcs⟩
  unfold getItem
  try with_reducible refine wpAny_holding ?_
  first | refine wpAny_bind (wpAny_pure ?_) | skip
  refine wpAny_bind (wpAny_sequenceKey ht.typeIs (by decide) ?_)
  refine wpAny_bind (wpAny_callSpecial?_slot (name := Str.ofString "__getitem__") ht.typeIs PyProof.Rows.slot_tuple_getitem
    (wpAny_call_entry PyProof.Rows.slot_tuple_getitem ht.typeIs entry_tuple_getitem ?_ (args_tuple_getitem _ _)))
  show wpAny _ _ (Builtin.Tuple.tupleItemsOf (.ref t) >>= _) _ _ s
  refine wpAny_bind (tupleItemsOf_ ht ?_)
  refine wpAny_bind (wpAny_typeOf hTs ?_)
  rw [if_pos (by decide)]
  refine wpAny_bind (sliceApplied_back hs pl pu ps ?_)
  have hno : ¬ ((((items.size : Int) - 1 == 0 && (-1 : Int) == 1 && items.size == items.size)) = true) := by
    intro q
    rw [Bool.and_eq_true, Bool.and_eq_true] at q
    exact absurd (eq_of_beq q.1.2) (by decide)
  show wpAny _ _ (if ((items.size : Int) - 1 == 0 && (-1 : Int) == 1 && items.size == items.size) = true then _ else _) _ _ s
  rw [if_neg hno, pick_back]
  first
    | exact wpAny_bind (m := Builtin.Tuple.tupleExact _) (wpAny_newObj_type (wpAny_pure ⟨_, rfl, wpAny_pure h⟩) htake)
    | exact wpAny_bind (m := Builtin.Tuple.tupleExact _) (wpAny_newObj_type (wpAny_bind (wpAny_pure (wpAny_pure ⟨_, rfl, wpAny_pure h⟩))) htake)
    | exact wpAny_bind (wpAny_bind (m := Builtin.Tuple.tupleExact _) (wpAny_newObj_type (wpAny_pure (wpAny_pure ⟨_, rfl, wpAny_pure h⟩)) htake))
    | exact wpAny_bind (wpAny_bind (m := Builtin.Tuple.tupleExact _) (wpAny_newObj_type (wpAny_pure ⟨_, rfl, wpAny_pure h⟩) htake))
end
def tRevT (K : PySem.W.Frag) (te : TE) : TE := fun σ H Q => te σ H fun x H1 => ∃ a xs, x = .ref a ∧ SqT K H1 a xs ∧ ∀ p, H1 p = none → Q (.ref p) (upd H1 p (.tup xs.reverse))
section
variable {X : Cx} {e : Expr} {te : TE} {we : WE} {k : Nat} {p1 p2 p3 pos : Pos}
theorem pe_revT (he : PE X e te) : PE X (.Subscript e (.Slice none none (some (.UnaryOp .USub (.Constant (.int 1) k p1) p2)) p3) pos) (tRevT X.K te) := by
  refine ⟨fun pins s σ H Q I h => ?_⟩
  refine Subscript_ (thn (he.run pins s σ H _ I h) fun v s1 ⟨x, H1, I1, r1, q1⟩ => ?_)
  obtain ⟨a, xs, ex, hx, q⟩ := q1
  subst ex
  cases r1
  have hst : PO X (some (.UnaryOp .USub (.Constant (.int 1) k p1) p2)) (tPart (tUn (rU fun i => .int (-i)) (tC (.int 1)))) := po_some (pe_un un_neg pe_int)
  refine wpAny_Slice (thn (po_none.run pins s1 σ H1 (fun o H2 => o = none ∧ H2 = H1) I1 ⟨rfl, rfl⟩) fun vl s2 ⟨l, H2, I2, pl, el, e2⟩ => ?_)
  subst el e2
  refine thn (po_none.run pins s2 σ H2 (fun o H3 => o = none ∧ H3 = H2) I2 ⟨rfl, rfl⟩) fun vu s3 ⟨u, H3, I3, pu, eu, e3⟩ => ?_
  subst eu e3
  refine thn (hst.run pins s3 σ H3 (fun o H4 => o = some (-1) ∧ H4 = H3) I3 ⟨1, rfl, -1, rfl, rfl, rfl⟩) fun vs s4 ⟨o, H4, I4, ps, eo, e4⟩ => ?_
  subst eo e4
  have I5 : Inv X pins σ H4 { s4 with heap := s4.heap.push { cls := .type "slice", data := .fields #[vl, vu, vs] } } := I4.kept (t' := s4.toks) fun b ob q => Heap.get?_push_of_some _ q
  obtain ⟨its, r, ht, hz⟩ := I5.tuple hx
  have hlen := r.length
  show wpAny (model X.prog X.w) X.A (subscriptTail e (.Slice none none (some (.UnaryOp .USub (.Constant (.int 1) k p1) p2)) p3) (.ref a) (.ref s4.heap.objs.size)) (EP X pins σ Q) X.xe { s4 with heap := s4.heap.push { cls := .type "slice", data := .fields #[vl, vu, vs] } }
  refine tail_any (ops := [.ref a, .ref s4.heap.objs.size]) ht.typeIs (PyProof.Rows.slot_tuple_getitem.lookup) ?_ (by with_unfolding_all rfl)
  refine getItem_tuple_back ht (Heap.IsSliceOf.new _ vl vu vs) pl pu ps ?_ (by rw [List.size_toArray]; omega)
  refine ⟨.ref _, _, I5.laid (t' := s4.toks) (o := .tup xs.reverse) (fun b ob q => Heap.get?_push_of_some _ q) (Nat.le_refl _) ?_, rfl, q _ (I5.hok.fresh (Nat.le_refl _))⟩
  exact ⟨by rw [List.length_reverse]; exact hz, _, r.reverse, _, Heap.get?_push_size _ rfl, rfl, _, rfl⟩
def wRevT (wa : WE) : WE := fun ρ P => wa ρ fun d => match d with
  | .tuple ds => P (.tuple ds.reverse)
  | _ => False
theorem x_revT (ha : PX X e te we) : PX X (.Subscript e (.Slice none none (some (.UnaryOp .USub (.Constant (.int 1) k p1) p2)) p3) pos) (tRevT X.K te) (wRevT we) := ⟨pe_revT ha.pe, fun G B H σ ρ P x w Q q =>
  ha.ev G B H σ ρ _ x w _ fun v d B1 H1 w1 g1 s1 h1 => by
    split at w1
    · cases h1 with
      | tup hs hd => exact ⟨_, _, rfl, sqT_same g1.bh hs, fun r hr => q _ _ _ _ w1 (g1.trans (Go.add g1.bh hr)) (s1.add g1.bh hr) (.tup (.inl (.inl upd_same)) (hd.rev.up (Go.add (S := G.S) (o := .tup _) g1.bh hr).b))⟩
    · exact w1.elim⟩
end
end PL
/-! Layer P, part d: a, b = x, [] where a comprehension holds a or b. -/
namespace PL
open PySem L2 PySem.Spec PyProof.Rows
theorem par_env {K : PySem.W.Frag} {G : Gm} {B H B1 H1 : Hp} {σ : L2.St} {ρ : Env} {i j : Nat} (x : EnvOk K G B H σ ρ) (g1 : Go G.S B H B1 H1) (s1 : SrcOk G.S B1 H1) {v v2 : V} {a b : Sl} (m : MAll K H B1 H1 [v, v2] [a, b]) : EnvOk K G B1 H1 ((σ.set i (some v)).set j (some v2)) ((ρ.set i a).set j b) := by
  have x1 := x.step g1 s1
  have hG : ∀ p, H p = none → G.H0 p = none := fun p hp => x.go.back hp
  have old : ∀ {Z : Prop} (j : Nat) oj p, ρ[j]? = some (Sl.own oj) → σ[j]? = some (some (V.ref p)) → H p = none → Z := fun j oj p h1 h2 h3 => by
    obtain ⟨q, e1, _, _, h4⟩ := x.getOwn h1
    rw [e1] at h2
    cases h2
    obtain ⟨t, ht⟩ := h4.some
    rw [h3] at ht; cases ht
  have x2 : ∀ v v2, MAll K H B1 H1 [v, v2] [a, b] → EnvOk K G B1 H1 (σ.set i (some v)) (ρ.set i a) := fun v v2 m => x1.setSl hG m fun j oj p h1 h2 h3 => old j oj p h1 h2 h3
  have fin : ∀ v v2, MAll K H B1 H1 [v, v2] [a, b] → MAll K H B1 H1 [v2] [b] → EnvOk K G B1 H1 ((σ.set i (some v)).set j (some v2)) ((ρ.set i a).set j b) := fun v v2 m m2 => by
    cases m2 with
    | dat hd t => exact (x2 v v2 m).setDat hd
    | own h0 hb ok hd t =>
      refine (x2 v _ m).setAny ⟨_, rfl, hG _ h0, hb, ok⟩ fun o' p' e1 e2 l ol _ hl hs => ?_
      cases e2
      rcases set_cases hl with ⟨e3, e4⟩ | ⟨e3, e4⟩
      · rcases set_cases hs with ⟨_, e5⟩ | ⟨n, _⟩
        · have e6 : v = .ref _ := Option.some.inj e5
          subst e6
          subst e4
          cases m with
          | own _ _ _ hd' _ => exact hd' 0 _ rfl rfl
        · exact n e3
      · rcases set_cases hs with ⟨n, _⟩ | ⟨_, e5⟩
        · exact e3 n
        · exact old l ol _ e4 e5 h0
  cases m with
  | dat hd t => exact fin v v2 (.dat hd t) t
  | own a b c d t => exact fin _ v2 (.own a b c d t) t
section
variable {X : Cx} {pos : Pos} {wm : WM}
theorem ev_asgM {K : PySem.W.Frag} {i j : Nat} {ta : TA} (h : EvM K ta wm) : EvS K (tAsg (tTup ta) (gTup K 2 (gCons (gName i) (gCons (gName j) gNil)))) (wPar i j wm) := fun G B H σ ρ O En x k w =>
  h G B H σ ρ _ x w _ fun vs ss B1 H1 w1 g1 s1 m => by
    split at w1
    · rename_i a b
      have fin : ∀ v v2, vs = [v, v2] → MAll K H B1 H1 [v, v2] [a, b] → vs.length ≤ sizeLine ∧ ∀ p, H1 p = none → gTup K 2 (gCons (gName i) (gCons (gName j) gNil)) (.ref p) σ (upd H1 p (.tup vs)) En.nx := fun v v2 e m => by
        subst e
        refine ⟨by rw [sizeLine_eq]; show 2 ≤ _; omega, fun p hp => ⟨p, _, rfl, .inl (.inl upd_same), rfl, _, _, rfl, _, _, rfl, rfl, ?_⟩⟩
        have x3 := par_env (i := i) (j := j) x g1 s1 m
        exact k.nx _ _ B1 _ w1 (x3.step (Go.own x3.bh hp) (s1.own x3.bh hp))
      cases m with
      | dat hd t =>
        cases t with
        | dat hd2 t2 => cases t2; exact fin _ _ rfl (.dat hd (.dat hd2 .nil))
        | own a b c d t2 => cases t2; exact fin _ _ rfl (.dat hd (.own a b c d .nil))
      | own a b c d t =>
        cases t with
        | dat hd2 t2 => cases t2; exact fin _ _ rfl (.own a b c d (.dat hd2 .nil))
        | own a2 b2 c2 d2 t2 => cases t2; exact fin _ _ rfl (.own a b c d (.own a2 b2 c2 d2 .nil))
    · exact w1.elim
theorem x_asgM (i j : Nat) {x y : Str} {a b : Expr} {ta : TA} {px py pt : Pos} {kt k2 : Nat} {pt2 : Pos} (h : PXM X [a, b] ta wm) (hN : X.N.Nodup) (gi : PG X (.Name x px) (gName i)) (gj : PG X (.Name y py) (gName j))
    (hsg : (assignEach [.Name x px, .Name y py] X.env).map (·.2) = assign (.Name x px) X.env :: (assignEach [.Name y py] X.env).map (·.2) := by rfl) (hsg2 : (assignEach [.Name y py] X.env).map (·.2) = assign (.Name y py) X.env :: (assignEach [] X.env).map (·.2) := by rfl)
    (hn : (assignEach [.Name x px, .Name y py] X.env).length = 2 := by rfl) (hst : (assignEach [.Name x px, .Name y py] X.env).findIdx? (·.1) = none := by rfl)
    (hw : swappedStores [.Tuple [.Name x px, .Name y py] kt pt] (.Tuple [a, b] k2 pt2) X.env = pure none := by rfl) (hs : swapsWithSole [.Tuple [.Name x px, .Name y py] kt pt] (.Tuple [a, b] k2 pt2) pos.line X.env = pure false := by rfl) (hc : X.calm = true := by rfl) :
    PXS X (.Assign [.Tuple [.Name x px, .Name y py] kt pt] (.Tuple [a, b] k2 pt2) pos) (tAsg (tTup ta) (gTup X.K 2 (gCons (gName i) (gCons (gName j) gNil)))) (wPar i j wm) :=
  ⟨ps_asg (pe_tup h.pe) (pg_tup hc (pgs_cons gi (pgs_cons gj pgs_nil hsg2) hsg) hn hst) hs hw, ev_asgM h.ev⟩
end
end PL
/-! Fractions, digits, walks: plain Lean. -/
namespace NM
abbrev Fr := Int × Int

theorem bez : ∀ a b : Nat, ∃ x y : Int, (a : Int) * x + b * y = ((Nat.gcd a b : Nat) : Int) := by
  intro a b
  induction a, b using Nat.gcd.induction with
  | H0 n => exact ⟨0, 1, by simp⟩
  | H1 m n h ih =>
    obtain ⟨x, y, e⟩ := ih
    refine ⟨y - ((n / m : Nat) : Int) * x, x, ?_⟩
    rw [Nat.gcd_rec m n, ← e]
    have d : (n : Int) = m * ((n / m : Nat) : Int) + ((n % m : Nat) : Int) := by
      rw [← Int.natCast_mul, ← Int.natCast_add, Nat.div_add_mod]
    grind
theorem bezI (a b : Int) : ∃ x y : Int, a * x + b * y = (Int.gcd a b : Int) := by
  obtain ⟨x, y, e⟩ := bez a.natAbs b.natAbs
  have ha : ∃ s : Int, (a.natAbs : Int) = a * s := by
    rcases Int.natAbs_eq a with h | h
    · exact ⟨1, by omega⟩
    · exact ⟨-1, by omega⟩
  have hb : ∃ s : Int, (b.natAbs : Int) = b * s := by
    rcases Int.natAbs_eq b with h | h
    · exact ⟨1, by omega⟩
    · exact ⟨-1, by omega⟩
  obtain ⟨s, hs⟩ := ha
  obtain ⟨u, hu⟩ := hb
  refine ⟨s * x, u * y, ?_⟩
  show _ = ((Nat.gcd a.natAbs b.natAbs : Nat) : Int)
  rw [← e, hs, hu]
  grind
theorem inv_ex {n m : Int} (h : Int.gcd n m = 1) : ∃ u, m ∣ n * u - 1 := by
  obtain ⟨x, y, e⟩ := bezI n m
  rw [h] at e
  exact ⟨x, -y, by grind⟩
theorem cop_of {a b : Int} {x y : Int} (h : a * x + b * y = 1) : Int.gcd a b = 1 := by
  have d : ((Int.gcd a b : Nat) : Int) ∣ 1 := by
    rw [← h]
    exact Int.dvd_add (Int.dvd_trans (Int.gcd_dvd_left a b) (Int.dvd_mul_right _ _)) (Int.dvd_trans (Int.gcd_dvd_right a b) (Int.dvd_mul_right _ _))
  have := Int.eq_one_of_dvd_one (Int.natCast_nonneg _) d
  omega
theorem cop_dvd {a b c : Int} (h : Int.gcd b a = 1) (hd : a ∣ b * c) : a ∣ c := by
  obtain ⟨u, hu⟩ := inv_ex h
  have e : c = u * (b * c) - c * (b * u - 1) := by grind
  rw [e]
  exact Int.dvd_sub (Int.dvd_trans hd (Int.dvd_mul_left _ _)) (Int.dvd_trans hu (Int.dvd_mul_left _ _))
theorem cop_mul {a b c : Int} (h1 : Int.gcd a c = 1) (h2 : Int.gcd b c = 1) : Int.gcd (a * b) c = 1 := by
  obtain ⟨x, y, e⟩ := bezI a c
  obtain ⟨x', y', e'⟩ := bezI b c
  rw [h1] at e
  rw [h2] at e'
  refine cop_of (x := x * x') (y := a * x * y' + y * b * x' + y * c * y') ?_
  have e1 : a * x + c * y = 1 := e
  have e2 : b * x' + c * y' = 1 := e'
  have : (a * x + c * y) * (b * x' + c * y') = 1 := by rw [e1, e2]; rfl
  grind
theorem cop_sub {a b c : Int} (h : Int.gcd a c = 1) (hd : b ∣ a) : Int.gcd b c = 1 := by
  obtain ⟨x, y, e⟩ := bezI a c
  rw [h] at e
  obtain ⟨k, rfl⟩ := hd
  exact cop_of (x := k * x) (y := y) (by have e1 : b * k * x + c * y = 1 := e; grind)
theorem cop_pow {a c : Int} (h : Int.gcd a c = 1) : ∀ n : Nat, Int.gcd a (c ^ n) = 1
  | 0 => by rw [Int.pow_zero]; exact cop_of (x := 0) (y := 1) (by simp)
  | n + 1 => by
    rw [Int.pow_succ, Int.gcd_comm]
    exact cop_mul (by rw [Int.gcd_comm]; exact cop_pow h n) (by rw [Int.gcd_comm]; exact h)

theorem cop_less {a b : Int} (q : Int) (h : Int.gcd a b = 1) : Int.gcd (a - q * b) b = 1 := by
  obtain ⟨x, y, e⟩ := bezI a b
  rw [h] at e
  have e1 : a * x + b * y = 1 := e
  exact cop_of (x := x) (y := y + q * x) (by grind)

/-! ### reduced fractions -/
def gz (a b : Int) : Int := (Int.gcd a b : Int)
def red (t b : Int) : Fr := (t / gz t b, b / gz t b)
theorem gz_pos {t b : Int} (h : 0 < b) : 0 < gz t b := by
  unfold gz
  have : 0 < Int.gcd t b := Int.gcd_pos_of_ne_zero_right t (by omega)
  omega
theorem red_spec {t b : Int} (hb : 0 < b) : ∃ g, 0 < g ∧ g = gz t b ∧ t = g * (red t b).1 ∧ b = g * (red t b).2 ∧ 0 < (red t b).2 ∧ Int.gcd (red t b).1 (red t b).2 = 1 := by
  have hg := gz_pos (t := t) hb
  refine ⟨gz t b, hg, rfl, (Int.mul_ediv_cancel' (Int.gcd_dvd_left t b)).symm, (Int.mul_ediv_cancel' (Int.gcd_dvd_right t b)).symm, ?_, ?_⟩
  · exact Int.ediv_pos_of_pos_of_dvd hb (by omega) (Int.gcd_dvd_right t b)
  · exact Int.gcd_ediv_gcd_ediv_gcd (by unfold gz at hg; omega)
theorem red_uni {t b g t' b' : Int} (hg : 0 < g) (h1 : t = g * t') (h2 : b = g * b') (hc : Int.gcd t' b' = 1) : red t b = (t', b') := by
  have e : gz t b = g := by
    unfold gz
    rw [h1, h2, Int.gcd_mul_left, hc]
    omega
  unfold red
  rw [e, h1, h2, Int.mul_ediv_cancel_left _ (by omega), Int.mul_ediv_cancel_left _ (by omega)]
theorem red_cross {t b t' b' : Int} (hb : 0 < b) (hb' : 0 < b') (hc : Int.gcd t' b' = 1) (h : t * b' = t' * b) : red t b = (t', b') := by
  have d : b' ∣ t' * b := ⟨t, by rw [← h]; grind⟩
  obtain ⟨g, hg⟩ := cop_dvd hc d
  have hg0 : 0 < g := by
    have : 0 < g * b' := by rw [Int.mul_comm, ← hg]; exact hb
    exact Int.pos_of_mul_pos_left this hb'
  refine red_uni hg0 ?_ (by rw [hg]; grind) hc
  have : b' * (t - g * t') = 0 := by grind
  rcases Int.mul_eq_zero.mp this with z | z
  · omega
  · omega
theorem red_id {t b : Int} (hb : 0 < b) (hc : Int.gcd t b = 1) : red t b = (t, b) := red_cross hb hb hc rfl

/-! ### rests -/
def digP (B : Nat) (x : Fr) (r : Nat) : Bool := decide ((x.1 - r * x.2) % (B : Int) = 0)
def digN (B : Nat) (x : Fr) : Nat := ((List.range B).find? (digP B x)).getD 0
theorem digP_iff {B : Nat} {x : Fr} {r : Nat} : digP B x r = true ↔ (B : Int) ∣ x.1 - r * x.2 := by
  unfold digP
  rw [decide_eq_true_iff]
  exact ⟨Int.dvd_of_emod_eq_zero, Int.emod_eq_zero_of_dvd⟩
theorem dig_uni {B : Nat} {x : Fr} (h : Int.gcd x.2 B = 1) {r s : Nat} (hr : r < B) (hs : s < B) (dr : (B : Int) ∣ x.1 - r * x.2) (ds : (B : Int) ∣ x.1 - s * x.2) : r = s := by
  have d : (B : Int) ∣ x.2 * ((s : Int) - r) := by
    have := Int.dvd_sub dr ds
    have e : x.1 - r * x.2 - (x.1 - s * x.2) = x.2 * ((s : Int) - r) := by grind
    rwa [e] at this
  have d2 := cop_dvd h d
  obtain ⟨k, hk⟩ := d2
  have : k = 0 := by
    rcases Int.lt_trichotomy k 0 with z | z | z
    · have : (B : Int) * k ≤ (B : Int) * (-1) := Int.mul_le_mul_of_nonneg_left (by omega) (by omega)
      omega
    · exact z
    · have : (B : Int) * 1 ≤ (B : Int) * k := Int.mul_le_mul_of_nonneg_left (by omega) (by omega)
      omega
  subst this
  omega
theorem rest_ex {B : Nat} {x : Fr} (hB : 0 < B) (h : Int.gcd x.2 B = 1) : ∃ r, r < B ∧ (B : Int) ∣ x.1 - r * x.2 := by
  obtain ⟨u, v, hv⟩ := inv_ex h
  have h0 := Int.emod_nonneg (x.1 * u) (show (B : Int) ≠ 0 by omega)
  have h1 := Int.emod_lt_of_pos (x.1 * u) (show 0 < (B : Int) by omega)
  refine ⟨((x.1 * u) % (B : Int)).toNat, by omega, ?_⟩
  rw [Int.toNat_of_nonneg h0]
  have e := Int.mul_ediv_add_emod (x.1 * u) (B : Int)
  refine ⟨-(x.1 * v) + x.1 * u / (B : Int) * x.2, ?_⟩
  have e2 : x.1 * u % (B : Int) = x.1 * u - B * (x.1 * u / B) := by omega
  rw [e2]
  grind
theorem dig_find {B : Nat} {x : Fr} (hB : 0 < B) (h : Int.gcd x.2 B = 1) : (List.range B).find? (digP B x) = some (digN B x) ∧ digN B x < B ∧ (B : Int) ∣ x.1 - digN B x * x.2 := by
  obtain ⟨r, hr, d⟩ := rest_ex hB h
  cases e : (List.range B).find? (digP B x) with
  | none =>
    have := List.find?_eq_none.mp e r (List.mem_range.mpr hr)
    exact absurd (digP_iff.mpr d) this
  | some s =>
    have e1 : digN B x = s := by unfold digN; rw [e]; rfl
    have h1 := List.find?_some e
    have h2 := List.mem_of_find?_eq_some e
    rw [e1]
    exact ⟨rfl, List.mem_range.mp h2, digP_iff.mp h1⟩
theorem dig_lt {B : Nat} {x : Fr} (hB : 0 < B) (h : Int.gcd x.2 B = 1) : digN B x < B := (dig_find hB h).2.1
theorem dig_dvd {B : Nat} {x : Fr} (hB : 0 < B) (h : Int.gcd x.2 B = 1) : (B : Int) ∣ x.1 - digN B x * x.2 := (dig_find hB h).2.2
theorem dig_eq {B : Nat} {x : Fr} {r : Nat} (h : Int.gcd x.2 B = 1) (hr : r < B) (d : (B : Int) ∣ x.1 - r * x.2) : digN B x = r :=
  dig_uni h (dig_lt (by omega) h) hr (dig_dvd (by omega) h) d

/-! ### rules -/
structure GoodR (B : Nat) (ps : List (Int × Int)) : Prop where
  b2 : 2 ≤ B
  len : ps.length = B
  a1 : ∀ p ∈ ps, 1 ≤ p.1
  cop : ∀ p ∈ ps, Int.gcd p.1 B = 1
  div : ∀ (r : Nat) p, ps[r]? = some p → (B : Int) ∣ p.1 * r + p.2
structure GoodX (B : Nat) (x : Fr) : Prop where
  pos : 0 < x.2
  cop : Int.gcd x.2 B = 1
  red : Int.gcd x.1 x.2 = 1
def prA (ps : List (Int × Int)) (r : Nat) : Int × Int := ps.getD r (1, 0)
theorem prA_get {B : Nat} {ps : List (Int × Int)} (R : GoodR B ps) {r : Nat} (h : r < B) : ps[r]? = some (prA ps r) := by
  unfold prA
  have hr : r < ps.length := by rw [R.len]; exact h
  simp [hr]
theorem prA_mem {B : Nat} {ps : List (Int × Int)} (R : GoodR B ps) {r : Nat} (h : r < B) : prA ps r ∈ ps := List.mem_of_getElem? (prA_get R h)
def nxt (B : Nat) (ps : List (Int × Int)) (x : Fr) : Fr := red ((prA ps (digN B x)).1 * x.1 + (prA ps (digN B x)).2 * x.2) (B * x.2)
section
variable {B : Nat} {ps : List (Int × Int)} {x : Fr}
theorem num_dvd (R : GoodR B ps) (X : GoodX B x) : (B : Int) ∣ (prA ps (digN B x)).1 * x.1 + (prA ps (digN B x)).2 * x.2 := by
  have h0 : 0 < B := by have := R.b2; omega
  have d1 := dig_dvd h0 X.cop
  have d2 := R.div _ _ (prA_get R (dig_lt h0 X.cop))
  have e : (prA ps (digN B x)).1 * x.1 + (prA ps (digN B x)).2 * x.2 = (prA ps (digN B x)).1 * (x.1 - digN B x * x.2) + ((prA ps (digN B x)).1 * digN B x + (prA ps (digN B x)).2) * x.2 := by grind
  rw [e]
  exact Int.dvd_add (Int.dvd_trans d1 (Int.dvd_mul_left _ _)) (Int.dvd_trans d2 (Int.dvd_mul_right _ _))
theorem nxt_spec (R : GoodR B ps) (X : GoodX B x) : GoodX B (nxt B ps x) ∧ ∃ e, 0 < e ∧ Int.gcd e B = 1 ∧ (prA ps (digN B x)).1 * x.1 + (prA ps (digN B x)).2 * x.2 = B * e * (nxt B ps x).1 ∧ x.2 = e * (nxt B ps x).2 := by
  have hB : (0 : Int) < B := by have := R.b2; omega
  have hb : 0 < (B : Int) * x.2 := Int.mul_pos hB X.pos
  have nd := num_dvd R X
  obtain ⟨g, hg, _, h1, h2, h3, h4⟩ := red_spec (t := (prA ps (digN B x)).1 * x.1 + (prA ps (digN B x)).2 * x.2) hb
  change _ = g * (nxt B ps x).1 at h1
  change _ = g * (nxt B ps x).2 at h2
  change 0 < (nxt B ps x).2 at h3
  change Int.gcd (nxt B ps x).1 (nxt B ps x).2 = 1 at h4
  obtain ⟨u, v, huv⟩ := bezI (nxt B ps x).1 (nxt B ps x).2
  rw [h4] at huv
  have hBg : (B : Int) ∣ g := by
    have e : g = ((prA ps (digN B x)).1 * x.1 + (prA ps (digN B x)).2 * x.2) * u + (B * x.2) * v := by
      rw [h1, h2]
      have : (nxt B ps x).1 * u + (nxt B ps x).2 * v = 1 := huv
      grind
    rw [e]
    exact Int.dvd_add (Int.dvd_trans nd (Int.dvd_mul_right _ _)) (Int.dvd_trans (Int.dvd_mul_right (B : Int) x.2) (Int.dvd_mul_right _ _))
  obtain ⟨e, rfl⟩ := hBg
  have he : x.2 = e * (nxt B ps x).2 := by
    have : (B : Int) * (x.2 - e * (nxt B ps x).2) = 0 := by grind
    rcases Int.mul_eq_zero.mp this with z | z
    · omega
    · omega
  have he0 : 0 < e := Int.pos_of_mul_pos_left (show 0 < e * (B : Int) by rw [Int.mul_comm]; exact hg) hB
  refine ⟨⟨h3, cop_sub X.cop ⟨e, by rw [he]; grind⟩, h4⟩, e, he0, cop_sub X.cop ⟨(nxt B ps x).2, he⟩, h1, he⟩
theorem nxt_good (R : GoodR B ps) (X : GoodX B x) : GoodX B (nxt B ps x) := (nxt_spec R X).1
/-- the quotients -/
theorem nxt_cross (R : GoodR B ps) (X : GoodX B x) : (nxt B ps x).1 * (B * x.2) = ((prA ps (digN B x)).1 * x.1 + (prA ps (digN B x)).2 * x.2) * (nxt B ps x).2 := by
  obtain ⟨_, e, _, _, h1, h2⟩ := nxt_spec R X
  rw [h1]
  grind
theorem good_int (hB : 1 ≤ B) (t : Int) : GoodX B (t, 1) := ⟨by show (0 : Int) < 1; decide, by show Int.gcd 1 B = 1; exact cop_of (x := 1) (y := 0) (by simp), by show Int.gcd t 1 = 1; exact cop_of (x := 0) (y := 1) (by simp)⟩
theorem nxt_int (R : GoodR B ps) (t : Int) : nxt B ps (t, 1) = (((prA ps (digN B (t, 1))).1 * t + (prA ps (digN B (t, 1))).2) / B, 1) := by
  have X := good_int (B := B) (by have := R.b2; omega) t
  have hB : (0 : Int) < B := by have := R.b2; omega
  obtain ⟨k, hk⟩ := num_dvd R X
  have hk' : (prA ps (digN B (t, 1))).1 * t + (prA ps (digN B (t, 1))).2 = B * k := by
    have : (prA ps (digN B (t, 1))).1 * t + (prA ps (digN B (t, 1))).2 * 1 = B * k := hk
    omega
  rw [hk', Int.mul_ediv_cancel_left _ (by omega)]
  unfold nxt
  refine red_cross (by show 0 < (B : Int) * 1; omega) (by decide) (cop_of (x := 0) (y := 1) (by simp)) ?_
  show ((prA ps (digN B (t, 1))).1 * t + (prA ps (digN B (t, 1))).2 * 1) * 1 = k * ((B : Int) * 1)
  grind
end

/-! ### walks -/
def it (B : Nat) (ps : List (Int × Int)) : Nat → Fr → Fr
  | 0, x => x
  | n + 1, x => nxt B ps (it B ps n x)
theorem it_shift (B : Nat) (ps : List (Int × Int)) : ∀ (n : Nat) (x : Fr), it B ps (n + 1) x = it B ps n (nxt B ps x)
  | 0, _ => rfl
  | n + 1, x => by
    show nxt B ps (it B ps (n + 1) x) = nxt B ps (it B ps n (nxt B ps x))
    rw [it_shift B ps n x]
theorem it_good {B : Nat} {ps : List (Int × Int)} (R : GoodR B ps) : ∀ (n : Nat) {x : Fr}, GoodX B x → GoodX B (it B ps n x)
  | 0, _, X => X
  | n + 1, _, X => nxt_good R (it_good R n X)
def digs (B : Nat) (ps : List (Int × Int)) (n : Nat) (x : Fr) : List Nat := (List.range n).map fun i => digN B (it B ps i x)
theorem digs_succ (B : Nat) (ps : List (Int × Int)) (n : Nat) (x : Fr) : digs B ps (n + 1) x = digs B ps n x ++ [digN B (it B ps n x)] := by
  unfold digs
  rw [List.range_succ, List.map_append]
  rfl
theorem digs_cons (B : Nat) (ps : List (Int × Int)) (n : Nat) (x : Fr) : digs B ps (n + 1) x = digN B x :: digs B ps n (nxt B ps x) := by
  unfold digs
  rw [List.range_succ_eq_map, List.map_cons, List.map_map]
  refine congrArg _ (List.map_congr_left fun i _ => ?_)
  show digN B (it B ps (i + 1) x) = _
  rw [it_shift]
theorem digs_len (B : Nat) (ps : List (Int × Int)) (n : Nat) (x : Fr) : (digs B ps n x).length = n := by simp [digs]
theorem digs_lt {B : Nat} {ps : List (Int × Int)} (R : GoodR B ps) {n : Nat} {x : Fr} (X : GoodX B x) : ∀ d ∈ digs B ps n x, d < B := fun d h => by
  obtain ⟨i, _, e⟩ := List.mem_map.mp h
  rw [← e]
  exact dig_lt (by have := R.b2; omega) (it_good R i X).cop

/-! ### lines -/
def stepL (B : Nat) (ps : List (Int × Int)) (s : Int × Int × Int) (d : Nat) : Int × Int × Int := (s.1 * (prA ps d).1, s.2.1 * (prA ps d).1 + (prA ps d).2 * s.2.2, s.2.2 * B)
def lin (B : Nat) (ps : List (Int × Int)) (ds : List Nat) : Int × Int × Int := ds.foldl (stepL B ps) (1, 0, 1)
def pA (ps : List (Int × Int)) (ds : List Nat) : Int := ds.foldl (fun s d => s * (prA ps d).1) 1
theorem lin_snoc (B : Nat) (ps : List (Int × Int)) (ds : List Nat) (d : Nat) : lin B ps (ds ++ [d]) = stepL B ps (lin B ps ds) d := by
  unfold lin
  rw [List.foldl_append]
  rfl
theorem pA_snoc (ps : List (Int × Int)) (ds : List Nat) (d : Nat) : pA ps (ds ++ [d]) = pA ps ds * (prA ps d).1 := by
  unfold pA
  rw [List.foldl_append]
  rfl
theorem pA_from (ps : List (Int × Int)) : ∀ (ds : List Nat) (a : Int), ds.foldl (fun s d => s * (prA ps d).1) a = a * pA ps ds
  | [], a => by simp [pA]
  | d :: ds, a => by
    unfold pA
    rw [List.foldl_cons, List.foldl_cons, pA_from ps ds, pA_from ps ds]
    grind
theorem pA_cons (ps : List (Int × Int)) (ds : List Nat) (d : Nat) : pA ps (d :: ds) = (prA ps d).1 * pA ps ds := by
  show (ds.foldl (fun s d => s * (prA ps d).1) (1 * (prA ps d).1)) = _
  rw [pA_from]
  grind
theorem lin_A (B : Nat) (ps : List (Int × Int)) (ds : List Nat) : (lin B ps ds).1 = pA ps ds := by
  have : ∀ (ds : List Nat) (s : Int × Int × Int), (ds.foldl (stepL B ps) s).1 = ds.foldl (fun s d => s * (prA ps d).1) s.1 := by
    intro ds
    induction ds with
    | nil => intro s; rfl
    | cons d ds ih => intro s; exact ih _
  exact this ds (1, 0, 1)
theorem lin_P (B : Nat) (ps : List (Int × Int)) (ds : List Nat) : (lin B ps ds).2.2 = (B : Int) ^ ds.length := by
  have : ∀ (ds : List Nat) (s : Int × Int × Int), (ds.foldl (stepL B ps) s).2.2 = s.2.2 * (B : Int) ^ ds.length := by
    intro ds
    induction ds with
    | nil => intro s; simp
    | cons d ds ih =>
      intro s
      show (ds.foldl (stepL B ps) (stepL B ps s d)).2.2 = _
      rw [ih, List.length_cons, Int.pow_succ]
      show s.2.2 * B * (B : Int) ^ ds.length = _
      grind
  have h := this ds (1, 0, 1)
  rw [Int.one_mul] at h
  exact h
section
variable {B : Nat} {ps : List (Int × Int)} {x : Fr}
theorem lin_walk (R : GoodR B ps) (X : GoodX B x) : ∀ n : Nat, (it B ps n x).1 * (x.2 * (B : Int) ^ n) = ((lin B ps (digs B ps n x)).1 * x.1 + (lin B ps (digs B ps n x)).2.1 * x.2) * (it B ps n x).2
  | 0 => by
    show x.1 * (x.2 * (B : Int) ^ 0) = (1 * x.1 + 0 * x.2) * x.2
    rw [Int.pow_zero]
    grind
  | n + 1 => by
    have ih := lin_walk R X n
    have Y := it_good R n X
    have cr := nxt_cross R Y
    have hp := lin_P B ps (digs B ps n x)
    rw [digs_len] at hp
    rw [digs_succ, lin_snoc]
    show (nxt B ps (it B ps n x)).1 * (x.2 * (B : Int) ^ (n + 1)) = ((lin B ps (digs B ps n x)).1 * (prA ps (digN B (it B ps n x))).1 * x.1 + ((lin B ps (digs B ps n x)).2.1 * (prA ps (digN B (it B ps n x))).1 + (prA ps (digN B (it B ps n x))).2 * (lin B ps (digs B ps n x)).2.2) * x.2) * (nxt B ps (it B ps n x)).2
    rw [hp, Int.pow_succ]
    generalize it B ps n x = y at *
    generalize nxt B ps y = z at *
    generalize (prA ps (digN B y)).1 = a at *
    generalize (prA ps (digN B y)).2 = c at *
    generalize (lin B ps (digs B ps n x)).1 = L at *
    generalize (lin B ps (digs B ps n x)).2.1 = C at *
    generalize (B : Int) ^ n = q at *
    have hy := Y.pos
    have : y.2 * (z.1 * (x.2 * (q * B)) - (L * a * x.1 + (C * a + c * q) * x.2) * z.2) = 0 := by grind
    rcases Int.mul_eq_zero.mp this with w | w
    · omega
    · omega
/-- numbers of one class -/
theorem it_add (R : GoodR B ps) : ∀ (n : Nat) (t q : Int), digs B ps n (t + q * (B : Int) ^ n, 1) = digs B ps n (t, 1) ∧ (it B ps n (t, 1)).2 = 1 ∧ it B ps n (t + q * (B : Int) ^ n, 1) = ((it B ps n (t, 1)).1 + q * pA ps (digs B ps n (t, 1)), 1)
  | 0, t, q => by
    refine ⟨rfl, rfl, ?_⟩
    show (t + q * (B : Int) ^ 0, (1 : Int)) = (t + q * 1, 1)
    rw [Int.pow_zero]
  | n + 1, t, q => by
    have hB2 := R.b2
    have X := good_int (B := B) (by omega) t
    have X' := good_int (B := B) (by omega) (t + q * (B : Int) ^ (n + 1))
    have hd : digN B (t + q * (B : Int) ^ (n + 1), 1) = digN B (t, 1) := by
      refine dig_eq X'.cop (dig_lt (by omega) X.cop) ?_
      obtain ⟨k, hk⟩ := dig_dvd (by omega) X.cop
      refine ⟨k + q * (B : Int) ^ n, ?_⟩
      have hk' : t - (digN B (t, 1) : Int) * 1 = B * k := hk
      show t + q * (B : Int) ^ (n + 1) - (digN B (t, 1) : Int) * 1 = _
      rw [Int.pow_succ]
      grind
    obtain ⟨k, hk⟩ := num_dvd R X
    have hk' : (prA ps (digN B (t, 1))).1 * t + (prA ps (digN B (t, 1))).2 = B * k := by
      have : (prA ps (digN B (t, 1))).1 * t + (prA ps (digN B (t, 1))).2 * 1 = B * k := hk
      omega
    have n1 : nxt B ps (t, 1) = (k, 1) := by
      rw [nxt_int R, hk', Int.mul_ediv_cancel_left _ (by omega)]
    have n2 : nxt B ps (t + q * (B : Int) ^ (n + 1), 1) = (k + ((prA ps (digN B (t, 1))).1 * q) * (B : Int) ^ n, 1) := by
      rw [nxt_int R, hd]
      have : (prA ps (digN B (t, 1))).1 * (t + q * (B : Int) ^ (n + 1)) + (prA ps (digN B (t, 1))).2 = B * (k + ((prA ps (digN B (t, 1))).1 * q) * (B : Int) ^ n) := by
        rw [Int.pow_succ]
        grind
      rw [this, Int.mul_ediv_cancel_left _ (by omega)]
    obtain ⟨i1, i2, i3⟩ := it_add R n k ((prA ps (digN B (t, 1))).1 * q)
    rw [digs_cons, digs_cons, it_shift, it_shift, n1, n2, hd, i1]
    refine ⟨rfl, i2, ?_⟩
    rw [i3, pA_cons]
    refine Prod.ext ?_ rfl
    show _ + _ = _ + _
    grind
theorem pow_cancel {e z : Int} {B : Nat} (h : Int.gcd e B = 1) (n : Nat) (hd : (B : Int) ^ n ∣ e * z) : (B : Int) ^ n ∣ z := cop_dvd (cop_pow h n) hd
theorem dvd_pow_one {B n : Nat} : (B : Int) ∣ (B : Int) ^ (n + 1) := ⟨(B : Int) ^ n, by rw [Int.pow_succ]; grind⟩
/-- numbers that are alike by B so often have their first digits alike -/
theorem digs_alike (R : GoodR B ps) : ∀ (n : Nat) {x y : Fr}, GoodX B x → GoodX B y → (B : Int) ^ n ∣ x.1 * y.2 - y.1 * x.2 → digs B ps n x = digs B ps n y
  | 0, _, _, _, _, _ => rfl
  | n + 1, x, y, X, Y, d => by
    have hB2 := R.b2
    have hx := dig_dvd (by omega) X.cop
    have e : digN B y = digN B x := by
      refine dig_eq Y.cop (dig_lt (by omega) X.cop) (cop_dvd X.cop ?_)
      have : x.2 * (y.1 - (digN B x : Int) * y.2) = (x.1 - (digN B x : Int) * x.2) * y.2 - (x.1 * y.2 - y.1 * x.2) := by grind
      rw [this]
      exact Int.dvd_sub (Int.dvd_trans hx (Int.dvd_mul_right _ _)) (Int.dvd_trans dvd_pow_one d)
    obtain ⟨X', f, f0, fc, h1, h2⟩ := nxt_spec R X
    obtain ⟨Y', g, g0, gc, k1, k2⟩ := nxt_spec R Y
    rw [e] at k1
    rw [digs_cons, digs_cons, e]
    congr 1
    refine digs_alike R n X' Y' (pow_cancel (cop_mul fc gc) n ?_)
    obtain ⟨m, hm⟩ := d
    refine ⟨(prA ps (digN B x)).1 * m, ?_⟩
    generalize nxt B ps x = u at *
    generalize nxt B ps y = v at *
    generalize (prA ps (digN B x)).1 = a at *
    generalize (prA ps (digN B x)).2 = c at *
    rw [Int.pow_succ] at hm
    generalize (B : Int) ^ n = q at *
    have : (B : Int) * (f * g * (u.1 * v.2 - v.1 * u.2) - q * (a * m)) = 0 := by grind
    rcases Int.mul_eq_zero.mp this with w | w
    · omega
    · omega
end

/-! ### sizes -/
structure Bd (M : Nat) (x : Fr) : Prop where
  t : x.1.natAbs ≤ M
  b : x.2.natAbs ≤ M
structure PB (S : Nat) (B : Nat) (ps : List (Int × Int)) : Prop where
  b : B ≤ S
  p : ∀ q ∈ ps, q.1.natAbs + q.2.natAbs ≤ S
theorem natAbs_red_le {t b : Int} (hb : 0 < b) : (red t b).1.natAbs ≤ t.natAbs ∧ (red t b).2.natAbs ≤ b.natAbs := by
  obtain ⟨g, hg, _, h1, h2, _, _⟩ := red_spec (t := t) hb
  have hg' : 1 ≤ g.natAbs := by omega
  constructor
  · have e : t.natAbs = g.natAbs * (red t b).1.natAbs := by
      conv => lhs; rw [h1]
      exact Int.natAbs_mul _ _
    rw [e]
    exact Nat.le_mul_of_pos_left _ hg'
  · have e : b.natAbs = g.natAbs * (red t b).2.natAbs := by
      conv => lhs; rw [h2]
      exact Int.natAbs_mul _ _
    rw [e]
    exact Nat.le_mul_of_pos_left _ hg'
theorem num_le {S M : Nat} {a c t b : Int} (h : a.natAbs + c.natAbs ≤ S) (ht : t.natAbs ≤ M) (hb : b.natAbs ≤ M) : (a * t + c * b).natAbs ≤ S * M := by
  have h1 := Int.natAbs_add_le (a * t) (c * b)
  rw [Int.natAbs_mul, Int.natAbs_mul] at h1
  have h2 : a.natAbs * t.natAbs ≤ a.natAbs * M := Nat.mul_le_mul_left _ ht
  have h3 : c.natAbs * b.natAbs ≤ c.natAbs * M := Nat.mul_le_mul_left _ hb
  have h4 : a.natAbs * M + c.natAbs * M ≤ S * M := by
    rw [← Nat.add_mul]
    exact Nat.mul_le_mul_right _ h
  omega
theorem nxt_bd {B S M : Nat} {ps : List (Int × Int)} {x : Fr} (R : GoodR B ps) (X : GoodX B x) (p : PB S B ps) (m : Bd M x) : Bd (S * M) (nxt B ps x) := by
  have hB2 := R.b2
  have hb : 0 < (B : Int) * x.2 := Int.mul_pos (by omega) X.pos
  obtain ⟨h1, _⟩ := natAbs_red_le (t := (prA ps (digN B x)).1 * x.1 + (prA ps (digN B x)).2 * x.2) hb
  have h3 := num_le (p.p _ (prA_mem R (dig_lt (by omega) X.cop))) m.t m.b
  refine ⟨Nat.le_trans h1 h3, ?_⟩
  obtain ⟨_, e, e0, _, _, k⟩ := nxt_spec R X
  have : x.2.natAbs = e.natAbs * (nxt B ps x).2.natAbs := by
    conv => lhs; rw [k]
    exact Int.natAbs_mul _ _
  have h5 : (nxt B ps x).2.natAbs ≤ x.2.natAbs := by
    rw [this]
    exact Nat.le_mul_of_pos_left _ (by omega)
  have h6 : M ≤ S * M := Nat.le_mul_of_pos_left _ (by have := p.b; omega)
  exact Nat.le_trans (Nat.le_trans h5 m.b) h6
theorem it_bd {B S M : Nat} {ps : List (Int × Int)} {x : Fr} (R : GoodR B ps) (X : GoodX B x) (p : PB S B ps) (m : Bd M x) : ∀ n : Nat, Bd (S ^ n * M) (it B ps n x)
  | 0 => by rw [Nat.pow_zero, Nat.one_mul]; exact m
  | n + 1 => by
    have := nxt_bd R (it_good R n X) p (it_bd R X p m n)
    rw [Nat.pow_succ, Nat.mul_comm (S ^ n) S, Nat.mul_assoc]
    exact this
theorem stepL_bd {B S k : Nat} {ps : List (Int × Int)} (R : GoodR B ps) (p : PB S B ps) {d : Nat} (hd : d < B) {s : Int × Int × Int} (h1 : s.1.natAbs ≤ S ^ k) (h2 : s.2.1.natAbs ≤ k * S ^ k) (h3 : s.2.2.natAbs ≤ S ^ k) :
    (stepL B ps s d).1.natAbs ≤ S ^ (k + 1) ∧ (stepL B ps s d).2.1.natAbs ≤ (k + 1) * S ^ (k + 1) ∧ (stepL B ps s d).2.2.natAbs ≤ S ^ (k + 1) := by
  have q := p.p _ (prA_mem R hd)
  have hb := p.b
  unfold stepL
  refine ⟨?_, ?_, ?_⟩
  · show (s.1 * (prA ps d).1).natAbs ≤ _
    rw [Int.natAbs_mul, Nat.pow_succ]
    exact Nat.mul_le_mul h1 (by omega)
  · show (s.2.1 * (prA ps d).1 + (prA ps d).2 * s.2.2).natAbs ≤ _
    have e1 := Int.natAbs_add_le (s.2.1 * (prA ps d).1) ((prA ps d).2 * s.2.2)
    rw [Int.natAbs_mul, Int.natAbs_mul] at e1
    have e2 : s.2.1.natAbs * (prA ps d).1.natAbs ≤ (k * S ^ k) * S := Nat.mul_le_mul h2 (by omega)
    have e3 : (prA ps d).2.natAbs * s.2.2.natAbs ≤ S * S ^ k := Nat.mul_le_mul (by omega) h3
    rw [Nat.pow_succ]
    generalize S ^ k = z at *
    have e4 : k * z * S + S * z = (k + 1) * (z * S) := by grind
    omega
  · show (s.2.2 * B).natAbs ≤ _
    rw [Int.natAbs_mul, Nat.pow_succ]
    exact Nat.mul_le_mul h3 (by omega)
theorem lin_bd {B S : Nat} {ps : List (Int × Int)} (R : GoodR B ps) (p : PB S B ps) (ds : List Nat) (h : ∀ d ∈ ds, d < B) :
    (lin B ps ds).1.natAbs ≤ S ^ ds.length ∧ (lin B ps ds).2.1.natAbs ≤ ds.length * S ^ ds.length ∧ (lin B ps ds).2.2.natAbs ≤ S ^ ds.length := by
  have key : ∀ (ds : List Nat) (k : Nat) (s : Int × Int × Int), (∀ d ∈ ds, d < B) → s.1.natAbs ≤ S ^ k → s.2.1.natAbs ≤ k * S ^ k → s.2.2.natAbs ≤ S ^ k →
      (ds.foldl (stepL B ps) s).1.natAbs ≤ S ^ (k + ds.length) ∧ (ds.foldl (stepL B ps) s).2.1.natAbs ≤ (k + ds.length) * S ^ (k + ds.length) ∧ (ds.foldl (stepL B ps) s).2.2.natAbs ≤ S ^ (k + ds.length) := by
    intro ds
    induction ds with
    | nil => intro k s _ h1 h2 h3; exact ⟨h1, h2, h3⟩
    | cons d ds ih =>
      intro k s hd h1 h2 h3
      obtain ⟨a, b, c⟩ := stepL_bd R p (hd d List.mem_cons_self) h1 h2 h3
      have := ih (k + 1) _ (fun e he => hd e (List.mem_cons_of_mem _ he)) a b c
      rw [List.length_cons, show k + (ds.length + 1) = k + 1 + ds.length by omega]
      exact this
  have := key ds 0 (1, 0, 1) h (by simp) (by simp) (by simp)
  rw [Nat.zero_add] at this
  exact this
end NM
/-! What the program's number functions hand back: specifications over data. -/
namespace NP
open PySem L2 PL NM
def Big : Nat := 10 ^ 300
theorem big_log {n : Nat} (h : n < Big) : n.log2 < 1000 := by
  refine PySem.Flt.log2_lt_of (by decide) (Nat.lt_trans h ?_)
  unfold Big
  decide +kernel
theorem mulOk {i j : Int} (h1 : i.natAbs < Big) (h2 : j.natAbs < Big) : MulOk i j := by
  have a := big_log h1
  have b := big_log h2
  exact .inr (by unfold CMulW; omega)
theorem mulOkL {i j : Int} (h1 : -(2 ^ 64) < i) (h2 : i < 2 ^ 64) : MulOk i j := .inl (.inl ⟨h1, h2⟩)
theorem mulOkR {i j : Int} (h1 : -(2 ^ 64) < j) (h2 : j < 2 ^ 64) : MulOk i j := .inl (.inr ⟨h1, h2⟩)
theorem divOk {i j : Int} (h0 : 0 < j) (h : j.natAbs < Big) : CDivW i j := ⟨h0, by have := big_log h; omega⟩
def encF (x : Fr) : D := .tuple [.int x.1, .int x.2]
def encR (B : Nat) (ps : List (Int × Int)) : D := .tuple [.int B, .tuple (ps.map encF)]
def dInts (l : List Nat) : List D := l.map fun d : Nat => PyData.int d

/-- texts of numbers -/
theorem str_len {n : Int} (h0 : 0 ≤ n) (h : n.natAbs < Big) : (Str.ofString (toString n)).length ≤ 300 :=
  PyProof.Rows.toString_length_le h0 (by decide) (by unfold Big at h; omega)
theorem absI_nat (n : Int) : absI n = (n.natAbs : Int) := by
  unfold absI
  split <;> omega
theorem str_fits {n : Int} (h : n.natAbs < Big) : (absI n).natAbs.log2 < 1920 ∧ (Str.ofString (toString (absI n))).length ≤ 300 := by
  rw [absI_nat]
  have := big_log h
  exact ⟨by rw [Int.natAbs_natCast]; omega, str_len (by omega) (by rw [Int.natAbs_natCast]; exact h)⟩
theorem line_le {n : Nat} (h : n ≤ 300) : n ≤ sizeLine := by rw [sizeLine_eq]; omega

/-! ### comprehensions that map and filter -/
theorem wlc_fm {wi : WI} {wg : WG} {wt : WT} {we : WE} {vs : List Nat} {ρ : PL.Env} {P : Ow → Prop} (ds : List D) (p : D → Bool) (f : D → D) (hi : ∀ Q : List D → Prop, Q ds → wi ρ Q) (hl : ds.length ≤ 10000000)
    (h : ∀ d ∈ ds, ∀ Q : Bool → D → Prop, Q (p d) (f d) → wg d (wipeE ρ vs) fun ρ2 => wt ρ2 fun b => match b with
      | true => we ρ2 fun e => Q true e
      | false => Q false (f d)) (hP : P (.lst ((ds.filter p).map f))) : wLc wi wg wt we vs ρ P := by
  refine hi _ ⟨hl, fun i acc => acc = ((ds.take i).filter p).map f, rfl, fun i acc d hd ha => ?_, fun acc ha => ?_⟩
  · have ht : ds.take (i + 1) = ds.take i ++ [d] := by
      have hlt : i < ds.length := (List.getElem?_eq_some_iff.mp hd).1
      rw [List.take_add_one, hd]
      rfl
    have key := h d (List.mem_of_getElem? hd) (fun b e => (if b = true then acc ++ [e] else acc) = ((ds.take (i + 1)).filter p).map f) (by
      rw [ht, List.filter_append, List.map_append, ha]
      cases hp : p d with
      | true => simp [hp]
      | false => simp [hp])
    exact key
  · subst ha
    rw [List.take_length]
    exact hP
theorem wlc_map {wi : WI} {wg : WG} {we : WE} {vs : List Nat} {ρ : PL.Env} {P : Ow → Prop} (ds : List D) (f : D → D) (hi : ∀ Q : List D → Prop, Q ds → wi ρ Q) (hl : ds.length ≤ 10000000)
    (h : ∀ d ∈ ds, ∀ Q : D → Prop, Q (f d) → wg d (wipeE ρ vs) fun ρ2 => we ρ2 Q) (hP : P (.lst (ds.map f))) : wLc wi wg wYes we vs ρ P := by
  refine hi _ ⟨hl, fun i acc => acc = (ds.take i).map f, rfl, fun i acc d hd ha => ?_, fun acc ha => ?_⟩
  · have ht : ds.take (i + 1) = ds.take i ++ [d] := by
      rw [List.take_add_one, hd]
      rfl
    exact h d (List.mem_of_getElem? hd) (fun e => acc ++ [e] = (ds.take (i + 1)).map f) (by rw [ht, List.map_append, ha]; rfl)
  · subst ha
    rw [List.take_length]
    exact hP

/-! ### specifications -/
def wf_not_long : List D → (D → Prop) → Prop := fun ds R => ∃ n : Int, ds = [.int n] ∧ n.natAbs < Big ∧ R (.int n)
def wf_number_told : List D → (D → Prop) → Prop := fun ds R => ∃ t b : Int, ds = [.int t, .int b] ∧ 0 < b ∧ t.natAbs < Big ∧ b.natAbs < Big ∧ R (encF (red t b))
def wf_shares : List D → (D → Prop) → Prop := fun ds R => ∃ a b : Int, ds = [.int a, .int b] ∧ R (.bool (decide ((1 : Int) < (Int.gcd a b : Int))))
def wf_is_of : List D → (D → Prop) → Prop := fun ds R => ∃ (B : Int) (x : Fr), ds = [.int B, encF x] ∧ R (.bool (!decide ((1 : Int) < (Int.gcd x.2 B : Int))))
def wf_number_let : List D → (D → Prop) → Prop := fun ds R => ∃ (B : Int) (x : Fr), ds = [.int B, encF x] ∧ Int.gcd x.2 B = 1 ∧ R (encF x)
def wf_power_made : List D → (D → Prop) → Prop := fun ds R => ∃ (B n : Nat), ds = [.int B, .int n] ∧ 1 ≤ B ∧ B ^ n < Big ∧ R (.int ((B ^ n : Nat) : Int))
def wf_undone_told : List D → (D → Prop) → Prop := fun ds R => ∃ (n : Int) (m : Nat), ds = [.int n, .int m] ∧ 1 ≤ m ∧ m < Big ∧ Int.gcd n m = 1 ∧ ∀ u : Int, 0 ≤ u → u < m → (m : Int) ∣ n * u - 1 → R (.int u)
def wf_rest_by : List D → (D → Prop) → Prop := fun ds R => ∃ (x : Fr) (m : Nat), ds = [encF x, .int m] ∧ 1 ≤ m ∧ m < Big ∧ x.1.natAbs < Big ∧ Int.gcd x.2 m = 1 ∧ R (.int (digN m x))
def wf_rest_told : List D → (D → Prop) → Prop := fun ds R => ∃ (B : Nat) (x : Fr) (n : Nat), ds = [.int B, encF x, .int n] ∧ 1 ≤ B ∧ B ^ n < Big ∧ x.1.natAbs < Big ∧ Int.gcd x.2 B = 1 ∧ R (.int (digN (B ^ n) x))
def wf_last_digit : List D → (D → Prop) → Prop := fun ds R => ∃ (B : Nat) (x : Fr), ds = [.int B, encF x] ∧ 1 ≤ B ∧ B < Big ∧ x.1.natAbs < Big ∧ Int.gcd x.2 B = 1 ∧ R (.int (digN B x))
def wf_rule_told : List D → (D → Prop) → Prop := fun ds R => ∃ (B : Nat) (ps : List (Int × Int)), (ds = [.int B, .tuple (ps.map encF)] ∨ ds = [.int B, .list (ps.map encF)]) ∧ ps.length ≤ 1000 ∧ (∀ p ∈ ps, p.1.natAbs < Big ∧ p.2.natAbs < Big) ∧ R (encR B ps)
/-- a rule and a number, sizes told -/
structure Sized (B : Nat) (ps : List (Int × Int)) (x : Fr) (S M n : Nat) : Prop where
  R : GoodR B ps
  X : GoodX B x
  p : PB S B ps
  m : Bd M x
  big : S ^ n * M < Big
def wf_next_of : List D → (D → Prop) → Prop := fun ds R => ∃ B ps x S M, ds = [encR B ps, encF x] ∧ Sized B ps x S M 1 ∧ R (encF (nxt B ps x))
def wf_digits_of : List D → (D → Prop) → Prop := fun ds R => ∃ B ps x S M n, ds = [encR B ps, encF x, .int ((n : Nat) : Int)] ∧ n ≤ 100000 ∧ Sized B ps x S M n ∧ R (.tuple [.tuple (dInts (digs B ps n x)), encF (it B ps n x)])
def wf_steps_of : List D → (D → Prop) → Prop := fun ds R => ∃ B ps x S M n, ds = [encR B ps, encF x, .int ((n : Nat) : Int)] ∧ n ≤ 100000 ∧ Sized B ps x S M n ∧ R (encF (it B ps n x))
def wf_line_of : List D → (D → Prop) → Prop := fun ds R => ∃ (B : Nat) (ps : List (Int × Int)) (l : List Nat) (S : Nat), ds = [encR B ps, .tuple (dInts l)] ∧ GoodR B ps ∧ PB S B ps ∧ (∀ d ∈ l, d < B) ∧ (l.length + 1) * S ^ l.length < Big ∧ R (encF ((lin B ps l).1, (lin B ps l).2.1))
def plainPs (B : Nat) : List (Int × Int) := (List.range B).map fun i : Nat => (1, -(i : Int))
def wf_plain_told : List D → (D → Prop) → Prop := fun ds R => ∃ B : Nat, ds = [.int B] ∧ B ≤ 1000 ∧ R (encR B (plainPs B))
def takenPs (B : Nat) (ps : List (Int × Int)) (n : Nat) : List (Int × Int) := (List.range (B ^ n)).map fun r : Nat => ((lin B ps (digs B ps n ((r : Int), 1))).1, (lin B ps (digs B ps n ((r : Int), 1))).2.1)
def wf_taken_told : List D → (D → Prop) → Prop := fun ds R => ∃ B ps S n, ds = [encR B ps, .int ((n : Nat) : Int)] ∧ n ≤ 64 ∧ GoodR B ps ∧ PB S B ps ∧ B ^ n ≤ 64 ∧ (n + 64) * S ^ n < Big ∧ R (encR (B ^ n) (takenPs B ps n))
def belowD (A s r q : Int) : D := if q ≤ A then .none else .int (max 0 ((s - r) / (q - A) + 1))
/-- a class: sizes told -/
structure SizedC (B : Nat) (ps : List (Int × Int)) (t : Int) (S M n : Nat) : Prop where
  s : Sized B ps (t, 1) S M n
  few : n ≤ 1000
  line : (n + 1) * S ^ n < Big
def wf_class_line : List D → (D → Prop) → Prop := fun ds R => ∃ B ps t S M n, ds = [encR B ps, .int ((n : Nat) : Int), .int t] ∧ SizedC B ps t S M n ∧ R (.tuple [.int (pA ps (digs B ps n (t, 1))), .int (it B ps n (t, 1)).1])
def wf_below_from : List D → (D → Prop) → Prop := fun ds R => ∃ B ps t S M n, ds = [encR B ps, .int ((n : Nat) : Int), .int t] ∧ SizedC B ps t S M n ∧ R (belowD (pA ps (digs B ps n (t, 1))) (it B ps n (t, 1)).1 t ((B : Int) ^ n))
def wf_class_told : List D → (D → Prop) → Prop := fun ds R => ∃ B ps t S M n, ds = [encR B ps, .int ((n : Nat) : Int), .int t] ∧ SizedC B ps t S M n ∧
  R (.tuple [.tuple [.int (pA ps (digs B ps n (t, 1))), .int (it B ps n (t, 1)).1], belowD (pA ps (digs B ps n (t, 1))) (it B ps n (t, 1)).1 t ((B : Int) ^ n)])
theorem dInts_len (l : List Nat) : (dInts l).length = l.length := by simp [dInts]
theorem dInts_snoc (l : List Nat) (d : Nat) : dInts (l ++ [d]) = dInts l ++ [PyData.int d] := by simp [dInts]
theorem dInts_at {l : List Nat} {i : Nat} {d : D} (h : (dInts l)[i]? = some d) : ∃ n : Nat, l[i]? = some n ∧ d = .int n := by
  unfold dInts at h
  rw [List.getElem?_map] at h
  cases e : l[i]? with
  | none => rw [e] at h; cases h
  | some n => rw [e] at h; exact ⟨n, rfl, (Option.some.inj h).symm⟩
theorem ps_at {B : Nat} {ps : List (Int × Int)} (R : GoodR B ps) {r : Nat} (h : r < B) : ixD (ps.map encF) (r : Int) = some (encF (prA ps r)) := by
  show (ps.map encF)[r]? = _
  rw [List.getElem?_map, prA_get R h]
  rfl
theorem Sized.dig {B : Nat} {ps : List (Int × Int)} {x : Fr} {S M n : Nat} (s : Sized B ps x S M n) : M < Big := by
  have h := s.big
  have : 1 ≤ S ^ n := Nat.one_le_pow _ _ (by have := s.p.b; have := s.R.b2; omega)
  have := Nat.le_mul_of_pos_left M this
  omega
theorem Sized.S1 {B : Nat} {ps : List (Int × Int)} {x : Fr} {S M n : Nat} (s : Sized B ps x S M n) : 2 ≤ S := by
  have := s.p.b
  have := s.R.b2
  omega
theorem Sized.at {B : Nat} {ps : List (Int × Int)} {x : Fr} {S M n : Nat} (s : Sized B ps x S M n) {i : Nat} (h : i < n) : Sized B ps (it B ps i x) S (S ^ i * M) 1 where
  R := s.R
  X := it_good s.R i s.X
  p := s.p
  m := it_bd s.R s.X s.p s.m i
  big := by
    have := s.big
    have h2 : S ^ (i + 1) ≤ S ^ n := Nat.pow_le_pow_right (by have := s.S1; omega) h
    have h3 := Nat.mul_le_mul_right M h2
    rw [Nat.pow_one, ← Nat.mul_assoc, Nat.mul_comm S, ← Nat.pow_succ]
    exact Nat.lt_of_le_of_lt h3 this
theorem divOk2 {i j : Int} (h0 : 0 < j) (h : j.natAbs < 2 * Big) : CDivW i j := ⟨h0, by
  have : j.natAbs.log2 < 1000 := by
    refine PySem.Flt.log2_lt_of (by decide) (Nat.lt_trans h ?_)
    unfold Big
    decide +kernel
  omega⟩
theorem bits_le {B n : Nat} (hB : 1 ≤ B) (h : B ^ n ≤ 64) : (n : Int) * ((PySem.Builtin.Int.intBits (B : Int) : Nat) - 1) ≤ 6 := by
  have e : PySem.Builtin.Int.intBits (B : Int) = B.log2 + 1 := by
    unfold PySem.Builtin.Int.intBits
    rw [if_neg (by simp; omega), Int.natAbs_natCast]
  rw [e]
  have h1 : 2 ^ B.log2 ≤ B := Nat.log2_self_le (by omega)
  have h2 : (2 ^ B.log2) ^ n ≤ B ^ n := Nat.pow_le_pow_left h1 n
  rw [← Nat.pow_mul] at h2
  have h3 : B.log2 * n ≤ 6 := (Nat.pow_le_pow_iff_right (by decide : 1 < 2)).mp (Nat.le_trans h2 h)
  have : (n : Int) * (((B.log2 + 1 : Nat) : Int) - 1) = ((B.log2 * n : Nat) : Int) := by
    push_cast
    rw [show ((B.log2 : Int) + 1 - 1) = B.log2 by omega, Int.mul_comm]
  omega
end NP
/-! The laws' own helpers: specifications. -/
namespace NP
open PySem L2 PL NM
theorem ints_at {ns : List Int} {i : Nat} {d : D} (h : (ns.map PyData.int)[i]? = some d) : ∃ z : Int, d = .int z := by
  rw [List.getElem?_map] at h
  cases e : ns[i]? with
  | none => rw [e] at h; cases h
  | some n => rw [e] at h; exact ⟨n, (Option.some.inj h).symm⟩
def wf_law_of : List D → (D → Prop) → Prop := fun ds R => ∃ l : List D, (ds = [.list l] ∨ ds = [.tuple l]) ∧ 0 < l.length ∧ l.length ≤ 1000000 ∧ ∀ e ∈ l, R e
def wf_law_gcd : List D → (D → Prop) → Prop := fun ds R => ∃ a b : Int, ds = [.int a, .int b] ∧ 0 ≤ b ∧ R (.int (Int.gcd a b))
def wf_law_number : List D → (D → Prop) → Prop := fun ds R => ∃ t b : Int, ds = [.int t, .int b] ∧ 0 < b ∧ b.natAbs < Big ∧ R (encF (red t b))
def wf_law_digit : List D → (D → Prop) → Prop := fun ds R => ∃ (B : Nat) (x : Fr), ds = [.int B, encF x] ∧ 1 ≤ B ∧ B ≤ 1000 ∧ Int.gcd x.2 B = 1 ∧ R (.int (digN B x))
def wf_law_next : List D → (D → Prop) → Prop := fun ds R => ∃ (B : Nat) (ps : List (Int × Int)) (x : Fr) (S M : Nat), ds = [.int B, .tuple (ps.map encF), encF x] ∧ B ≤ 1000 ∧ Sized B ps x S M 1 ∧ R (encF (nxt B ps x))
def wf_law_steps : List D → (D → Prop) → Prop := fun ds R => ∃ (B : Nat) (ps : List (Int × Int)) (x : Fr) (S M n : Nat), ds = [.int B, .tuple (ps.map encF), encF x, .int ((n : Nat) : Int)] ∧ B ≤ 1000 ∧ n ≤ 100000 ∧ Sized B ps x S M n ∧ R (.tuple [.tuple (dInts (digs B ps n x)), encF (it B ps n x)])
def wf_law_pairs : List D → (D → Prop) → Prop := fun ds R => ∃ B m : Nat, ds = [.int B, .int m] ∧ 2 ≤ B ∧ B ≤ 64 ∧ 1 ≤ m ∧ m ≤ 1000 ∧ ∀ ps : List (Int × Int), GoodR B ps → (∀ p ∈ ps, p.1.natAbs ≤ m ∧ p.2.natAbs ≤ 2 * B + m * B) → R (.tuple (ps.map encF))
def wf_law_drawn : List D → (D → Prop) → Prop := fun ds R => ∃ B m : Nat, ds = [.int B, .int m] ∧ 2 ≤ B ∧ B ≤ 64 ∧ 1 ≤ m ∧ m ≤ 1000 ∧ ∀ x : Fr, GoodX B x → x.1.natAbs ≤ 20 * m → x.2.natAbs ≤ m → R (encF x)
def wf_law_told_right : List D → (D → Prop) → Prop := fun ds R => R (.bool true)

/-! ### shapes and likeness -/
mutual
theorem eqv_refl : ∀ d : D, d.canLay0 = true → PyData.eqv d d = true
  | .none, _ => rfl
  | .bool b, _ => by simp [PyData.eqv]
  | .int i, _ => by simp [PyData.eqv]
  | .str x, _ => by simp [PyData.eqv]
  | .list xs, h => by
    rw [PyData.eqv]
    exact eqvAll_refl xs (by simpa [PyData.canLay0] using h)
  | .tuple xs, h => by
    rw [PyData.eqv]
    exact eqvAll_refl xs (by simpa [PyData.canLay0] using h)
  | .dict _, h => by simp [PyData.canLay0] at h
theorem eqvAll_refl : ∀ xs : List D, PyData.canLayAll0 xs = true → PyData.eqvAll xs xs = true
  | [], _ => rfl
  | x :: xs, h => by
    rw [PyData.canLayAll0, Bool.and_eq_true] at h
    rw [PyData.eqvAll, eqv_refl x h.1, eqvAll_refl xs h.2]
    rfl
end
/-- plain data to the depth n -/
structure ShN (n : Nat) (d : D) : Prop where
  c : d.canLay0 = true
  d : d.depth ≤ n
theorem ShN.shp {n : Nat} {d : D} (h : ShN n d) (hn : n ≤ 64 := by decide) : Shp d := by
  show (d.canLay0 && decide (d.depth ≤ 64)) = true
  rw [h.c, decide_eq_true (Nat.le_trans h.d hn)]
  rfl
theorem shN_int {i : Int} : ShN 0 (.int i) := ⟨rfl, Nat.le_refl 0⟩
theorem shN_bool {b : Bool} : ShN 0 (.bool b) := ⟨rfl, Nat.le_refl 0⟩
theorem shN_none : ShN 0 .none := ⟨rfl, Nat.le_refl 0⟩
theorem ShN.mono {m n : Nat} {d : D} (h : ShN m d) (hn : m ≤ n := by decide) : ShN n d := ⟨h.c, Nat.le_trans h.d hn⟩
theorem shAll {n : Nat} : ∀ {xs : List D}, (∀ x ∈ xs, ShN n x) → PyData.canLayAll0 xs = true ∧ PyData.depthAll xs ≤ n
  | [], _ => ⟨rfl, Nat.zero_le _⟩
  | x :: xs, h => by
    obtain ⟨a, b⟩ := shAll (xs := xs) fun y hy => h y (List.mem_cons_of_mem _ hy)
    have hx := h x List.mem_cons_self
    refine ⟨by rw [PyData.canLayAll0, hx.c, a]; rfl, ?_⟩
    rw [PyData.depthAll]
    exact Nat.max_le.mpr ⟨hx.d, b⟩
theorem shN_tup {n : Nat} {xs : List D} (h : ∀ x ∈ xs, ShN n x) : ShN (n + 1) (.tuple xs) := by
  obtain ⟨a, b⟩ := shAll h
  exact ⟨by rw [PyData.canLay0]; exact a, by rw [PyData.depth]; omega⟩
theorem shN_lst {n : Nat} {xs : List D} (h : ∀ x ∈ xs, ShN n x) : ShN (n + 1) (.list xs) := by
  obtain ⟨a, b⟩ := shAll h
  exact ⟨by rw [PyData.canLay0]; exact a, by rw [PyData.depth]; omega⟩
theorem shN_dInts (l : List Nat) : ShN 1 (.tuple (dInts l)) := shN_tup fun x hx => by
  obtain ⟨n, _, rfl⟩ := List.mem_map.mp hx
  exact shN_int
theorem shN_encF (x : Fr) : ShN 1 (encF x) := shN_tup fun d hd => by
  simp only [List.mem_cons, List.not_mem_nil, or_false] at hd
  rcases hd with rfl | rfl <;> exact shN_int
theorem shN_two {n : Nat} {a b : D} (ha : ShN n a) (hb : ShN n b) : ShN (n + 1) (.tuple [a, b]) := shN_tup fun d hd => by
  simp only [List.mem_cons, List.not_mem_nil, or_false] at hd
  rcases hd with rfl | rfl
  · exact ha
  · exact hb
/-! ### the laws' helpers -/
theorem gcd_rem {a b : Int} : Int.gcd b (a % b) = Int.gcd a b := by
  have e := Int.mul_ediv_add_emod a b
  have p1 : ((Int.gcd b (a % b) : Nat) : Int) ∣ a := by
    have h := Int.dvd_add (Int.dvd_mul_of_dvd_left (Int.gcd_dvd_left b (a % b)) (c := a / b)) (Int.gcd_dvd_right b (a % b))
    rwa [e] at h
  have p2 : ((Int.gcd a b : Nat) : Int) ∣ a % b := by
    have h := Int.dvd_sub (Int.gcd_dvd_left a b) (Int.dvd_mul_of_dvd_left (Int.gcd_dvd_right a b) (c := a / b))
    rwa [show a - b * (a / b) = a % b by omega] at h
  refine Nat.dvd_antisymm ?_ ?_
  · exact Int.natCast_dvd_natCast.mp (Int.dvd_coe_gcd p1 (Int.gcd_dvd_left b (a % b)))
  · exact Int.natCast_dvd_natCast.mp (Int.dvd_coe_gcd (Int.gcd_dvd_right a b) p2)
def digD (B : Nat) (x : Fr) : D → Bool := fun d => match d with
  | .int i => PyData.eqv (.int ((x.1 - i * x.2) % (B : Int))) (.int 0)
  | _ => false
theorem dig_first {B : Nat} {x : Fr} (hB : 0 < B) (hc : Int.gcd x.2 B = 1) : ixD (((rng 0 B).filter (digD B x)).map id) 0 = some (.int (digN B x)) := by
  have h := (dig_find hB hc).1
  show (((rng 0 B).filter (digD B x)).map id)[0]? = _
  rw [List.map_id]
  unfold rng
  rw [List.filter_map, List.getElem?_map]
  have e : (digD B x ∘ fun i : Nat => PyData.int (0 + (i : Int))) = digP B x := by
    funext i
    show ((x.1 - (0 + (i : Int)) * x.2) % (B : Int) == 0) = _
    rw [Int.zero_add]
    rfl
  rw [e, show ((B : Int) - 0).toNat = B by omega]
  have : (List.filter (digP B x) (List.range B))[0]? = some (digN B x) := by
    rw [← List.head?_eq_getElem?, List.head?_filter]
    exact h
  rw [this]
  simp
/-- who shares nothing with the base, of 1 to m -/
def copD (B : Nat) : D → Bool := fun d => match d with
  | .int i => PyData.eqv (.int ((Int.gcd i B : Nat) : Int)) (.int 1)
  | _ => false
def copL (B m : Nat) : List D := ((rng 1 ((m : Int) + 1)).filter (copD B)).map id
theorem copL_mem {B m : Nat} {e : D} (h : e ∈ copL B m) : ∃ a : Int, e = .int a ∧ 1 ≤ a ∧ a ≤ m ∧ Int.gcd a B = 1 := by
  unfold copL at h
  rw [List.map_id, List.mem_filter] at h
  obtain ⟨h1, h2⟩ := h
  obtain ⟨i, hi, rfl⟩ := List.mem_map.mp h1
  rw [List.mem_range] at hi
  refine ⟨1 + i, rfl, by omega, by omega, ?_⟩
  have : ((Int.gcd (1 + (i : Int)) B : Nat) : Int) = 1 := by simpa [copD, PyData.eqv] using h2
  omega
theorem copL_len {B m : Nat} : (copL B m).length ≤ m := by
  unfold copL
  rw [List.map_id]
  refine Nat.le_trans (List.length_filter_le _ _) ?_
  rw [rng_len]
  omega
theorem copL_pos {B m : Nat} (hm : 1 ≤ m) : 0 < (copL B m).length := by
  refine List.length_pos_of_mem (a := .int 1) ?_
  unfold copL
  rw [List.map_id, List.mem_filter]
  refine ⟨?_, ?_⟩
  · unfold rng
    exact List.mem_map.mpr ⟨0, List.mem_range.mpr (by omega), rfl⟩
  · have : Int.gcd 1 B = 1 := cop_of (x := 1) (y := 0) (by simp)
    show PyData.eqv (.int ((Int.gcd 1 B : Nat) : Int)) (.int 1) = true
    rw [this]
    rfl
/-- pairs made so far -/
structure Pairs (B m : Nat) (ps : List (Int × Int)) : Prop where
  a1 : ∀ p ∈ ps, 1 ≤ p.1
  cop : ∀ p ∈ ps, Int.gcd p.1 B = 1
  div : ∀ (r : Nat) p, ps[r]? = some p → (B : Int) ∣ p.1 * r + p.2
  sz : ∀ p ∈ ps, p.1.natAbs ≤ m ∧ p.2.natAbs ≤ 2 * B + m * B
  sz2 : ∀ p ∈ ps, p.2.natAbs ≤ 2 * B + m * (B - 1)
theorem Pairs.nil {B m : Nat} : Pairs B m [] := ⟨fun _ h => absurd h (by simp), fun _ h => absurd h (by simp), fun _ _ h => absurd h (by simp), fun _ h => absurd h (by simp), fun _ h => absurd h (by simp)⟩
theorem Pairs.snoc {B m i : Nat} {ps : List (Int × Int)} (h : Pairs B m ps) (hl : ps.length = i) (hi : i < B) {a k : Int} (a1 : 1 ≤ a) (am : a ≤ m) (hc : Int.gcd a B = 1) (k0 : 0 ≤ k) (k5 : k < 5) : Pairs B m (ps ++ [(a, (B : Int) * (k - 2) - a * i)]) := by
  have mem : ∀ {Q : Int × Int → Prop}, (∀ p ∈ ps, Q p) → Q (a, (B : Int) * (k - 2) - a * i) → ∀ p ∈ ps ++ [(a, (B : Int) * (k - 2) - a * i)], Q p := fun h1 h2 p hp => by
    rcases List.mem_append.mp hp with hp | hp
    · exact h1 p hp
    · rw [List.mem_singleton.mp hp]; exact h2
  refine ⟨mem h.a1 a1, mem h.cop hc, fun r p hr => ?_, mem h.sz ⟨by omega, ?_⟩, mem h.sz2 ?_⟩
  · by_cases hlt : r < ps.length
    · rw [List.getElem?_append_left hlt] at hr
      exact h.div r p hr
    · rw [List.getElem?_append_right (by omega)] at hr
      have h0 : r - ps.length = 0 := by
        have := (List.getElem?_eq_some_iff.mp hr).1
        simp at this
        omega
      rw [h0] at hr
      cases hr
      have : r = i := by omega
      subst this
      exact ⟨k - 2, by simp only []; grind⟩
  · have e1 : ((B : Int) * (k - 2) - a * i).natAbs ≤ ((B : Int) * (k - 2)).natAbs + (a * i).natAbs := Int.natAbs_sub_le _ _
    rw [Int.natAbs_mul, Int.natAbs_mul] at e1
    have e2 : (B : Int).natAbs * (k - 2).natAbs ≤ B * 2 := Nat.mul_le_mul (by omega) (by omega)
    have e3 : a.natAbs * (i : Int).natAbs ≤ m * B := Nat.mul_le_mul (by omega) (by omega)
    show ((B : Int) * (k - 2) - a * i).natAbs ≤ _
    omega
  · have e1 : ((B : Int) * (k - 2) - a * i).natAbs ≤ ((B : Int) * (k - 2)).natAbs + (a * i).natAbs := Int.natAbs_sub_le _ _
    rw [Int.natAbs_mul, Int.natAbs_mul] at e1
    have e2 : (B : Int).natAbs * (k - 2).natAbs ≤ B * 2 := Nat.mul_le_mul (by omega) (by omega)
    have e3 : a.natAbs * (i : Int).natAbs ≤ m * (B - 1) := Nat.mul_le_mul (by omega) (by omega)
    show ((B : Int) * (k - 2) - a * i).natAbs ≤ _
    omega
theorem Pairs.good {B m : Nat} {ps : List (Int × Int)} (h : Pairs B m ps) (hB : 2 ≤ B) (hl : ps.length = B) : GoodR B ps := ⟨hB, hl, h.a1, h.cop, h.div⟩
theorem small_big {n : Nat} (h : n ≤ 10 ^ 18) : n < Big := Nat.lt_of_le_of_lt h (by unfold Big; decide +kernel)
/-! ### told rules -/
theorem plain_good {B : Nat} (h : 2 ≤ B) : GoodR B (plainPs B) where
  b2 := h
  len := by simp [plainPs]
  a1 := fun p hp => by
    obtain ⟨i, _, rfl⟩ := List.mem_map.mp hp
    exact Int.le_refl 1
  cop := fun p hp => by
    obtain ⟨i, _, rfl⟩ := List.mem_map.mp hp
    exact cop_of (x := 1) (y := 0) (by simp)
  div := fun r p hr => by
    unfold plainPs at hr
    rw [List.getElem?_map] at hr
    cases e : (List.range B)[r]? with
    | none => rw [e] at hr; cases hr
    | some i =>
      rw [e] at hr
      cases hr
      have := List.getElem?_eq_some_iff.mp e
      obtain ⟨h1, h2⟩ := this
      simp at h2
      subst h2
      exact ⟨0, by simp only []; omega⟩
theorem plain_pb {B : Nat} : PB (B + 1) B (plainPs B) := ⟨by omega, fun p hp => by
  obtain ⟨i, hi, rfl⟩ := List.mem_map.mp hp
  rw [List.mem_range] at hi
  show (1 : Int).natAbs + (-(i : Int)).natAbs ≤ B + 1
  omega⟩
def tPs : List (Int × Int) := [(1, 0), (3, 1)]
theorem tGood : GoodR 2 tPs where
  b2 := by decide
  len := rfl
  a1 := by decide
  cop := by decide
  div := fun r p hr => by
    match r with
    | 0 => cases hr; decide
    | 1 => cases hr; decide
    | n + 2 => cases hr
theorem tPB : PB 4 2 tPs := ⟨by decide, by decide⟩
theorem tSized (n : Nat) (t : Int) (hn : n ≤ 2) (ht : t.natAbs ≤ 2) : SizedC 2 tPs t 4 2 n := by
  have h4 : 4 ^ n ≤ 4 ^ 2 := Nat.pow_le_pow_right (by decide) hn
  refine ⟨⟨tGood, good_int (by decide) t, tPB, ⟨ht, by show (1 : Int).natAbs ≤ 2; decide⟩, small_big (by omega)⟩, by omega, small_big ?_⟩
  have : (n + 1) * 4 ^ n ≤ 3 * 4 ^ 2 := Nat.mul_le_mul (by omega) h4
  omega
theorem pSized : SizedC 10 (plainPs 10) 7 11 10 1 := ⟨⟨plain_good (by decide), good_int (by decide) 7, plain_pb, ⟨by decide, by decide⟩, small_big (by decide)⟩, by decide, small_big (by decide)⟩
theorem m_f {c : Bool} {A B : Prop} : c = false → B → (match c with | true => A | false => B) := fun h hb => by subst h; exact hb
theorem m_t {c : Bool} {A B : Prop} : c = true → A → (match c with | true => A | false => B) := fun h hb => by subst h; exact hb
def classD (B : Nat) (ps : List (Int × Int)) (n : Nat) (t : Int) : D := .tuple [.tuple [.int (pA ps (digs B ps n (t, 1))), .int (it B ps n (t, 1)).1], belowD (pA ps (digs B ps n (t, 1))) (it B ps n (t, 1)).1 t ((B : Int) ^ n)]
def toldF : D → D := fun d => match d with
  | .tuple [.int n, .int t] => classD 2 tPs n.toNat t
  | _ => .none
/-- one statement at a time -/
theorem w_step {a b : WS} {ρ : PL.Env} {O : Out} (h : ∀ N : PL.Env → Prop, (∀ ρ', N ρ' = b ρ' O) → a ρ { O with nx := N }) : wSeq a b ρ O := h _ fun _ => rfl
end NP
/-! Classes and taken rules: plain laws. -/
namespace NP
open PySem L2 PL NM
theorem big_31 {n : Nat} (h : n ≤ 10 ^ 40) : n < Big := Nat.lt_of_le_of_lt h (by unfold Big; decide +kernel)
theorem pow100 {n : Nat} (hn : n ≤ 8) : 100 ^ n ≤ 10 ^ 16 := Nat.le_trans (Nat.pow_le_pow_right (by decide) hn) (by decide)
theorem sized_of {B n : Nat} {ps : List (Int × Int)} {x : Fr} (G : GoodR B ps) (p : PB 100 B ps) (hn : n ≤ 8) (X : GoodX B x) (h1 : x.1.natAbs ≤ 10 ^ 15) (h2 : x.2.natAbs ≤ 10 ^ 15) : Sized B ps x 100 (10 ^ 15) n :=
  ⟨G, X, p, ⟨h1, h2⟩, big_31 (Nat.le_trans (Nat.mul_le_mul_right _ (pow100 hn)) (by decide))⟩
theorem sizedC_of {B n : Nat} {ps : List (Int × Int)} {t : Int} (G : GoodR B ps) (p : PB 100 B ps) (hn : n ≤ 8) (h1 : t.natAbs ≤ 10 ^ 15) : SizedC B ps t 100 (10 ^ 15) n :=
  ⟨sized_of G p hn (good_int (by have := G.b2; omega) t) h1 (by show (1 : Int).natAbs ≤ 10 ^ 15; decide), by omega, big_31 (Nat.le_trans (Nat.mul_le_mul (show n + 1 ≤ 9 by omega) (pow100 hn)) (by decide))⟩
theorem pA_pos {B : Nat} {ps : List (Int × Int)} (G : GoodR B ps) : ∀ ds : List Nat, (∀ d ∈ ds, d < B) → 1 ≤ pA ps ds
  | [], _ => Int.le_refl 1
  | d :: ds, h => by
    rw [pA_cons]
    have h1 := pA_pos G ds fun e he => h e (List.mem_cons_of_mem _ he)
    have h2 := G.a1 _ (prA_mem G (h d List.mem_cons_self))
    have := Int.mul_pos (show 0 < (prA ps d).1 by omega) (show 0 < pA ps ds by omega)
    omega
theorem pA_cop {B : Nat} {ps : List (Int × Int)} (G : GoodR B ps) : ∀ ds : List Nat, (∀ d ∈ ds, d < B) → Int.gcd (pA ps ds) B = 1
  | [], _ => cop_of (x := 1) (y := 0) (by show (1 : Int) * 1 + B * 0 = 1; simp)
  | d :: ds, h => by
    rw [pA_cons]
    exact cop_mul (G.cop _ (prA_mem G (h d List.mem_cons_self))) (pA_cop G ds fun e he => h e (List.mem_cons_of_mem _ he))
theorem line_eq {B : Nat} {ps : List (Int × Int)} (G : GoodR B ps) (n : Nat) (t : Int) : (lin B ps (digs B ps n (t, 1))).1 * t + (lin B ps (digs B ps n (t, 1))).2.1 = (it B ps n (t, 1)).1 * (B : Int) ^ n := by
  have h := lin_walk G (good_int (by have := G.b2; omega) t) n
  have h2 := (it_add G n t 0).2.1
  rw [h2] at h
  simp only [Int.one_mul, Int.mul_one] at h
  exact h.symm
theorem it_one {B : Nat} {ps : List (Int × Int)} (G : GoodR B ps) (n : Nat) (t : Int) : it B ps n (t, 1) = ((it B ps n (t, 1)).1, 1) := by
  have h2 := (it_add G n t 0).2.1
  exact Prod.ext rfl h2
section
variable {B n : Nat} {ps : List (Int × Int)}
theorem taken_at {r : Nat} (h : r < B ^ n) : (takenPs B ps n)[r]? = some ((lin B ps (digs B ps n ((r : Int), 1))).1, (lin B ps (digs B ps n ((r : Int), 1))).2.1) := by
  unfold takenPs
  rw [List.getElem?_map, List.getElem?_range h]
  rfl
theorem taken_good (G : GoodR B ps) (h : 2 ≤ B ^ n) : GoodR (B ^ n) (takenPs B ps n) where
  b2 := h
  len := by simp [takenPs]
  a1 := fun p hp => by
    obtain ⟨r, _, rfl⟩ := List.mem_map.mp hp
    show 1 ≤ (lin B ps _).1
    rw [lin_A]
    exact pA_pos G _ (digs_lt G (good_int (by have := G.b2; omega) _))
  cop := fun p hp => by
    obtain ⟨r, _, rfl⟩ := List.mem_map.mp hp
    show Int.gcd (lin B ps _).1 _ = 1
    rw [lin_A]
    have := cop_pow (pA_cop G _ (digs_lt G (good_int (by have := G.b2; omega) (r : Int)) (n := n))) n
    rw [show ((B ^ n : Nat) : Int) = (B : Int) ^ n by push_cast; rfl]
    exact this
  div := fun r p hr => by
    have hlt : r < B ^ n := by
      have := (List.getElem?_eq_some_iff.mp hr).1
      simpa [takenPs] using this
    rw [taken_at hlt] at hr
    cases hr
    refine ⟨(it B ps n ((r : Int), 1)).1, ?_⟩
    have := line_eq G n r
    rw [show ((B ^ n : Nat) : Int) = (B : Int) ^ n by push_cast; rfl]
    exact this.trans (Int.mul_comm _ _)
theorem taken_pb (G : GoodR B ps) (p : PB 100 B ps) (hn : n ≤ 8) (hw : B ^ n ≤ 10 ^ 16) : PB (10 ^ 18) (B ^ n) (takenPs B ps n) := ⟨by omega, fun q hq => by
  obtain ⟨r, _, rfl⟩ := List.mem_map.mp hq
  obtain ⟨c1, c2, _⟩ := lin_bd G p (digs B ps n ((r : Int), 1)) (digs_lt G (good_int (by have := G.b2; omega) _))
  rw [digs_len] at c1 c2
  have h1 := pow100 hn
  have h2 : n * 100 ^ n ≤ 8 * 10 ^ 16 := Nat.mul_le_mul hn h1
  show (lin B ps _).1.natAbs + (lin B ps _).2.1.natAbs ≤ _
  omega⟩
theorem taken_class (G : GoodR B ps) (h : 2 ≤ B ^ n) {r : Nat} (hr : r < B ^ n) : classD (B ^ n) (takenPs B ps n) 1 r = classD B ps n r := by
  have T := taken_good (n := n) G h
  have hd : digN (B ^ n) ((r : Int), 1) = r := dig_eq (good_int (by omega) _).cop hr ⟨0, by simp⟩
  have hp : prA (takenPs B ps n) r = ((lin B ps (digs B ps n ((r : Int), 1))).1, (lin B ps (digs B ps n ((r : Int), 1))).2.1) := by
    have := prA_get T hr
    rw [taken_at hr] at this
    exact (Option.some.inj this).symm
  have hds : digs (B ^ n) (takenPs B ps n) 1 ((r : Int), 1) = [r] := by
    show [digN (B ^ n) ((r : Int), 1)] = [r]
    rw [hd]
  have hA : pA (takenPs B ps n) [r] = pA ps (digs B ps n ((r : Int), 1)) := by
    show 1 * (prA (takenPs B ps n) r).1 = _
    rw [hp, Int.one_mul, ← lin_A B]
  have hi : (it (B ^ n) (takenPs B ps n) 1 ((r : Int), 1)).1 = (it B ps n ((r : Int), 1)).1 := by
    show (nxt (B ^ n) (takenPs B ps n) ((r : Int), 1)).1 = _
    rw [nxt_int T, hd, hp]
    show ((lin B ps (digs B ps n ((r : Int), 1))).1 * r + (lin B ps (digs B ps n ((r : Int), 1))).2.1) / ((B ^ n : Nat) : Int) = _
    rw [line_eq G, show ((B ^ n : Nat) : Int) = (B : Int) ^ n by push_cast; rfl]
    refine Int.mul_ediv_cancel _ ?_
    have : (0 : Int) < (B : Int) ^ n := Int.pow_pos (by have := G.b2; omega)
    omega
  unfold classD
  rw [hds, hA, hi, show ((B ^ n : Nat) : Int) ^ 1 = (B : Int) ^ n by rw [Int.pow_succ, Int.pow_zero, Int.one_mul]; push_cast; rfl]
end
/-- from begin on below, not ahead -/
theorem below_on {A s r q P : Int} (h : A < P) (hq : max 0 ((s - r) / (P - A) + 1) ≤ q) : ¬ (q * P + r ≤ A * q + s) := by
  have h1 := Int.lt_ediv_add_one_mul_self (s - r) (show 0 < P - A by omega)
  have h2 : ((s - r) / (P - A) + 1) * (P - A) ≤ q * (P - A) := Int.mul_le_mul_of_nonneg_right (by omega) (by omega)
  have : q * (P - A) = q * P - A * q := by grind
  omega
theorem below_not {A s r P : Int} (h : A < P) (hb : 0 < max 0 ((s - r) / (P - A) + 1)) : ¬ (A * (max 0 ((s - r) / (P - A) + 1) - 1) + s < (max 0 ((s - r) / (P - A) + 1) - 1) * P + r) := by
  have e : max 0 ((s - r) / (P - A) + 1) = (s - r) / (P - A) + 1 := by omega
  rw [e]
  have h1 := Int.ediv_mul_le (s - r) (show P - A ≠ 0 by omega)
  generalize (s - r) / (P - A) = k at *
  have : k * (P - A) = k * P - A * k := by grind
  simp only [Int.add_sub_cancel]
  omega
theorem shN_classD (B : Nat) (ps : List (Int × Int)) (n : Nat) (t : Int) : ShN 2 (classD B ps n t) := by
  refine shN_two (shN_two shN_int shN_int) ?_
  unfold belowD
  split
  · exact shN_none.mono
  · exact shN_int.mono
theorem ne_same {d : D} {A B : Prop} : d.canLay0 = true → B → (match !PyData.eqv d d with | true => A | false => B) := fun h hb => m_f (c := !PyData.eqv d d) (by rw [eqv_refl d h]; rfl) hb
theorem walk_far {B n : Nat} {ps : List (Int × Int)} (G : GoodR B ps) {r s0 A q t : Int} {ds : List Nat} (hds : ds = digs B ps n (r, 1)) (hg : it B ps n (r, 1) = (s0, 1)) (hA : A = pA ps ds) (ht : t = q * ((B ^ n : Nat) : Int) + r) :
    digs B ps n (t, 1) = ds ∧ it B ps n (t, 1) = (A * q + s0, 1) := by
  obtain ⟨h1, _, h3⟩ := it_add G n r q
  have e : t = r + q * (B : Int) ^ n := by rw [ht]; push_cast; omega
  rw [e, h1, h3, hg, ← hds, ← hA]
  exact ⟨rfl, by rw [Int.mul_comm A, Int.add_comm]⟩
end NP
/-! More of the program's number functions: specifications. -/
namespace NP
open PySem L2 PL NM
def plusF (x y : Fr) : Fr := red (x.1 * y.2 + y.1 * x.2) (x.2 * y.2)
def timesF (x y : Fr) : Fr := red (x.1 * y.1) (x.2 * y.2)
def nextF (B : Nat) (x : Fr) : Fr := red (x.1 - digN B x * x.2) (x.2 * B)
def backF (B : Nat) (ps : List (Int × Int)) (x : Fr) (r : Nat) : Fr := red (B * x.1 - (prA ps r).2 * x.2) ((prA ps r).1 * x.2)
structure Sm (x : Fr) : Prop where
  t : x.1.natAbs < Big
  b : x.2.natAbs < Big
  pos : 0 < x.2
def wf_number_plus : List D → (D → Prop) → Prop := fun ds R => ∃ x y : Fr, ds = [encF x, encF y] ∧ Sm x ∧ Sm y ∧ (x.1 * y.2 + y.1 * x.2).natAbs < Big ∧ (x.2 * y.2).natAbs < Big ∧ R (encF (plusF x y))
def wf_number_times : List D → (D → Prop) → Prop := fun ds R => ∃ x y : Fr, ds = [encF x, encF y] ∧ Sm x ∧ Sm y ∧ (x.1 * y.1).natAbs < Big ∧ (x.2 * y.2).natAbs < Big ∧ R (encF (timesF x y))
def wf_number_next : List D → (D → Prop) → Prop := fun ds R => ∃ (B : Nat) (x : Fr), ds = [.int B, encF x] ∧ 1 ≤ B ∧ B < 10 ^ 9 ∧ Sm x ∧ Int.gcd x.2 B = 1 ∧ (x.1 - digN B x * x.2).natAbs < Big ∧ (x.2 * B).natAbs < Big ∧ R (encF (nextF B x))
def wf_before_of : List D → (D → Prop) → Prop := fun ds R => ∃ (B : Nat) (ps : List (Int × Int)) (x : Fr) (r : Nat), ds = [encR B ps, encF x, .int r] ∧ GoodR B ps ∧ r < B ∧ B < 10 ^ 9 ∧ (prA ps r).2.natAbs < Big ∧ (prA ps r).1.natAbs < Big ∧ Sm x ∧ Int.gcd x.2 B = 1 ∧
  (B * x.1 - (prA ps r).2 * x.2).natAbs < Big ∧ ((prA ps r).1 * x.2).natAbs < Big ∧ R (encF (backF B ps x r))
def wf_behind_of : List D → (D → Prop) → Prop := fun ds R => ∃ (B : Nat) (ps : List (Int × Int)) (y : Fr) (S M n : Nat), ds = [encR B ps, encF (it B ps n y), .tuple (dInts (digs B ps n y))] ∧ B < 10 ^ 9 ∧ Sized B ps y S M (n + 2) ∧ R (encF y)
def movedD (B : Nat) (far : Int) (j : Nat) : Nat := digN B ((j : Int) - far, 1)
def movedPs (B : Nat) (ps : List (Int × Int)) (far : Int) : List (Int × Int) := (List.range B).map fun j : Nat => ((prA ps (movedD B far j)).1, (prA ps (movedD B far j)).2 - (prA ps (movedD B far j)).1 * far + B * far)
def timesD (B : Nat) (often : Int) (j : Nat) : Nat := digN B ((j : Int), often)
def timesPs (B : Nat) (ps : List (Int × Int)) (often : Int) : List (Int × Int) := (List.range B).map fun j : Nat => ((prA ps (timesD B often j)).1, (prA ps (timesD B often j)).2 * often)
def wf_moved_told : List D → (D → Prop) → Prop := fun ds R => ∃ (B : Nat) (ps : List (Int × Int)) (far : Int), ds = [encR B ps, .int far] ∧ GoodR B ps ∧ B ≤ 1000 ∧ far.natAbs ≤ 10 ^ 100 ∧ (∀ p ∈ ps, p.1.natAbs ≤ 10 ^ 100 ∧ p.2.natAbs ≤ 10 ^ 100) ∧ R (encR B (movedPs B ps far))
def wf_times_told : List D → (D → Prop) → Prop := fun ds R => ∃ (B : Nat) (ps : List (Int × Int)) (often : Int), ds = [encR B ps, .int often] ∧ GoodR B ps ∧ B ≤ 1000 ∧ 0 < often ∧ often.natAbs ≤ 10 ^ 100 ∧ Int.gcd often B = 1 ∧ (∀ p ∈ ps, p.1.natAbs ≤ 10 ^ 100 ∧ p.2.natAbs ≤ 10 ^ 100) ∧ R (encR B (timesPs B ps often))
theorem big_250 {n : Nat} (h : n ≤ 10 ^ 250) : n < Big := Nat.lt_of_le_of_lt h (by unfold Big; decide +kernel)
/-- one step back -/
theorem back_nxt {B : Nat} {ps : List (Int × Int)} {x : Fr} (G : GoodR B ps) (X : GoodX B x) : backF B ps (nxt B ps x) (digN B x) = x := by
  have hc := nxt_cross G X
  have Y := nxt_good G X
  have hB := G.b2
  have ha := G.a1 _ (prA_mem G (dig_lt (by omega) X.cop))
  unfold backF
  refine red_cross (Int.mul_pos (by omega) Y.pos) X.pos X.red ?_
  generalize (prA ps (digN B x)).1 = a at *
  generalize (prA ps (digN B x)).2 = c at *
  generalize (nxt B ps x).1 = y1 at *
  generalize (nxt B ps x).2 = y2 at *
  grind
/-- what is put in at the key f d for d < i -/
def Filled (kvs : List (Key × D)) (i : Nat) (f : Nat → Int) (g : Nat → D) : Prop := kvs.length ≤ i ∧ ∀ d, d < i → getA kvs (.inl (f d)) = some (g d)
theorem Filled.put {kvs : List (Key × D)} {i : Nat} {f : Nat → Int} {g : Nat → D} (h : Filled kvs i f g) (inj : ∀ d, d < i → f d ≠ f i) : Filled (putA kvs (.inl (f i)) (g i)) (i + 1) f g := by
  refine ⟨Nat.le_trans (putA_len _ _ _) (by have := h.1; omega), fun d hd => ?_⟩
  rw [getA_put]
  by_cases e : d = i
  · subst e
    rw [if_pos rfl]
  · have hlt : d < i := by omega
    rw [if_neg (fun z => inj d hlt (Sum.inl.inj z))]
    exact h.2 d hlt
theorem mod_inj {B : Nat} {a b : Int} {d e : Nat} (hd : d < B) (he : e < B) (hc : Int.gcd a B = 1) (h : ((d : Int) * a + b) % (B : Int) = ((e : Int) * a + b) % (B : Int)) : d = e := by
  have h1 : (B : Int) ∣ ((d : Int) * a + b) - ((e : Int) * a + b) := Int.dvd_of_emod_eq_zero (Int.emod_eq_emod_iff_emod_sub_eq_zero.mp h)
  have h2 : (B : Int) ∣ a * ((d : Int) - e) := by
    have e : ((d : Int) * a + b) - ((e : Int) * a + b) = a * ((d : Int) - e) := by grind
    rwa [e] at h1
  obtain ⟨k, hk⟩ := cop_dvd hc h2
  have : k = 0 := by
    have hB : (0 : Int) < B := by omega
    rcases Int.lt_trichotomy k 0 with h | h | h
    · have : (B : Int) * k ≤ (B : Int) * (-1) := Int.mul_le_mul_of_nonneg_left (by omega) (by omega)
      omega
    · exact h
    · have : (B : Int) * 1 ≤ (B : Int) * k := Int.mul_le_mul_of_nonneg_left (by omega) (by omega)
      omega
  subst this
  omega
theorem movedD_spec {B : Nat} {far : Int} {j : Nat} (hj : j < B) : movedD B far j < B ∧ (((movedD B far j : Nat) : Int) + far) % (B : Int) = j := by
  have hc : Int.gcd (1 : Int) B = 1 := cop_of (x := 1) (y := 0) (by simp)
  have h1 := dig_lt (B := B) (x := ((j : Int) - far, 1)) (by omega) hc
  obtain ⟨k, hk⟩ := dig_dvd (B := B) (x := ((j : Int) - far, 1)) (by omega) hc
  refine ⟨h1, ?_⟩
  have e : ((movedD B far j : Nat) : Int) + far = j + B * (-k) := by
    unfold movedD
    simp only [Int.mul_one] at hk
    generalize ((digN B ((j : Int) - far, 1) : Nat) : Int) = z at *
    grind
  rw [e, Int.add_mul_emod_self_left]
  exact Int.emod_eq_of_lt (by omega) (by omega)
theorem timesD_spec {B : Nat} {often : Int} {j : Nat} (hc : Int.gcd often B = 1) (hj : j < B) : timesD B often j < B ∧ (((timesD B often j : Nat) : Int) * often) % (B : Int) = j := by
  have h1 := dig_lt (B := B) (x := ((j : Int), often)) (by omega) hc
  obtain ⟨k, hk⟩ := dig_dvd (B := B) (x := ((j : Int), often)) (by omega) hc
  refine ⟨h1, ?_⟩
  have e : ((timesD B often j : Nat) : Int) * often = j + B * (-k) := by
    unfold timesD
    generalize ((digN B ((j : Int), often) : Nat) : Int) * often = z at *
    grind
  rw [e, Int.add_mul_emod_self_left]
  exact Int.emod_eq_of_lt (by omega) (by omega)
theorem enum_ps {B : Nat} {ps : List (Int × Int)} (G : GoodR B ps) {i : Nat} {d : D} (h : (enumD (ps.map encF))[i]? = some d) : i < B ∧ d = .tuple [.int i, encF (prA ps i)] := by
  have hi := (List.getElem?_eq_some_iff.mp h).1
  rw [enumD_len, List.length_map, G.len] at hi
  have e := enumD_at (ps_at (r := i) G hi)
  exact ⟨hi, (Option.some.inj (h.symm.trans e))⟩
def movedV (B : Nat) (ps : List (Int × Int)) (far : Int) (d : Nat) : D := .tuple [.int (prA ps d).1, .int ((prA ps d).2 - (prA ps d).1 * far + B * far)]
def timesV (ps : List (Int × Int)) (often : Int) (d : Nat) : D := .tuple [.int (prA ps d).1, .int ((prA ps d).2 * often)]
theorem gcd1 (B : Nat) : Int.gcd 1 B = 1 := cop_of (x := 1) (y := 0) (by simp)
theorem moved_inj {B i : Nat} {far : Int} (hi : i < B) : ∀ d, d < i → ((d : Int) + far) % (B : Int) ≠ ((i : Int) + far) % (B : Int) := fun d hd e => by
  have := mod_inj (a := 1) (b := far) (show d < B by omega) hi (gcd1 B) (by simpa using e)
  omega
theorem times_inj {B i : Nat} {often : Int} (hc : Int.gcd often B = 1) (hi : i < B) : ∀ d, d < i → ((d : Int) * often) % (B : Int) ≠ ((i : Int) * often) % (B : Int) := fun d hd e => by
  have := mod_inj (a := often) (b := 0) (show d < B by omega) hi hc (by simpa using e)
  omega
theorem sz_moved {a c far B : Int} (ha : a.natAbs ≤ 10 ^ 100) (hc : c.natAbs ≤ 10 ^ 100) (hf : far.natAbs ≤ 10 ^ 100) (hB : B.natAbs ≤ 1000) : (c - a * far + B * far).natAbs ≤ 10 ^ 210 := by
  have h1 : (a * far).natAbs ≤ 10 ^ 100 * 10 ^ 100 := by rw [Int.natAbs_mul]; exact Nat.mul_le_mul ha hf
  have h2 : (B * far).natAbs ≤ 1000 * 10 ^ 100 := by rw [Int.natAbs_mul]; exact Nat.mul_le_mul hB hf
  omega
theorem sz_times {c often : Int} (hc : c.natAbs ≤ 10 ^ 100) (hf : often.natAbs ≤ 10 ^ 100) : (c * often).natAbs ≤ 10 ^ 210 := by
  rw [Int.natAbs_mul]
  exact Nat.le_trans (Nat.mul_le_mul hc hf) (by decide)
end NP
/-! k66: the law's own helpers. -/
namespace NP
open PySem L2 PL NM
def wf66_law_shared : List D → (D → Prop) → Prop := fun ds R => ∃ a b : Int, ds = [.int a, .int b] ∧ a.natAbs < Big ∧ b.natAbs < Big ∧ R (.int (Int.gcd a b))
def wf66_law_form : List D → (D → Prop) → Prop := fun ds R => ∃ t b : Int, ds = [.int t, .int b] ∧ 0 < b ∧ t.natAbs < Big ∧ b.natAbs < Big ∧ R (encF (red t b))
def wf66_law_power : List D → (D → Prop) → Prop := fun ds R => ∃ B n : Nat, ds = [.int B, .int n] ∧ n ≤ 1000 ∧ B < 2 ^ 60 ∧ R (.int ((B ^ n : Nat) : Int))
def wf66_law_last : List D → (D → Prop) → Prop := fun ds R => ∃ (B : Nat) (x : Fr), ds = [.int B, encF x] ∧ 1 ≤ B ∧ B ≤ 1000 ∧ Int.gcd x.2 B = 1 ∧ R (.int (digN B x))
def wf66_law_next : List D → (D → Prop) → Prop := fun ds R => ∃ (B : Nat) (ps : List (Int × Int)) (x : Fr) (S M : Nat), ds = [encR B ps, encF x] ∧ B ≤ 1000 ∧ Sized B ps x S M 1 ∧ R (encF (nxt B ps x))
def wf66_law_digits : List D → (D → Prop) → Prop := fun ds R => ∃ (B : Nat) (ps : List (Int × Int)) (x : Fr) (S M n : Nat), ds = [encR B ps, encF x, .int ((n : Nat) : Int)] ∧ B ≤ 1000 ∧ n ≤ 100000 ∧ Sized B ps x S M n ∧ R (.tuple [.tuple (dInts (digs B ps n x)), encF (it B ps n x)])
def wf66_law_rule : List D → (D → Prop) → Prop := fun ds R => ds = [.bool false] ∧ ∀ (B : Nat) (ps : List (Int × Int)), 2 ≤ B → B ≤ 6 → GoodR B ps → PB 66 B ps → R (encR B ps)
def wf66_law_far : List D → (D → Prop) → Prop := fun ds R => ∃ n : Nat, ds = [.int n] ∧ n ≤ 5 ∧ ∀ f : Nat, 1 ≤ f → f ≤ 10 ^ (10 + 35 * n) → R (.int f)
def wf66_law_free : List D → (D → Prop) → Prop := fun ds R => ∃ w B : Nat, ds = [.int w, .int B] ∧ 1 ≤ w ∧ w < 2 ^ 800 ∧ 2 ≤ B ∧ B ≤ 6 ∧ ∀ v : Nat, 1 ≤ v → v ≤ w → Int.gcd v B = 1 → R (.int v)

theorem mulOkR' {i j : Int} (h : j.natAbs < 2 ^ 60) : MulOk i j := mulOkR (by omega) (by omega)
theorem pb66 {B : Nat} {ps : List (Int × Int)} (h : Pairs B 9 ps) (hB : 2 ≤ B) (hB6 : B ≤ 6) : PB 66 B ps := ⟨by omega, fun p hp => by
  have h1 := (h.sz p hp).1
  have h2 := h.sz2 p hp
  omega⟩
theorem big66 : 66 ^ 62 * 10 ^ 185 < Big := by unfold Big; decide +kernel
theorem pow66 {n : Nat} (hn : n ≤ 62) : 66 ^ n ≤ 66 ^ 62 := Nat.pow_le_pow_right (by decide) hn
theorem sized66 {B n M : Nat} {ps : List (Int × Int)} {x : Fr} (G : GoodR B ps) (p : PB 66 B ps) (hn : n ≤ 62) (hM : M ≤ 10 ^ 185) (X : GoodX B x) (h : Bd M x) : Sized B ps x 66 M n :=
  ⟨G, X, p, h, Nat.lt_of_le_of_lt (Nat.mul_le_mul (pow66 hn) hM) big66⟩
theorem it_add_one {B : Nat} {ps : List (Int × Int)} (G : GoodR B ps) (n : Nat) (t : Int) : (it B ps n (t, 1)).2 = 1 := (it_add G n t 0).2.1
/-- where the line leads -/
theorem line_to {B : Nat} {ps : List (Int × Int)} {x : Fr} (G : GoodR B ps) (X : GoodX B x) (n : Nat) : red ((lin B ps (digs B ps n x)).1 * x.1 + (lin B ps (digs B ps n x)).2.1 * x.2) (((B ^ n : Nat) : Int) * x.2) = it B ps n x := by
  have h := lin_walk G X n
  have Y := it_good G n X
  have hP : (0 : Int) < ((B ^ n : Nat) : Int) := by
    have : 0 < B ^ n := Nat.pow_pos (by have := G.b2; omega)
    omega
  refine red_cross (Int.mul_pos hP X.pos) Y.pos Y.red ?_
  rw [← h, show ((B ^ n : Nat) : Int) = (B : Int) ^ n by push_cast; rfl, Int.mul_comm x.2]
theorem plus_int {x : Fr} {f : Int} (h : 0 < x.2) (hr : Int.gcd x.1 x.2 = 1) : plusF x (f, 1) = (x.1 + f * x.2, x.2) := by
  unfold plusF
  refine red_cross (Int.mul_pos h (by show (0 : Int) < 1; decide)) h ?_ ?_
  · have := cop_less (-f) hr
    rwa [show x.1 - -f * x.2 = x.1 + f * x.2 by rw [Int.neg_mul]; omega] at this
  · simp
theorem get_pr {B : Nat} {ps : List (Int × Int)} {r : Nat} {p : Int × Int} (h : ps[r]? = some p) : prA ps r = p := by
  unfold prA
  rw [List.getD_eq_getElem?_getD, h]
  rfl
theorem moved_at {B : Nat} {ps : List (Int × Int)} {f : Int} {j : Nat} (hj : j < B) : (movedPs B ps f)[j]? = some ((prA ps (movedD B f j)).1, (prA ps (movedD B f j)).2 - (prA ps (movedD B f j)).1 * f + B * f) := by
  unfold movedPs
  rw [List.getElem?_map, List.getElem?_range hj]
  rfl
theorem times_at {B : Nat} {ps : List (Int × Int)} {f : Int} {j : Nat} (hj : j < B) : (timesPs B ps f)[j]? = some ((prA ps (timesD B f j)).1, (prA ps (timesD B f j)).2 * f) := by
  unfold timesPs
  rw [List.getElem?_map, List.getElem?_range hj]
  rfl
theorem moved_good {B : Nat} {ps : List (Int × Int)} {f : Int} (G : GoodR B ps) : GoodR B (movedPs B ps f) where
  b2 := G.b2
  len := by simp [movedPs]
  a1 := fun p hp => by
    obtain ⟨j, hj, rfl⟩ := List.mem_map.mp hp
    exact (G.a1 _ (prA_mem G (movedD_spec (far := f) (List.mem_range.mp hj)).1) :)
  cop := fun p hp => by
    obtain ⟨j, hj, rfl⟩ := List.mem_map.mp hp
    exact (G.cop _ (prA_mem G (movedD_spec (far := f) (List.mem_range.mp hj)).1) :)
  div := fun r p hr => by
    have hlt : r < B := by
      have := (List.getElem?_eq_some_iff.mp hr).1
      simpa [movedPs] using this
    rw [moved_at hlt] at hr
    cases hr
    obtain ⟨s1, s2⟩ := movedD_spec (far := f) hlt
    obtain ⟨k, hk⟩ := G.div _ _ (prA_get G s1)
    have e := Int.mul_ediv_add_emod (((movedD B f r : Nat) : Int) + f) (B : Int)
    rw [s2] at e
    generalize (((movedD B f r : Nat) : Int) + f) / (B : Int) = q at e
    refine ⟨k - (prA ps (movedD B f r)).1 * q + f, ?_⟩
    simp only []
    generalize (prA ps (movedD B f r)).1 = a at *
    generalize (prA ps (movedD B f r)).2 = c at *
    generalize ((movedD B f r : Nat) : Int) = d at *
    grind
theorem times_good {B : Nat} {ps : List (Int × Int)} {f : Int} (G : GoodR B ps) (hf : Int.gcd f B = 1) : GoodR B (timesPs B ps f) where
  b2 := G.b2
  len := by simp [timesPs]
  a1 := fun p hp => by
    obtain ⟨j, hj, rfl⟩ := List.mem_map.mp hp
    exact (G.a1 _ (prA_mem G (timesD_spec hf (List.mem_range.mp hj)).1) :)
  cop := fun p hp => by
    obtain ⟨j, hj, rfl⟩ := List.mem_map.mp hp
    exact (G.cop _ (prA_mem G (timesD_spec hf (List.mem_range.mp hj)).1) :)
  div := fun r p hr => by
    have hlt : r < B := by
      have := (List.getElem?_eq_some_iff.mp hr).1
      simpa [timesPs] using this
    rw [times_at hlt] at hr
    cases hr
    obtain ⟨s1, s2⟩ := timesD_spec hf hlt
    obtain ⟨k, hk⟩ := G.div _ _ (prA_get G s1)
    have e := Int.mul_ediv_add_emod (((timesD B f r : Nat) : Int) * f) (B : Int)
    rw [s2] at e
    generalize (((timesD B f r : Nat) : Int) * f) / (B : Int) = q at e
    refine ⟨k * f - (prA ps (timesD B f r)).1 * q, ?_⟩
    simp only []
    generalize (prA ps (timesD B f r)).1 = a at *
    generalize (prA ps (timesD B f r)).2 = c at *
    generalize ((timesD B f r : Nat) : Int) = d at *
    grind
theorem nat_of_mod {B : Nat} (h : 0 < B) (z : Int) : ∃ j : Nat, j < B ∧ ∃ q, z = j + B * q := by
  have h0 := Int.emod_nonneg z (show (B : Int) ≠ 0 by omega)
  have h1 := Int.emod_lt_of_pos z (show (0 : Int) < B by omega)
  have e := Int.mul_ediv_add_emod z (B : Int)
  exact ⟨(z % B).toNat, by omega, z / B, by omega⟩
theorem next_moved {B : Nat} {ps : List (Int × Int)} {x : Fr} {f : Int} (G : GoodR B ps) (X : GoodX B x) : nxt B (movedPs B ps f) (x.1 + f * x.2, x.2) = plusF (nxt B ps x) (f, 1) := by
  have hB := G.b2
  have hd := dig_lt (B := B) (by omega) X.cop
  obtain ⟨k, hk⟩ := dig_dvd (B := B) (by omega) X.cop
  obtain ⟨j, hj, q, hq⟩ := nat_of_mod (B := B) (by omega) (((digN B x : Nat) : Int) + f)
  have hc := nxt_cross G X
  have Y := nxt_good G X
  have e1 : digN B (x.1 + f * x.2, x.2) = j := dig_eq X.cop hj ⟨k + q * x.2, by simp only []; generalize ((digN B x : Nat) : Int) = d at *; grind⟩
  have e2 : movedD B f j = digN B x := dig_eq (gcd1 B) hd ⟨-q, by simp only []; generalize ((digN B x : Nat) : Int) = d at *; grind⟩
  rw [plus_int Y.pos Y.red]
  unfold nxt
  rw [e1, get_pr (B := B) (moved_at hj), e2]
  show red ((prA ps (digN B x)).1 * (x.1 + f * x.2) + ((prA ps (digN B x)).2 - (prA ps (digN B x)).1 * f + B * f) * x.2) (B * x.2) = _
  refine red_cross (Int.mul_pos (by omega) X.pos) Y.pos ?_ ?_
  · have := cop_less (-f) Y.red
    rwa [show (nxt B ps x).1 - -f * (nxt B ps x).2 = (nxt B ps x).1 + f * (nxt B ps x).2 by rw [Int.neg_mul]; omega] at this
  · show _ * (nxt B ps x).2 = ((nxt B ps x).1 + f * (nxt B ps x).2) * _
    generalize (nxt B ps x).1 = n1 at *
    generalize (nxt B ps x).2 = n2 at *
    generalize (prA ps (digN B x)).1 = a at *
    generalize (prA ps (digN B x)).2 = c at *
    grind
theorem times_x {B : Nat} {x : Fr} {f : Int} (X : GoodX B x) (hf : Int.gcd f B = 1) : GoodX B (timesF x (f, 1)) ∧ ∃ g, 0 < g ∧ Int.gcd g B = 1 ∧ x.1 * f = g * (timesF x (f, 1)).1 ∧ x.2 = g * (timesF x (f, 1)).2 := by
  obtain ⟨g, g0, _, e1, e2, r0, rc⟩ := red_spec (t := x.1 * f) (b := x.2 * 1) (by rw [Int.mul_one]; exact X.pos)
  rw [Int.mul_one] at e2
  have e3 : timesF x (f, 1) = red (x.1 * f) (x.2 * 1) := rfl
  rw [← e3] at e1 r0 rc
  rw [Int.mul_one] at e3
  rw [show red (x.1 * f) x.2 = timesF x (f, 1) from e3.symm] at e2
  refine ⟨⟨r0, cop_sub X.cop ⟨g, by rw [Int.mul_comm]; exact e2⟩, rc⟩, g, g0, cop_sub X.cop ⟨_, e2⟩, e1, e2⟩
theorem next_times {B : Nat} {ps : List (Int × Int)} {x : Fr} {f : Int} (G : GoodR B ps) (X : GoodX B x) (hf : Int.gcd f B = 1) : nxt B (timesPs B ps f) (timesF x (f, 1)) = timesF (nxt B ps x) (f, 1) := by
  have hB := G.b2
  have hd := dig_lt (B := B) (by omega) X.cop
  obtain ⟨k, hk⟩ := dig_dvd (B := B) (by omega) X.cop
  obtain ⟨j, hj, q, hq⟩ := nat_of_mod (B := B) (by omega) (((digN B x : Nat) : Int) * f)
  have hc := nxt_cross G X
  have Y := nxt_good G X
  obtain ⟨Z, g, g0, gB, h1, h2⟩ := times_x X hf
  obtain ⟨W, u, u0, uB, h3, h4⟩ := times_x Y hf
  have e1 : digN B (timesF x (f, 1)) = j := dig_eq Z.cop hj (by
    refine cop_dvd gB ⟨k * f + q * x.2, ?_⟩
    generalize (timesF x (f, 1)).1 = y1 at *
    generalize (timesF x (f, 1)).2 = y2 at *
    generalize ((digN B x : Nat) : Int) = d at *
    have : g * (y1 - j * y2) = x.1 * f - j * x.2 := by rw [h1, h2]; grind
    rw [this]
    grind)
  have e2 : timesD B f j = digN B x := dig_eq hf hd ⟨-q, by simp only []; generalize ((digN B x : Nat) : Int) = d at *; grind⟩
  have l : nxt B (timesPs B ps f) (timesF x (f, 1)) = red ((prA ps (digN B x)).1 * (timesF x (f, 1)).1 + ((prA ps (digN B x)).2 * f) * (timesF x (f, 1)).2) (B * (timesF x (f, 1)).2) := by
    unfold nxt
    rw [e1, get_pr (B := B) (times_at hj), e2]
  rw [l]
  clear l e1 e2
  generalize timesF (nxt B ps x) (f, 1) = w at *
  refine red_cross (Int.mul_pos (by omega) Z.pos) W.pos W.red ?_
  generalize (timesF x (f, 1)).1 = y1 at *
  generalize (timesF x (f, 1)).2 = y2 at *
  generalize w.1 = w1 at *
  generalize w.2 = w2 at *
  generalize (nxt B ps x).1 = n1 at *
  generalize (nxt B ps x).2 = n2 at *
  generalize (prA ps (digN B x)).1 = a at *
  generalize (prA ps (digN B x)).2 = c at *
  have c1 : g * u * ((a * y1 + c * f * y2) * w2) = g * u * (w1 * (B * y2)) := by
    have q1 : g * u * ((a * y1 + c * f * y2) * w2) = (a * (g * y1) + c * f * (g * y2)) * (u * w2) := by grind
    have q2 : g * u * (w1 * (B * y2)) = (u * w1) * (B * (g * y2)) := by grind
    rw [q1, q2, ← h1, ← h2, ← h3, ← h4]
    have : (a * (x.1 * f) + c * f * x.2) * n2 = f * ((a * x.1 + c * x.2) * n2) := by grind
    rw [this, ← hc]
    grind
  have hgu : g * u ≠ 0 := by
    have := Int.mul_pos g0 u0
    omega
  exact Int.eq_of_mul_eq_mul_left hgu c1
theorem next_plain {B : Nat} {x : Fr} (h : 2 ≤ B) (X : GoodX B x) : nxt B (plainPs B) x = nextF B x := by
  have hd := dig_lt (B := B) (by omega) X.cop
  have e : (plainPs B)[digN B x]? = some (1, -((digN B x : Nat) : Int)) := by
    unfold plainPs
    rw [List.getElem?_map, List.getElem?_range hd]
    rfl
  unfold nxt nextF
  rw [get_pr (B := B) e]
  have e1 : (1 : Int) * x.1 + -((digN B x : Nat) : Int) * x.2 = x.1 - ((digN B x : Nat) : Int) * x.2 := by rw [Int.one_mul, Int.neg_mul]; omega
  show red ((1 : Int) * x.1 + -((digN B x : Nat) : Int) * x.2) _ = _
  rw [e1, Int.mul_comm (B : Int)]
theorem next_taken {B n : Nat} {ps : List (Int × Int)} {x : Fr} (G : GoodR B ps) (X : GoodX B x) (h : 2 ≤ B ^ n) : nxt (B ^ n) (takenPs B ps n) x = it B ps n x := by
  have hcn : Int.gcd x.2 ((B ^ n : Nat) : Int) = 1 := by
    rw [show ((B ^ n : Nat) : Int) = (B : Int) ^ n by push_cast; rfl]
    exact cop_pow X.cop n
  have hr := dig_lt (B := B ^ n) (by omega) hcn
  have hal : digs B ps n x = digs B ps n ((digN (B ^ n) x : Int), 1) := digs_alike G n X (good_int (by have := G.b2; omega) _) (by
    have := dig_dvd (B := B ^ n) (by omega) hcn
    rw [show ((B ^ n : Nat) : Int) = (B : Int) ^ n by push_cast; rfl] at this
    simpa using this)
  unfold nxt
  rw [get_pr (B := B) (taken_at hr), ← hal]
  exact line_to G X n
theorem begin_big {A s r P : Int} (h : A < P) (hs : s.natAbs + r.natAbs + 2 < Big) : (max 0 ((s - r) / (P - A) + 1)).natAbs < Big := by
  by_cases h0 : 0 ≤ s - r
  · have h1 := Int.ediv_nonneg h0 (show 0 ≤ P - A by omega)
    have h2 := Int.ediv_le_self (P - A) h0
    omega
  · have h1 : (s - r) / (P - A) < 0 := Int.ediv_neg_of_neg_of_pos (by omega) (by omega)
    have : max 0 ((s - r) / (P - A) + 1) = 0 := by omega
    rw [this]
    exact small_big (by decide)
theorem moved_pb {B : Nat} {ps : List (Int × Int)} {f : Int} (G : GoodR B ps) (p : PB 66 B ps) (hf : f.natAbs ≤ 10 ^ 45) : PB (10 ^ 48) B (movedPs B ps f) := ⟨by have := p.b; omega, fun q hq => by
  obtain ⟨j, hj, rfl⟩ := List.mem_map.mp hq
  rw [List.mem_range] at hj
  have h := p.p _ (prA_mem G (movedD_spec (far := f) hj).1)
  have h1 : ((prA ps (movedD B f j)).1 * f).natAbs ≤ 66 * 10 ^ 45 := by rw [Int.natAbs_mul]; exact Nat.mul_le_mul (by omega) hf
  have h2 : ((B : Int) * f).natAbs ≤ 66 * 10 ^ 45 := by rw [Int.natAbs_mul]; exact Nat.mul_le_mul (by have := p.b; omega) hf
  show (prA ps (movedD B f j)).1.natAbs + ((prA ps (movedD B f j)).2 - (prA ps (movedD B f j)).1 * f + B * f).natAbs ≤ _
  omega⟩
theorem times_pb {B : Nat} {ps : List (Int × Int)} {f : Int} (G : GoodR B ps) (p : PB 66 B ps) (hc : Int.gcd f B = 1) (hf : f.natAbs ≤ 10 ^ 45) : PB (10 ^ 48) B (timesPs B ps f) := ⟨by have := p.b; omega, fun q hq => by
  obtain ⟨j, hj, rfl⟩ := List.mem_map.mp hq
  rw [List.mem_range] at hj
  have h := p.p _ (prA_mem G (timesD_spec hc hj).1)
  have h1 : ((prA ps (timesD B f j)).2 * f).natAbs ≤ 66 * 10 ^ 45 := by rw [Int.natAbs_mul]; exact Nat.mul_le_mul (by omega) hf
  show (prA ps (timesD B f j)).1.natAbs + ((prA ps (timesD B f j)).2 * f).natAbs ≤ _
  omega⟩
theorem smF {x : Fr} {n : Nat} (h1 : x.1.natAbs ≤ n) (h2 : x.2.natAbs ≤ n) (hn : n < Big) (h : 0 < x.2) : Sm x := ⟨Nat.lt_of_le_of_lt h1 hn, Nat.lt_of_le_of_lt h2 hn, h⟩
theorem mul_sz {a b : Int} {m n k : Nat} (ha : a.natAbs ≤ m) (hb : b.natAbs ≤ n) (hk : m * n ≤ k) : (a * b).natAbs ≤ k := by
  rw [Int.natAbs_mul]
  exact Nat.le_trans (Nat.mul_le_mul ha hb) hk
theorem add_sz {a b : Int} {m n k : Nat} (ha : a.natAbs ≤ m) (hb : b.natAbs ≤ n) (hk : m + n ≤ k) : (a + b).natAbs ≤ k := by
  have := Int.natAbs_add_le a b
  omega
theorem sub_sz {a b : Int} {m n k : Nat} (ha : a.natAbs ≤ m) (hb : b.natAbs ≤ n) (hk : m + n ≤ k) : (a - b).natAbs ≤ k := by
  have := Int.natAbs_sub_le a b
  omega
def szD (B : Nat) : D → Bool := fun d => match d with
  | .int k => decide (((B ^ k.toNat : Nat) : Int) ≤ 64)
  | _ => false
theorem szL {B : Nat} {e : D} (h : e ∈ ([PyData.int 1, PyData.int 2, PyData.int 3].filter (szD B)).map id) : ∃ k : Nat, e = .int k ∧ 1 ≤ k ∧ k ≤ 3 ∧ B ^ k ≤ 64 := by
  rw [List.map_id, List.mem_filter] at h
  obtain ⟨h1, h2⟩ := h
  simp only [List.mem_cons, List.not_mem_nil, or_false] at h1
  rcases h1 with rfl | rfl | rfl
  · exact ⟨1, rfl, by decide, by decide, by have := of_decide_eq_true h2; exact Int.ofNat_le.mp this⟩
  · exact ⟨2, rfl, by decide, by decide, by have := of_decide_eq_true h2; exact Int.ofNat_le.mp this⟩
  · exact ⟨3, rfl, by decide, by decide, by have := of_decide_eq_true h2; exact Int.ofNat_le.mp this⟩
theorem szL_pos {B : Nat} (h : B ≤ 64) : 0 < (([PyData.int 1, PyData.int 2, PyData.int 3].filter (szD B)).map id).length := by
  refine List.length_pos_of_mem (a := .int 1) ?_
  rw [List.map_id, List.mem_filter]
  refine ⟨by simp, ?_⟩
  show decide (((B ^ 1 : Nat) : Int) ≤ 64) = true
  rw [Nat.pow_one]
  exact decide_eq_true (by omega)
theorem szL_len {B : Nat} : (([PyData.int 1, PyData.int 2, PyData.int 3].filter (szD B)).map id).length ≤ 1000000 := by
  rw [List.length_map]
  exact Nat.le_trans (List.length_filter_le _ _) (by decide)
theorem taken_pb66 {B n : Nat} {ps : List (Int × Int)} (G : GoodR B ps) (p : PB 66 B ps) (hn : n ≤ 8) (hw : B ^ n ≤ 64) : PB (10 ^ 18) (B ^ n) (takenPs B ps n) :=
  taken_pb G ⟨by have := p.b; omega, fun q hq => by have := p.p q hq; omega⟩ hn (Nat.le_trans hw (by decide))
theorem good_pow {B n : Nat} {x : Fr} (X : GoodX B x) : GoodX (B ^ n) x := ⟨X.pos, by
  rw [show ((B ^ n : Nat) : Int) = (B : Int) ^ n by push_cast; rfl]
  exact cop_pow X.cop n, X.red⟩
end NP
namespace K66
open PySem L2 PL PySem.Spec PyProof.Rows NM NP
def top (i : Nat) : Stmt := PySem.Challenge.pw_lastdigitwalks_k66_whole_far_numbers.main.body.getD i (.Pass ⟨0, 0, 0, 0⟩)
abbrev s_not_long : Stmt := top 11
abbrev s_number_told : Stmt := top 12
abbrev s_number_plus : Stmt := top 13
abbrev s_number_times : Stmt := top 14
abbrev s_shares : Stmt := top 15
abbrev s_is_of : Stmt := top 16
abbrev s_number_let : Stmt := top 17
abbrev s_power_made : Stmt := top 18
abbrev s_undone_told : Stmt := top 19
abbrev s_rest_by : Stmt := top 20
abbrev s_rest_told : Stmt := top 21
abbrev s_last_digit : Stmt := top 22
abbrev s_number_next : Stmt := top 23
abbrev s_rule_told : Stmt := top 28
abbrev s_plain_told : Stmt := top 29
abbrev s_next_of : Stmt := top 30
abbrev s_digits_of : Stmt := top 31
abbrev s_before_of : Stmt := top 32
abbrev s_behind_of : Stmt := top 33
abbrev s_line_of : Stmt := top 34
abbrev s_moved_told : Stmt := top 35
abbrev s_times_told : Stmt := top 36
abbrev s_taken_told : Stmt := top 37
abbrev s_class_line : Stmt := top 39
abbrev s_below_from : Stmt := top 40
abbrev s_class_told : Stmt := top 41
abbrev s_law_source : Stmt := top 43
abbrev s_law_pick : Stmt := top 44
abbrev s_law_of : Stmt := top 45
abbrev s_law_shared : Stmt := top 46
abbrev s_law_form : Stmt := top 47
abbrev s_law_power : Stmt := top 48
abbrev s_law_last : Stmt := top 49
abbrev s_law_next : Stmt := top 50
abbrev s_law_digits : Stmt := top 51
abbrev s_law_rule : Stmt := top 52
abbrev s_law_far : Stmt := top 53
abbrev s_law_free : Stmt := top 54
abbrev s_law : Stmt := top 55
structure Tx (K : PySem.W.Frag) (mg : Str → Option Value) : Prop where
  b_abs : mg "abs" = none
  b_enumerate : mg "enumerate" = none
  b_int : mg "int" = none
  b_len : mg "len" = none
  b_max : mg "max" = none
  b_range : mg "range" = none
  b_str : mg "str" = none
  b_tuple : mg "tuple" = none
  gcd : mg "gcd" = some (.builtin "math.gcd")
  c_MOST_BASE : GlobD K mg "MOST_BASE" (.int 64) (.int 64)
  c_MOST_FIGURES : GlobD K mg "MOST_FIGURES" (.int 300) (.int 300)
  at_not_long : DefAt K mg "not_long" s_not_long
  at_number_told : DefAt K mg "number_told" s_number_told
  at_number_plus : DefAt K mg "number_plus" s_number_plus
  at_number_times : DefAt K mg "number_times" s_number_times
  at_shares : DefAt K mg "shares" s_shares
  at_is_of : DefAt K mg "is_of" s_is_of
  at_number_let : DefAt K mg "number_let" s_number_let
  at_power_made : DefAt K mg "power_made" s_power_made
  at_undone_told : DefAt K mg "undone_told" s_undone_told
  at_rest_by : DefAt K mg "rest_by" s_rest_by
  at_rest_told : DefAt K mg "rest_told" s_rest_told
  at_last_digit : DefAt K mg "last_digit" s_last_digit
  at_number_next : DefAt K mg "number_next" s_number_next
  at_rule_told : DefAt K mg "rule_told" s_rule_told
  at_plain_told : DefAt K mg "plain_told" s_plain_told
  at_next_of : DefAt K mg "next_of" s_next_of
  at_digits_of : DefAt K mg "digits_of" s_digits_of
  at_before_of : DefAt K mg "before_of" s_before_of
  at_behind_of : DefAt K mg "behind_of" s_behind_of
  at_line_of : DefAt K mg "line_of" s_line_of
  at_moved_told : DefAt K mg "moved_told" s_moved_told
  at_times_told : DefAt K mg "times_told" s_times_told
  at_taken_told : DefAt K mg "taken_told" s_taken_told
  at_class_line : DefAt K mg "class_line" s_class_line
  at_below_from : DefAt K mg "below_from" s_below_from
  at_class_told : DefAt K mg "class_told" s_class_told
  at_law_source : DefAt K mg "_law_source" s_law_source
  at_law_pick : DefAt K mg "_law_pick" s_law_pick
  at_law_of : DefAt K mg "_law_of" s_law_of
  at_law_shared : DefAt K mg "_law_shared" s_law_shared
  at_law_form : DefAt K mg "_law_form" s_law_form
  at_law_power : DefAt K mg "_law_power" s_law_power
  at_law_last : DefAt K mg "_law_last" s_law_last
  at_law_next : DefAt K mg "_law_next" s_law_next
  at_law_digits : DefAt K mg "_law_digits" s_law_digits
  at_law_rule : DefAt K mg "_law_rule" s_law_rule
  at_law_far : DefAt K mg "_law_far" s_law_far
  at_law_free : DefAt K mg "_law_free" s_law_free
  at_law : DefAt K mg "law" s_law
section
variable {P : Program} {w : World} {K : PySem.W.Frag} {mg : Str → Option Value} {base : Heap}
theorem sc_not_long : FnScope ["number"] ["number"] (defScope s_not_long) := ⟨rfl, rfl, rfl, by decide +kernel, rfl, by decide +kernel, by decide +kernel⟩
theorem d_not_long (T : Tx K mg) : DefP P w K mg base 1 "not_long" false 1 wf_not_long := by
  refine def_ok T.at_not_long sc_not_long rfl (fun _ _ _ _ _ _ us hl => match us, hl with | [_], _ => rfl) (fun f cdv A outer s H E hr => ?_)
  have nd := sc_not_long.nd
  have hu := hr.units
  refine ⟨_, _, (xs_cons (x_ifS (xt_gt (x_len T.b_len (xa_cons (x_strI T.b_str (xa_cons (x_abs T.b_abs (xa_cons (x_var 0) xa_nil)) xa_nil)) xa_nil)) (x_glob T.c_MOST_FIGURES)) (xs_one x_never) xs_nil) (xs_one (x_ret (x_var 0)))), ?_⟩
  clear nd hu hr
  intro ds R hl h
  obtain ⟨n, rfl, hn, hR⟩ := h
  refine (show (_ : PL.WS) [Sl.dat _] _ from ?_)
  try simp only [wSeq, wIfS, wTV, w2, w3, wCall, wCallS, wCons, wNil, wVar, wC, fI, fI0, fLen, fStr, f1I, f2I, wRet, wNext, wSet, wSetO, wAsg, wN, wGNil, wGCons, wGTup, wTup, wLst, wMNil, wMD, wMO, wPar, wPar3, wAug, wISeq, wIR1, wIR2, wApp, wTupOf, wDrop, wNeg, wAnd, wOr, wNot, wAndV, wOrV, wNotV, wIf, wBits, fEq, fNe, fIsN, fNotN, isN, fIsB, frz, wYes, wSlT, wSlL, wNP, wPt, wRevL, wCatL, fCatT, wBor, frzAt, wipeE, List.map_cons, List.map_nil, List.getElem?_cons_zero, List.getElem?_cons_succ, List.set_cons_zero, List.set_cons_succ, Bool.not_true, Bool.not_false]
  obtain ⟨h1, h2⟩ := str_fits hn
  refine ⟨h1, line_le h2, ?_⟩
  rw [decide_eq_false (by omega)]
  exact hR
theorem sc_number_told : FnScope ["top", "bottom", "part"] ["top", "bottom"] (defScope s_number_told) := ⟨rfl, rfl, rfl, by decide +kernel, rfl, by decide +kernel, by decide +kernel⟩
theorem d_number_told (T : Tx K mg) : DefP P w K mg base 2 "number_told" false 2 wf_number_told := by
  refine def_ok T.at_number_told sc_number_told rfl (fun _ _ _ _ _ _ us hl => match us, hl with | [_, _], _ => rfl) (fun f cdv A outer s H E hr => ?_)
  have nd := sc_number_told.nd
  have hu := hr.units
  refine ⟨_, _, (xs_cons (x_ifS (xt_eq hu (x_var 1) x_int) (xs_one x_never) xs_nil) (xs_cons (x_set 2 (x_if (xt_gt (x_var 1) x_int) (x_gcd T.gcd (xa_cons (x_var 0) (xa_cons (x_var 1) xa_nil))) (x_neg (x_gcd T.gcd (xa_cons (x_var 0) (xa_cons (x_var 1) xa_nil))))) nd) (xs_one (x_ret (x_tup (xa_cons (x_call (d_not_long T) (hr.mono (by decide)) (xa_cons (x_div (x_var 0) (x_var 2)) xa_nil)) (xa_cons (x_call (d_not_long T) (hr.mono (by decide)) (xa_cons (x_div (x_var 1) (x_var 2)) xa_nil)) xa_nil))))))), ?_⟩
  clear nd hu hr
  intro ds R hl h
  obtain ⟨t, b, rfl, hb, ht, hbb, hR⟩ := h
  refine (show (_ : PL.WS) [Sl.dat _, Sl.dat _, Sl.no] _ from ?_)
  have e1 : PyData.eqv (.int b) (.int 0) = false := by simp only [PyData.eqv, beq_eq_false_iff_ne]; omega
  have e2 : decide ((0 : Int) < b) = true := decide_eq_true hb
  obtain ⟨g, hg, eg, h1, h2, _, _⟩ := red_spec (t := t) hb
  have hgb : g.natAbs < Big := by
    have := Int.le_of_dvd hb ⟨_, h2⟩
    omega
  obtain ⟨k1, k2⟩ := natAbs_red_le (t := t) hb
  try simp only [wSeq, wIfS, wTV, w2, w3, wCall, wCallS, wCons, wNil, wVar, wC, fI, fI0, fLen, fStr, f1I, f2I, wRet, wNext, wSet, wSetO, wAsg, wN, wGNil, wGCons, wGTup, wTup, wLst, wMNil, wMD, wMO, wPar, wPar3, wAug, wISeq, wIR1, wIR2, wApp, wTupOf, wDrop, wNeg, wAnd, wOr, wNot, wAndV, wOrV, wNotV, wIf, wBits, fEq, fNe, fIsN, fNotN, isN, fIsB, frz, wYes, wSlT, wSlL, wNP, wPt, wRevL, wCatL, fCatT, wBor, frzAt, wipeE, List.map_cons, List.map_nil, List.getElem?_cons_zero, List.getElem?_cons_succ, List.set_cons_zero, List.set_cons_succ, Bool.not_true, Bool.not_false, e1,  e2]
  refine ⟨rfl, rfl, divOk ?_ ?_, _, rfl, ?_, divOk ?_ ?_, _, rfl, ?_, hR⟩
  · rw [eg] at hg; exact hg
  · rw [eg] at hgb; exact hgb
  · exact Nat.lt_of_le_of_lt k1 ht
  · rw [eg] at hg; exact hg
  · rw [eg] at hgb; exact hgb
  · exact Nat.lt_of_le_of_lt k2 hbb
theorem sc_number_plus : FnScope ["one", "other"] ["one", "other"] (defScope s_number_plus) := ⟨rfl, rfl, rfl, by decide +kernel, rfl, by decide +kernel, by decide +kernel⟩
theorem d_number_plus (T : Tx K mg) : DefP P w K mg base 3 "number_plus" false 2 wf_number_plus := by
  refine def_ok T.at_number_plus sc_number_plus rfl (fun _ _ _ _ _ _ us hl => match us, hl with | [_, _], _ => rfl) (fun f cdv A outer s H E hr => ?_)
  have nd := sc_number_plus.nd
  have hu := hr.units
  refine ⟨_, _, (xs_one (x_ret (x_call (d_number_told T) (hr.mono (by decide)) (xa_cons (x_add (x_mul (x_ix (x_var 0) x_int) (x_ix (x_var 1) x_int)) (x_mul (x_ix (x_var 1) x_int) (x_ix (x_var 0) x_int))) (xa_cons (x_mul (x_ix (x_var 0) x_int) (x_ix (x_var 1) x_int)) xa_nil))))), ?_⟩
  clear nd hu hr
  intro ds R hl h
  obtain ⟨x, y, rfl, hx, hy, h1, h2, hR⟩ := h
  refine (show (_ : PL.WS) [Sl.dat _, Sl.dat _] _ from ?_)
  try simp only [wSeq, wIfS, wTV, w2, w3, wCall, wCallS, wCons, wNil, wVar, wC, fI, fI0, fLen, fStr, f1I, f2I, wRet, wNext, wSet, wSetO, wAsg, wN, wGNil, wGCons, wGTup, wTup, wLst, wMNil, wMD, wMO, wPar, wPar3, wAug, wISeq, wIR1, wIR2, wApp, wTupOf, wDrop, wNeg, wAnd, wOr, wNot, wAndV, wOrV, wNotV, wIf, wBits, fEq, fNe, fIsN, fNotN, isN, fIsB, frz, wYes, wSlT, wSlL, wNP, wPt, wRevL, wCatL, fCatT, wBor, frzAt, wipeE, List.map_cons, List.map_nil, List.getElem?_cons_zero, List.getElem?_cons_succ, List.set_cons_zero, List.set_cons_succ, Bool.not_true, Bool.not_false, encF,  fIx]
  exact ⟨_, rfl, _, rfl, mulOk hx.t hy.b, _, rfl, _, rfl, mulOk hy.t hx.b, _, rfl, _, rfl, mulOk hx.b hy.b, _, _, rfl, Int.mul_pos hx.pos hy.pos, h1, h2, hR⟩
theorem sc_number_times : FnScope ["one", "other"] ["one", "other"] (defScope s_number_times) := ⟨rfl, rfl, rfl, by decide +kernel, rfl, by decide +kernel, by decide +kernel⟩
theorem d_number_times (T : Tx K mg) : DefP P w K mg base 3 "number_times" false 2 wf_number_times := by
  refine def_ok T.at_number_times sc_number_times rfl (fun _ _ _ _ _ _ us hl => match us, hl with | [_, _], _ => rfl) (fun f cdv A outer s H E hr => ?_)
  have nd := sc_number_times.nd
  have hu := hr.units
  refine ⟨_, _, (xs_one (x_ret (x_call (d_number_told T) (hr.mono (by decide)) (xa_cons (x_mul (x_ix (x_var 0) x_int) (x_ix (x_var 1) x_int)) (xa_cons (x_mul (x_ix (x_var 0) x_int) (x_ix (x_var 1) x_int)) xa_nil))))), ?_⟩
  clear nd hu hr
  intro ds R hl h
  obtain ⟨x, y, rfl, hx, hy, h1, h2, hR⟩ := h
  refine (show (_ : PL.WS) [Sl.dat _, Sl.dat _] _ from ?_)
  try simp only [wSeq, wIfS, wTV, w2, w3, wCall, wCallS, wCons, wNil, wVar, wC, fI, fI0, fLen, fStr, f1I, f2I, wRet, wNext, wSet, wSetO, wAsg, wN, wGNil, wGCons, wGTup, wTup, wLst, wMNil, wMD, wMO, wPar, wPar3, wAug, wISeq, wIR1, wIR2, wApp, wTupOf, wDrop, wNeg, wAnd, wOr, wNot, wAndV, wOrV, wNotV, wIf, wBits, fEq, fNe, fIsN, fNotN, isN, fIsB, frz, wYes, wSlT, wSlL, wNP, wPt, wRevL, wCatL, fCatT, wBor, frzAt, wipeE, List.map_cons, List.map_nil, List.getElem?_cons_zero, List.getElem?_cons_succ, List.set_cons_zero, List.set_cons_succ, Bool.not_true, Bool.not_false, encF,  fIx]
  exact ⟨_, rfl, _, rfl, mulOk hx.t hy.t, _, rfl, _, rfl, mulOk hx.b hy.b, _, _, rfl, Int.mul_pos hx.pos hy.pos, h1, h2, hR⟩
theorem sc_shares : FnScope ["one", "other"] ["one", "other"] (defScope s_shares) := ⟨rfl, rfl, rfl, by decide +kernel, rfl, by decide +kernel, by decide +kernel⟩
theorem d_shares (T : Tx K mg) : DefP P w K mg base 1 "shares" false 2 wf_shares := by
  refine def_ok T.at_shares sc_shares rfl (fun _ _ _ _ _ _ us hl => match us, hl with | [_, _], _ => rfl) (fun f cdv A outer s H E hr => ?_)
  have nd := sc_shares.nd
  have hu := hr.units
  refine ⟨_, _, (xs_one (x_ret (x_gt (x_gcd T.gcd (xa_cons (x_var 0) (xa_cons (x_var 1) xa_nil))) x_int))), ?_⟩
  clear nd hu hr
  intro ds R hl h
  obtain ⟨a, b, rfl, hR⟩ := h
  refine (show (_ : PL.WS) [Sl.dat _, Sl.dat _] _ from ?_)
  try simp only [wSeq, wIfS, wTV, w2, w3, wCall, wCallS, wCons, wNil, wVar, wC, fI, fI0, fLen, fStr, f1I, f2I, wRet, wNext, wSet, wSetO, wAsg, wN, wGNil, wGCons, wGTup, wTup, wLst, wMNil, wMD, wMO, wPar, wPar3, wAug, wISeq, wIR1, wIR2, wApp, wTupOf, wDrop, wNeg, wAnd, wOr, wNot, wAndV, wOrV, wNotV, wIf, wBits, fEq, fNe, fIsN, fNotN, isN, fIsB, frz, wYes, wSlT, wSlL, wNP, wPt, wRevL, wCatL, fCatT, wBor, frzAt, wipeE, List.map_cons, List.map_nil, List.getElem?_cons_zero, List.getElem?_cons_succ, List.set_cons_zero, List.set_cons_succ, Bool.not_true, Bool.not_false]
  exact hR
theorem sc_is_of : FnScope ["base", "number"] ["base", "number"] (defScope s_is_of) := ⟨rfl, rfl, rfl, by decide +kernel, rfl, by decide +kernel, by decide +kernel⟩
theorem d_is_of (T : Tx K mg) : DefP P w K mg base 2 "is_of" false 2 wf_is_of := by
  refine def_ok T.at_is_of sc_is_of rfl (fun _ _ _ _ _ _ us hl => match us, hl with | [_, _], _ => rfl) (fun f cdv A outer s H E hr => ?_)
  have nd := sc_is_of.nd
  have hu := hr.units
  refine ⟨_, _, (xs_one (x_ret (x_not (x_call (d_shares T) (hr.mono (by decide)) (xa_cons (x_ix (x_var 1) x_int) (xa_cons (x_var 0) xa_nil)))))), ?_⟩
  clear nd hu hr
  intro ds R hl h
  obtain ⟨B, x, rfl, hR⟩ := h
  refine (show (_ : PL.WS) [Sl.dat _, Sl.dat _] _ from ?_)
  try simp only [wSeq, wIfS, wTV, w2, w3, wCall, wCallS, wCons, wNil, wVar, wC, fI, fI0, fLen, fStr, f1I, f2I, wRet, wNext, wSet, wSetO, wAsg, wN, wGNil, wGCons, wGTup, wTup, wLst, wMNil, wMD, wMO, wPar, wPar3, wAug, wISeq, wIR1, wIR2, wApp, wTupOf, wDrop, wNeg, wAnd, wOr, wNot, wAndV, wOrV, wNotV, wIf, wBits, fEq, fNe, fIsN, fNotN, isN, fIsB, frz, wYes, wSlT, wSlL, wNP, wPt, wRevL, wCatL, fCatT, wBor, frzAt, wipeE, List.map_cons, List.map_nil, List.getElem?_cons_zero, List.getElem?_cons_succ, List.set_cons_zero, List.set_cons_succ, Bool.not_true, Bool.not_false]
  refine ⟨_, rfl, _, _, rfl, ?_⟩
  try simp only [wSeq, wIfS, wTV, w2, w3, wCall, wCallS, wCons, wNil, wVar, wC, fI, fI0, fLen, fStr, f1I, f2I, wRet, wNext, wSet, wSetO, wAsg, wN, wGNil, wGCons, wGTup, wTup, wLst, wMNil, wMD, wMO, wPar, wPar3, wAug, wISeq, wIR1, wIR2, wApp, wTupOf, wDrop, wNeg, wAnd, wOr, wNot, wAndV, wOrV, wNotV, wIf, wBits, fEq, fNe, fIsN, fNotN, isN, fIsB, frz, wYes, wSlT, wSlL, wNP, wPt, wRevL, wCatL, fCatT, wBor, frzAt, wipeE, List.map_cons, List.map_nil, List.getElem?_cons_zero, List.getElem?_cons_succ, List.set_cons_zero, List.set_cons_succ, Bool.not_true, Bool.not_false]
  exact hR
theorem sc_number_let : FnScope ["base", "number"] ["base", "number"] (defScope s_number_let) := ⟨rfl, rfl, rfl, by decide +kernel, rfl, by decide +kernel, by decide +kernel⟩
theorem d_number_let (T : Tx K mg) : DefP P w K mg base 3 "number_let" false 2 wf_number_let := by
  refine def_ok T.at_number_let sc_number_let rfl (fun _ _ _ _ _ _ us hl => match us, hl with | [_, _], _ => rfl) (fun f cdv A outer s H E hr => ?_)
  have nd := sc_number_let.nd
  have hu := hr.units
  refine ⟨_, _, (xs_cons (x_ifS (xt_not (xt_val (x_call (d_is_of T) (hr.mono (by decide)) (xa_cons (x_var 0) (xa_cons (x_var 1) xa_nil))))) (xs_one x_never) xs_nil) (xs_one (x_ret (x_var 1)))), ?_⟩
  clear nd hu hr
  intro ds R hl h
  obtain ⟨B, x, rfl, hc, hR⟩ := h
  refine (show (_ : PL.WS) [Sl.dat _, Sl.dat _] _ from ?_)
  try simp only [wSeq, wIfS, wTV, w2, w3, wCall, wCallS, wCons, wNil, wVar, wC, fI, fI0, fLen, fStr, f1I, f2I, wRet, wNext, wSet, wSetO, wAsg, wN, wGNil, wGCons, wGTup, wTup, wLst, wMNil, wMD, wMO, wPar, wPar3, wAug, wISeq, wIR1, wIR2, wApp, wTupOf, wDrop, wNeg, wAnd, wOr, wNot, wAndV, wOrV, wNotV, wIf, wBits, fEq, fNe, fIsN, fNotN, isN, fIsB, frz, wYes, wSlT, wSlL, wNP, wPt, wRevL, wCatL, fCatT, wBor, frzAt, wipeE, List.map_cons, List.map_nil, List.getElem?_cons_zero, List.getElem?_cons_succ, List.set_cons_zero, List.set_cons_succ, Bool.not_true, Bool.not_false]
  refine ⟨_, _, rfl, ?_⟩
  rw [hc]
  exact hR
theorem sc_power_made : FnScope ["base", "many", "found", "here"] ["base", "many"] (defScope s_power_made) := ⟨rfl, rfl, rfl, by decide +kernel, rfl, by decide +kernel, by decide +kernel⟩
theorem d_power_made (T : Tx K mg) : DefP P w K mg base 2 "power_made" false 2 wf_power_made := by
  refine def_ok T.at_power_made sc_power_made rfl (fun _ _ _ _ _ _ us hl => match us, hl with | [_, _], _ => rfl) (fun f cdv A outer s H E hr => ?_)
  have nd := sc_power_made.nd
  have hu := hr.units
  refine ⟨_, _, (xs_cons (x_par 2 3 (xm_dat x_int (xm_dat (x_var 0) xm_nil)) nd) (xs_cons (x_while (xt_gt (x_var 1) x_int) (xs_cons (x_ifS (xt_eq hu (x_mod (x_var 1) x_int) x_int) (xs_one (x_set 2 (x_call (d_not_long T) (hr.mono (by decide)) (xa_cons (x_mul (x_var 2) (x_var 3)) xa_nil)) nd)) xs_nil) (xs_cons (x_aug 1 x_int ip_divW rel_ipD nd) (xs_one (x_set 3 (x_if (xt_gt (x_var 1) x_int) (x_call (d_not_long T) (hr.mono (by decide)) (xa_cons (x_mul (x_var 3) (x_var 3)) xa_nil)) (x_var 3)) nd))))) (xs_one (x_ret (x_var 2))))), ?_⟩
  clear nd hu hr
  intro ds R hl h
  obtain ⟨B, n, rfl, hB, hbig, hR⟩ := h
  refine (show (_ : PL.WS) [Sl.dat _, Sl.dat _, Sl.no, Sl.no] _ from ?_)
  try simp only [wSeq, wIfS, wTV, w2, w3, wCall, wCallS, wCons, wNil, wVar, wC, fI, fI0, fLen, fStr, f1I, f2I, wRet, wNext, wSet, wSetO, wAsg, wN, wGNil, wGCons, wGTup, wTup, wLst, wMNil, wMD, wMO, wPar, wPar3, wAug, wISeq, wIR1, wIR2, wApp, wTupOf, wDrop, wNeg, wAnd, wOr, wNot, wAndV, wOrV, wNotV, wIf, wBits, fEq, fNe, fIsN, fNotN, isN, fIsB, frz, wYes, wSlT, wSlL, wNP, wPt, wRevL, wCatL, fCatT, wBor, frzAt, wipeE, List.map_cons, List.map_nil, List.getElem?_cons_zero, List.getElem?_cons_succ, List.set_cons_zero, List.set_cons_succ, Bool.not_true, Bool.not_false]
  refine ⟨fun m ρ => ∃ f h : Nat, ρ = [Sl.dat (.int B), Sl.dat (.int (m : Nat)), Sl.dat (.int f), Sl.dat (.int h)] ∧ f * h ^ m = B ^ n ∧ 1 ≤ f ∧ 1 ≤ h, ⟨n, 1, B, rfl, by rw [Nat.one_mul], Nat.le_refl _, hB⟩, ?_⟩
  rintro m ρ ⟨f, h, rfl, e, hf, hh⟩
  try simp only [wSeq, wIfS, wTV, w2, w3, wCall, wCallS, wCons, wNil, wVar, wC, fI, fI0, fLen, fStr, f1I, f2I, wRet, wNext, wSet, wSetO, wAsg, wN, wGNil, wGCons, wGTup, wTup, wLst, wMNil, wMD, wMO, wPar, wPar3, wAug, wISeq, wIR1, wIR2, wApp, wTupOf, wDrop, wNeg, wAnd, wOr, wNot, wAndV, wOrV, wNotV, wIf, wBits, fEq, fNe, fIsN, fNotN, isN, fIsB, frz, wYes, wSlT, wSlL, wNP, wPt, wRevL, wCatL, fCatT, wBor, frzAt, wipeE, List.map_cons, List.map_nil, List.getElem?_cons_zero, List.getElem?_cons_succ, List.set_cons_zero, List.set_cons_succ, Bool.not_true, Bool.not_false]
  by_cases hm : 0 < m
  · rw [decide_eq_true (by omega : (0 : Int) < (m : Int))]
    have hp : ∀ j : Nat, 1 ≤ h ^ j := fun j => Nat.one_le_pow _ _ hh
    have c1 : ((m : Int) % 2) = ((m % 2 : Nat) : Int) := by omega
    have c2 : ((m : Int) / 2) = ((m / 2 : Nat) : Int) := by omega
    have hsq : 0 < m / 2 → (h * h) ^ (m / 2) * h ^ (m % 2) = h ^ m := fun _ => by
      rw [← Nat.pow_two, ← Nat.pow_mul, ← Nat.pow_add, Nat.div_add_mod]
    have hfh : f * h ≤ B ^ n := by
      rw [← e]
      obtain ⟨j, rfl⟩ : ∃ j, m = j + 1 := ⟨m - 1, by omega⟩
      rw [Nat.pow_succ, Nat.mul_comm (h ^ j) h, ← Nat.mul_assoc]
      exact Nat.le_mul_of_pos_right _ (hp j)
    have hf2 : f ≤ f * h := Nat.le_mul_of_pos_right _ hh
    have hh2 : h ≤ f * h := Nat.le_mul_of_pos_left _ hf
    have hhh : 0 < m / 2 → h * h ≤ B ^ n := fun hm2 => by
      rw [← e]
      obtain ⟨j, rfl⟩ : ∃ j, m = j + 2 := ⟨m - 2, by omega⟩
      have : h * h ≤ h ^ (j + 2) := by
        rw [Nat.pow_succ, Nat.pow_succ, Nat.mul_assoc]
        exact Nat.le_mul_of_pos_left _ (hp j)
      exact Nat.le_trans this (Nat.le_mul_of_pos_left _ hf)
    -- behind the halving: what is left
    have tail : ∀ f' : Nat, 1 ≤ f' → (0 < m / 2 → f' * (h * h) ^ (m / 2) = B ^ n) → (m / 2 = 0 → f' = B ^ n) → (match decide ((0 : Int) < ((m / 2 : Nat) : Int)) with
        | true => MulOk (h : Int) h ∧ wf_not_long [.int ((h : Int) * h)] fun d => ∃ m', m' < m ∧ ∃ f2 h2 : Nat, [Sl.dat (PyData.int B), Sl.dat (.int ((m / 2 : Nat) : Int)), Sl.dat (.int f'), Sl.dat d] = [Sl.dat (.int B), Sl.dat (.int (m' : Nat)), Sl.dat (.int f2), Sl.dat (.int h2)] ∧ f2 * h2 ^ m' = B ^ n ∧ 1 ≤ f2 ∧ 1 ≤ h2
        | false => ∃ m', m' < m ∧ ∃ f2 h2 : Nat, [Sl.dat (PyData.int B), Sl.dat (.int ((m / 2 : Nat) : Int)), Sl.dat (.int f'), Sl.dat (.int h)] = [Sl.dat (.int B), Sl.dat (.int (m' : Nat)), Sl.dat (.int f2), Sl.dat (.int h2)] ∧ f2 * h2 ^ m' = B ^ n ∧ 1 ≤ f2 ∧ 1 ≤ h2) := fun f' h0 h1 h2 => by
      by_cases hm2 : 0 < m / 2
      · rw [decide_eq_true (by omega : (0 : Int) < ((m / 2 : Nat) : Int))]
        have := hhh hm2
        have hsz : h < Big := by omega
        refine ⟨mulOk (by omega) (by omega), _, rfl, ?_, m / 2, by omega, f', h * h, by rw [Int.natCast_mul], h1 hm2, h0, Nat.mul_le_mul hh hh⟩
        rw [← Int.natCast_mul, Int.natAbs_natCast]
        omega
      · rw [decide_eq_false (by omega)]
        refine ⟨m / 2, by omega, f', h, rfl, ?_, h0, hh⟩
        rw [show m / 2 = 0 by omega, Nat.pow_zero, Nat.mul_one]
        exact h2 (by omega)
    refine ⟨by decide, rfl, rfl, ?_⟩
    rw [c1, c2]
    by_cases hodd : m % 2 = 1
    · have ee : PyData.eqv (.int ((m % 2 : Nat) : Int)) (.int 1) = true := by simp only [PyData.eqv, beq_iff_eq]; omega
      rw [ee]
      refine ⟨mulOk (by omega) (by omega), _, rfl, ?_, divOk (by decide) (by unfold Big; decide +kernel), ?_⟩
      · rw [← Int.natCast_mul, Int.natAbs_natCast]; omega
      · rw [← Int.natCast_mul]
        refine tail (f * h) (Nat.mul_le_mul hf hh) (fun hm2 => ?_) fun hm2 => ?_
        · rw [← e, ← hsq hm2, hodd, Nat.pow_one]
          grind
        · rw [← e, show m = 1 by omega, Nat.pow_one]
    · have ee : PyData.eqv (.int ((m % 2 : Nat) : Int)) (.int 1) = false := by simp only [PyData.eqv, beq_eq_false_iff_ne]; omega
      rw [ee]
      refine ⟨divOk (by decide) (by unfold Big; decide +kernel), ?_⟩
      refine tail f hf (fun hm2 => ?_) fun hm2 => ?_
      · rw [← e, ← hsq hm2, show m % 2 = 0 by omega, Nat.pow_zero, Nat.mul_one]
      · omega
  · rw [decide_eq_false (by omega)]
    have : m = 0 := by omega
    subst this
    rw [Nat.pow_zero, Nat.mul_one] at e
    show R (.int f)
    rw [e]
    exact hR
theorem euclid_step {o t m : Int} {l r q : Int} (ht : 0 < t) (hq : 0 ≤ q) (h : l.natAbs * t.natAbs + r.natAbs * o.natAbs ≤ m.natAbs) (ho : o = q * t + (o - q * t)) (h2 : 0 ≤ o - q * t) (ho0 : 0 ≤ o) :
    r.natAbs * (o - q * t).natAbs + (l - q * r).natAbs * t.natAbs ≤ m.natAbs := by
  have e1 : (l - q * r).natAbs ≤ l.natAbs + q.natAbs * r.natAbs := by
    have := Int.natAbs_sub_le l (q * r)
    rwa [Int.natAbs_mul] at this
  have e2 : o.natAbs = q.natAbs * t.natAbs + (o - q * t).natAbs := by
    have : (o.natAbs : Int) = q.natAbs * t.natAbs + (o - q * t).natAbs := by
      rw [Int.natAbs_of_nonneg ho0, Int.natAbs_of_nonneg hq, Int.natAbs_of_nonneg (by omega : 0 ≤ t), Int.natAbs_of_nonneg h2]
      omega
    exact_mod_cast this
  have e3 : (l - q * r).natAbs * t.natAbs ≤ (l.natAbs + q.natAbs * r.natAbs) * t.natAbs := Nat.mul_le_mul_right _ e1
  rw [e2] at h
  generalize (o - q * t).natAbs = z at *
  generalize (l - q * r).natAbs = u at *
  have : r.natAbs * z + (l.natAbs + q.natAbs * r.natAbs) * t.natAbs = l.natAbs * t.natAbs + r.natAbs * (q.natAbs * t.natAbs + z) := by grind
  omega
theorem sc_undone_told : FnScope ["number", "many", "one", "other", "left", "right", "often"] ["number", "many"] (defScope s_undone_told) := ⟨rfl, rfl, rfl, by decide +kernel, rfl, by decide +kernel, by decide +kernel⟩
theorem d_undone_told (T : Tx K mg) : DefP P w K mg base 2 "undone_told" false 2 wf_undone_told := by
  refine def_ok T.at_undone_told sc_undone_told rfl (fun _ _ _ _ _ _ us hl => match us, hl with | [_, _], _ => rfl) (fun f cdv A outer s H E hr => ?_)
  have nd := sc_undone_told.nd
  have hu := hr.units
  refine ⟨_, _, (xs_cons (x_ifS (xt_val (x_call (d_shares T) (hr.mono (by decide)) (xa_cons (x_var 0) (xa_cons (x_var 1) xa_nil)))) (xs_one x_never) xs_nil) (xs_cons (x_asg (x_tup (xa_cons (x_tup (xa_cons (x_mod (x_var 0) (x_var 1)) (xa_cons (x_var 1) xa_nil))) (xa_cons (x_tup (xa_cons x_int (xa_cons x_int xa_nil))) xa_nil))) (xg_tup (xgs_cons (xg_tup (xgs_cons (xg_name 2 nd) (xgs_cons (xg_name 3 nd) xgs_nil))) (xgs_cons (xg_tup (xgs_cons (xg_name 4 nd) (xgs_cons (xg_name 5 nd) xgs_nil))) xgs_nil)))) (xs_cons (x_while (xt_ne hu (x_var 3) x_int) (xs_cons (x_set 6 (x_div (x_var 2) (x_var 3)) nd) (xs_one (x_asg (x_tup (xa_cons (x_tup (xa_cons (x_var 3) (xa_cons (x_sub (x_var 2) (x_mul (x_var 6) (x_var 3))) xa_nil))) (xa_cons (x_tup (xa_cons (x_var 5) (xa_cons (x_sub (x_var 4) (x_mul (x_var 6) (x_var 5))) xa_nil))) xa_nil))) (xg_tup (xgs_cons (xg_tup (xgs_cons (xg_name 2 nd) (xgs_cons (xg_name 3 nd) xgs_nil))) (xgs_cons (xg_tup (xgs_cons (xg_name 4 nd) (xgs_cons (xg_name 5 nd) xgs_nil))) xgs_nil))))))) (xs_one (x_ret (x_mod (x_var 4) (x_var 1))))))), ?_⟩
  clear nd hu hr
  intro ds R hl h
  obtain ⟨n, m, rfl, hm1, hmb, hc, hR⟩ := h
  refine (show (_ : PL.WS) [Sl.dat _, Sl.dat _, Sl.no, Sl.no, Sl.no, Sl.no, Sl.no] _ from ?_)
  try simp only [wSeq, wIfS, wTV, w2, w3, wCall, wCallS, wCons, wNil, wVar, wC, fI, fI0, fLen, fStr, f1I, f2I, wRet, wNext, wSet, wSetO, wAsg, wN, wGNil, wGCons, wGTup, wTup, wLst, wMNil, wMD, wMO, wPar, wPar3, wAug, wISeq, wIR1, wIR2, wApp, wTupOf, wDrop, wNeg, wAnd, wOr, wNot, wAndV, wOrV, wNotV, wIf, wBits, fEq, fNe, fIsN, fNotN, isN, fIsB, frz, wYes, wSlT, wSlL, wNP, wPt, wRevL, wCatL, fCatT, wBor, frzAt, wipeE, List.map_cons, List.map_nil, List.getElem?_cons_zero, List.getElem?_cons_succ, List.set_cons_zero, List.set_cons_succ, Bool.not_true, Bool.not_false]
  refine ⟨n, m, rfl, ?_⟩
  rw [hc]
  try simp only [wSeq, wIfS, wTV, w2, w3, wCall, wCallS, wCons, wNil, wVar, wC, fI, fI0, fLen, fStr, f1I, f2I, wRet, wNext, wSet, wSetO, wAsg, wN, wGNil, wGCons, wGTup, wTup, wLst, wMNil, wMD, wMO, wPar, wPar3, wAug, wISeq, wIR1, wIR2, wApp, wTupOf, wDrop, wNeg, wAnd, wOr, wNot, wAndV, wOrV, wNotV, wIf, wBits, fEq, fNe, fIsN, fNotN, isN, fIsB, frz, wYes, wSlT, wSlL, wNP, wPt, wRevL, wCatL, fCatT, wBor, frzAt, wipeE, List.map_cons, List.map_nil, List.getElem?_cons_zero, List.getElem?_cons_succ, List.set_cons_zero, List.set_cons_succ, Bool.not_true, Bool.not_false]
  have hm0 : (0 : Int) < m := by omega
  have i0 := Int.emod_nonneg n (show (m : Int) ≠ 0 by omega)
  have i1 := Int.emod_lt_of_pos n hm0
  refine ⟨by omega, rfl, rfl, rfl, fun k ρ => ∃ (o t l r : Int) (s : Sl), ρ = [Sl.dat (.int n), Sl.dat (.int m), Sl.dat (.int o), Sl.dat (.int t), Sl.dat (.int l), Sl.dat (.int r), s] ∧ k = t.toNat ∧ 0 ≤ o ∧ 0 ≤ t ∧ o ≤ m ∧ t ≤ m ∧ Int.gcd o t = 1 ∧ (m : Int) ∣ n * l - o ∧ (m : Int) ∣ n * r - t ∧
    l.natAbs * t.natAbs + r.natAbs * o.natAbs ≤ m ∧ l.natAbs ≤ m ∧ r.natAbs ≤ m, ⟨_, n % m, m, 1, 0, .no, rfl, rfl, i0, by omega, by omega, by omega, ?_, ?_, ?_, ?_, by omega, by omega⟩, ?_⟩
  · have e := Int.mul_ediv_add_emod n m
    rw [show n % (m : Int) = n - n / m * m by rw [Int.mul_comm]; omega]
    exact cop_less _ hc
  · refine ⟨n / m, ?_⟩
    have := Int.mul_ediv_add_emod n m
    omega
  · exact ⟨-1, by omega⟩
  · simp
  · rintro k ρ ⟨o, t, l, r, s, rfl, rfl, ho, ht, hom, htm, hg, d1, d2, hs, hl', hr'⟩
    try simp only [wSeq, wIfS, wTV, w2, w3, wCall, wCallS, wCons, wNil, wVar, wC, fI, fI0, fLen, fStr, f1I, f2I, wRet, wNext, wSet, wSetO, wAsg, wN, wGNil, wGCons, wGTup, wTup, wLst, wMNil, wMD, wMO, wPar, wPar3, wAug, wISeq, wIR1, wIR2, wApp, wTupOf, wDrop, wNeg, wAnd, wOr, wNot, wAndV, wOrV, wNotV, wIf, wBits, fEq, fNe, fIsN, fNotN, isN, fIsB, frz, wYes, wSlT, wSlL, wNP, wPt, wRevL, wCatL, fCatT, wBor, frzAt, wipeE, List.map_cons, List.map_nil, List.getElem?_cons_zero, List.getElem?_cons_succ, List.set_cons_zero, List.set_cons_succ, Bool.not_true, Bool.not_false]
    refine ⟨rfl, rfl, ?_⟩
    by_cases h0 : t = 0
    · subst h0
      rw [show (!PyData.eqv (.int 0) (.int 0)) = false by rfl]
      have ho1 : o = 1 := by
        rw [Int.gcd_zero_right] at hg
        omega
      subst ho1
      have j0 := Int.emod_nonneg l (show (m : Int) ≠ 0 by omega)
      have j1 := Int.emod_lt_of_pos l hm0
      show 0 < (m : Int) ∧ R (.int (l % m))
      refine ⟨hm0, hR _ j0 j1 ?_⟩
      have e := Int.mul_ediv_add_emod l (m : Int)
      have : n * (l % (m : Int)) - 1 = n * l - 1 - m * (n * (l / m)) := by
        have : l % (m : Int) = l - m * (l / m) := by omega
        rw [this]
        grind
      rw [this]
      exact Int.dvd_sub d1 (Int.dvd_mul_right _ _)
    · have ee : PyData.eqv (.int t) (.int 0) = false := by simp only [PyData.eqv, beq_eq_false_iff_ne]; omega
      rw [ee]
      try simp only [wSeq, wIfS, wTV, w2, w3, wCall, wCallS, wCons, wNil, wVar, wC, fI, fI0, fLen, fStr, f1I, f2I, wRet, wNext, wSet, wSetO, wAsg, wN, wGNil, wGCons, wGTup, wTup, wLst, wMNil, wMD, wMO, wPar, wPar3, wAug, wISeq, wIR1, wIR2, wApp, wTupOf, wDrop, wNeg, wAnd, wOr, wNot, wAndV, wOrV, wNotV, wIf, wBits, fEq, fNe, fIsN, fNotN, isN, fIsB, frz, wYes, wSlT, wSlL, wNP, wPt, wRevL, wCatL, fCatT, wBor, frzAt, wipeE, List.map_cons, List.map_nil, List.getElem?_cons_zero, List.getElem?_cons_succ, List.set_cons_zero, List.set_cons_succ, Bool.not_true, Bool.not_false]
      have hq0 : 0 ≤ o / t := Int.ediv_nonneg ho (by omega)
      have hqe := Int.mul_ediv_add_emod o t
      have r0 := Int.emod_nonneg o (show t ≠ 0 by omega)
      have r1 := Int.emod_lt_of_pos o (show 0 < t by omega)
      have hqm : o / t * t ≤ o := Int.ediv_mul_le o (by omega)
      have hqo : o / t ≤ o := by
        have : o / t * 1 ≤ o / t * t := Int.mul_le_mul_of_nonneg_left (by omega) hq0
        omega
      have hmod : o - o / t * t = o % t := by rw [Int.mul_comm]; omega
      refine ⟨divOk (by omega) (by omega), mulOk (by omega) (by omega), mulOk (by omega) (by omega), rfl, rfl, rfl, _, ?_, t, _, r, _, _, rfl, rfl, by omega, by rw [hmod]; exact r0, htm, by rw [hmod]; omega, ?_, d2, ?_, ?_, hr', ?_⟩
      · rw [hmod]; omega
      · rw [Int.gcd_comm]
        exact cop_less _ hg
      · have : n * (l - o / t * r) - (o - o / t * t) = (n * l - o) - (n * r - t) * (o / t) := by grind
        rw [this]
        exact Int.dvd_sub d1 (Int.dvd_trans d2 (Int.dvd_mul_right _ _))
      · have := euclid_step (o := o) (t := t) (l := l) (r := r) (m := m) (by omega) hq0 (by rw [Int.natAbs_natCast]; exact hs) (by omega) (by rw [hmod]; exact r0) ho
        rw [Int.natAbs_natCast] at this
        omega
      · have := euclid_step (o := o) (t := t) (l := l) (r := r) (m := m) (by omega) hq0 (by rw [Int.natAbs_natCast]; exact hs) (by omega) (by rw [hmod]; exact r0) ho
        rw [Int.natAbs_natCast] at this
        have h3 : (l - o / t * r).natAbs * 1 ≤ (l - o / t * r).natAbs * t.natAbs := Nat.mul_le_mul_left _ (by omega)
        omega
theorem sc_rest_by : FnScope ["number", "many"] ["number", "many"] (defScope s_rest_by) := ⟨rfl, rfl, rfl, by decide +kernel, rfl, by decide +kernel, by decide +kernel⟩
theorem d_rest_by (T : Tx K mg) : DefP P w K mg base 3 "rest_by" false 2 wf_rest_by := by
  refine def_ok T.at_rest_by sc_rest_by rfl (fun _ _ _ _ _ _ us hl => match us, hl with | [_, _], _ => rfl) (fun f cdv A outer s H E hr => ?_)
  have nd := sc_rest_by.nd
  have hu := hr.units
  refine ⟨_, _, (xs_cons (x_ifS (xt_val (x_call (d_shares T) (hr.mono (by decide)) (xa_cons (x_ix (x_var 0) x_int) (xa_cons (x_var 1) xa_nil)))) (xs_one x_never) xs_nil) (xs_one (x_ret (x_mod (x_mul (x_ix (x_var 0) x_int) (x_call (d_undone_told T) (hr.mono (by decide)) (xa_cons (x_ix (x_var 0) x_int) (xa_cons (x_var 1) xa_nil)))) (x_var 1))))), ?_⟩
  clear nd hu hr
  intro ds R hl h
  obtain ⟨x, m, rfl, hm1, hmb, hx, hc, hR⟩ := h
  refine (show (_ : PL.WS) [Sl.dat _, Sl.dat _] _ from ?_)
  try simp only [wSeq, wIfS, wTV, w2, w3, wCall, wCallS, wCons, wNil, wVar, wC, fI, fI0, fLen, fStr, f1I, f2I, wRet, wNext, wSet, wSetO, wAsg, wN, wGNil, wGCons, wGTup, wTup, wLst, wMNil, wMD, wMO, wPar, wPar3, wAug, wISeq, wIR1, wIR2, wApp, wTupOf, wDrop, wNeg, wAnd, wOr, wNot, wAndV, wOrV, wNotV, wIf, wBits, fEq, fNe, fIsN, fNotN, isN, fIsB, frz, wYes, wSlT, wSlL, wNP, wPt, wRevL, wCatL, fCatT, wBor, frzAt, wipeE, List.map_cons, List.map_nil, List.getElem?_cons_zero, List.getElem?_cons_succ, List.set_cons_zero, List.set_cons_succ, Bool.not_true, Bool.not_false, encF]
  refine ⟨_, rfl, x.2, m, rfl, ?_⟩
  rw [hc]
  try simp only [wSeq, wIfS, wTV, w2, w3, wCall, wCallS, wCons, wNil, wVar, wC, fI, fI0, fLen, fStr, f1I, f2I, wRet, wNext, wSet, wSetO, wAsg, wN, wGNil, wGCons, wGTup, wTup, wLst, wMNil, wMD, wMO, wPar, wPar3, wAug, wISeq, wIR1, wIR2, wApp, wTupOf, wDrop, wNeg, wAnd, wOr, wNot, wAndV, wOrV, wNotV, wIf, wBits, fEq, fNe, fIsN, fNotN, isN, fIsB, frz, wYes, wSlT, wSlL, wNP, wPt, wRevL, wCatL, fCatT, wBor, frzAt, wipeE, List.map_cons, List.map_nil, List.getElem?_cons_zero, List.getElem?_cons_succ, List.set_cons_zero, List.set_cons_succ, Bool.not_true, Bool.not_false]
  refine ⟨_, rfl, _, rfl, x.2, m, rfl, hm1, hmb, hc, fun u u0 u1 hu => ?_⟩
  try simp only [wSeq, wIfS, wTV, w2, w3, wCall, wCallS, wCons, wNil, wVar, wC, fI, fI0, fLen, fStr, f1I, f2I, wRet, wNext, wSet, wSetO, wAsg, wN, wGNil, wGCons, wGTup, wTup, wLst, wMNil, wMD, wMO, wPar, wPar3, wAug, wISeq, wIR1, wIR2, wApp, wTupOf, wDrop, wNeg, wAnd, wOr, wNot, wAndV, wOrV, wNotV, wIf, wBits, fEq, fNe, fIsN, fNotN, isN, fIsB, frz, wYes, wSlT, wSlL, wNP, wPt, wRevL, wCatL, fCatT, wBor, frzAt, wipeE, List.map_cons, List.map_nil, List.getElem?_cons_zero, List.getElem?_cons_succ, List.set_cons_zero, List.set_cons_succ, Bool.not_true, Bool.not_false]
  have hm0 : (0 : Int) < m := by omega
  refine ⟨mulOk hx (by omega), hm0, ?_⟩
  have j0 := Int.emod_nonneg (x.1 * u) (show (m : Int) ≠ 0 by omega)
  have j1 := Int.emod_lt_of_pos (x.1 * u) hm0
  have e : digN m x = (x.1 * u % m).toNat := by
    refine dig_eq hc (by omega) ?_
    rw [Int.toNat_of_nonneg j0]
    have e1 := Int.mul_ediv_add_emod (x.1 * u) (m : Int)
    have e2 : x.1 * u % (m : Int) = x.1 * u - m * (x.1 * u / m) := by omega
    obtain ⟨k, hk⟩ := hu
    refine ⟨x.1 * u / m * x.2 - x.1 * k, ?_⟩
    rw [e2]
    grind
  rw [e, Int.toNat_of_nonneg j0] at hR
  exact hR
theorem sc_rest_told : FnScope ["base", "number", "many"] ["base", "number", "many"] (defScope s_rest_told) := ⟨rfl, rfl, rfl, by decide +kernel, rfl, by decide +kernel, by decide +kernel⟩
theorem d_rest_told (T : Tx K mg) : DefP P w K mg base 4 "rest_told" false 3 wf_rest_told := by
  refine def_ok T.at_rest_told sc_rest_told rfl (fun _ _ _ _ _ _ us hl => match us, hl with | [_, _, _], _ => rfl) (fun f cdv A outer s H E hr => ?_)
  have nd := sc_rest_told.nd
  have hu := hr.units
  refine ⟨_, _, (xs_cons (x_expr (x_call (d_number_let T) (hr.mono (by decide)) (xa_cons (x_var 0) (xa_cons (x_var 1) xa_nil)))) (xs_one (x_ret (x_call (d_rest_by T) (hr.mono (by decide)) (xa_cons (x_var 1) (xa_cons (x_call (d_power_made T) (hr.mono (by decide)) (xa_cons (x_var 0) (xa_cons (x_var 2) xa_nil))) xa_nil)))))), ?_⟩
  clear nd hu hr
  intro ds R hl h
  obtain ⟨B, x, n, rfl, h1, h2, h3, hc, hR⟩ := h
  refine (show (_ : PL.WS) [Sl.dat _, Sl.dat _, Sl.dat _] _ from ?_)
  try simp only [wSeq, wIfS, wTV, w2, w3, wCall, wCallS, wCons, wNil, wVar, wC, fI, fI0, fLen, fStr, f1I, f2I, wRet, wNext, wSet, wSetO, wAsg, wN, wGNil, wGCons, wGTup, wTup, wLst, wMNil, wMD, wMO, wPar, wPar3, wAug, wISeq, wIR1, wIR2, wApp, wTupOf, wDrop, wNeg, wAnd, wOr, wNot, wAndV, wOrV, wNotV, wIf, wBits, fEq, fNe, fIsN, fNotN, isN, fIsB, frz, wYes, wSlT, wSlL, wNP, wPt, wRevL, wCatL, fCatT, wBor, frzAt, wipeE, List.map_cons, List.map_nil, List.getElem?_cons_zero, List.getElem?_cons_succ, List.set_cons_zero, List.set_cons_succ, Bool.not_true, Bool.not_false]
  refine ⟨_, _, rfl, hc, B, n, rfl, h1, h2, x, B ^ n, rfl, Nat.one_le_pow _ _ h1, h2, h3, ?_, hR⟩
  rw [Int.natCast_pow]
  exact cop_pow hc n
theorem sc_last_digit : FnScope ["base", "number"] ["base", "number"] (defScope s_last_digit) := ⟨rfl, rfl, rfl, by decide +kernel, rfl, by decide +kernel, by decide +kernel⟩
theorem d_last_digit (T : Tx K mg) : DefP P w K mg base 4 "last_digit" false 2 wf_last_digit := by
  refine def_ok T.at_last_digit sc_last_digit rfl (fun _ _ _ _ _ _ us hl => match us, hl with | [_, _], _ => rfl) (fun f cdv A outer s H E hr => ?_)
  have nd := sc_last_digit.nd
  have hu := hr.units
  refine ⟨_, _, (xs_one (x_ret (x_call (d_rest_by T) (hr.mono (by decide)) (xa_cons (x_var 1) (xa_cons (x_var 0) xa_nil))))), ?_⟩
  clear nd hu hr
  intro ds R hl h
  obtain ⟨B, x, rfl, h1, h2, h3, hc, hR⟩ := h
  refine (show (_ : PL.WS) [Sl.dat _, Sl.dat _] _ from ?_)
  try simp only [wSeq, wIfS, wTV, w2, w3, wCall, wCallS, wCons, wNil, wVar, wC, fI, fI0, fLen, fStr, f1I, f2I, wRet, wNext, wSet, wSetO, wAsg, wN, wGNil, wGCons, wGTup, wTup, wLst, wMNil, wMD, wMO, wPar, wPar3, wAug, wISeq, wIR1, wIR2, wApp, wTupOf, wDrop, wNeg, wAnd, wOr, wNot, wAndV, wOrV, wNotV, wIf, wBits, fEq, fNe, fIsN, fNotN, isN, fIsB, frz, wYes, wSlT, wSlL, wNP, wPt, wRevL, wCatL, fCatT, wBor, frzAt, wipeE, List.map_cons, List.map_nil, List.getElem?_cons_zero, List.getElem?_cons_succ, List.set_cons_zero, List.set_cons_succ, Bool.not_true, Bool.not_false]
  exact ⟨x, B, rfl, h1, h2, h3, hc, hR⟩
theorem sc_number_next : FnScope ["base", "number"] ["base", "number"] (defScope s_number_next) := ⟨rfl, rfl, rfl, by decide +kernel, rfl, by decide +kernel, by decide +kernel⟩
theorem d_number_next (T : Tx K mg) : DefP P w K mg base 5 "number_next" false 2 wf_number_next := by
  refine def_ok T.at_number_next sc_number_next rfl (fun _ _ _ _ _ _ us hl => match us, hl with | [_, _], _ => rfl) (fun f cdv A outer s H E hr => ?_)
  have nd := sc_number_next.nd
  have hu := hr.units
  refine ⟨_, _, (xs_one (x_ret (x_call (d_number_told T) (hr.mono (by decide)) (xa_cons (x_sub (x_ix (x_var 1) x_int) (x_mul (x_call (d_last_digit T) (hr.mono (by decide)) (xa_cons (x_var 0) (xa_cons (x_var 1) xa_nil))) (x_ix (x_var 1) x_int))) (xa_cons (x_mul (x_ix (x_var 1) x_int) (x_var 0)) xa_nil))))), ?_⟩
  clear nd hu hr
  intro ds R hl h
  obtain ⟨B, x, rfl, hB, hB9, hx, hc, h1, h2, hR⟩ := h
  have hBb : B < Big := small_big (by omega)
  have hd := dig_lt (B := B) (by omega) hc
  refine (show (_ : PL.WS) [Sl.dat _, Sl.dat _] _ from ?_)
  try simp only [wSeq, wIfS, wTV, w2, w3, wCall, wCallS, wCons, wNil, wVar, wC, fI, fI0, fLen, fStr, f1I, f2I, wRet, wNext, wSet, wSetO, wAsg, wN, wGNil, wGCons, wGTup, wTup, wLst, wMNil, wMD, wMO, wPar, wPar3, wAug, wISeq, wIR1, wIR2, wApp, wTupOf, wDrop, wNeg, wAnd, wOr, wNot, wAndV, wOrV, wNotV, wIf, wBits, fEq, fNe, fIsN, fNotN, isN, fIsB, frz, wYes, wSlT, wSlL, wNP, wPt, wRevL, wCatL, fCatT, wBor, frzAt, wipeE, List.map_cons, List.map_nil, List.getElem?_cons_zero, List.getElem?_cons_succ, List.set_cons_zero, List.set_cons_succ, Bool.not_true, Bool.not_false, encF,  fIx]
  refine ⟨_, rfl, B, x, rfl, hB, hBb, hx.t, hc, ?_⟩
  try simp only [wSeq, wIfS, wTV, w2, w3, wCall, wCallS, wCons, wNil, wVar, wC, fI, fI0, fLen, fStr, f1I, f2I, wRet, wNext, wSet, wSetO, wAsg, wN, wGNil, wGCons, wGTup, wTup, wLst, wMNil, wMD, wMO, wPar, wPar3, wAug, wISeq, wIR1, wIR2, wApp, wTupOf, wDrop, wNeg, wAnd, wOr, wNot, wAndV, wOrV, wNotV, wIf, wBits, fEq, fNe, fIsN, fNotN, isN, fIsB, frz, wYes, wSlT, wSlL, wNP, wPt, wRevL, wCatL, fCatT, wBor, frzAt, wipeE, List.map_cons, List.map_nil, List.getElem?_cons_zero, List.getElem?_cons_succ, List.set_cons_zero, List.set_cons_succ, Bool.not_true, Bool.not_false, encF,  fIx]
  exact ⟨_, rfl, mulOkL (by omega) (by omega), _, rfl, mulOk hx.b (by omega), _, _, rfl, Int.mul_pos hx.pos (by omega), h1, h2, hR⟩
theorem sc_rule_told : FnScope ["base", "pairs", "factor", "more"] ["base", "pairs"] (defScope s_rule_told) := ⟨rfl, rfl, rfl, by decide +kernel, rfl, by decide +kernel, by decide +kernel⟩
theorem d_rule_told (T : Tx K mg) : DefP P w K mg base 2 "rule_told" false 2 wf_rule_told := by
  refine def_ok T.at_rule_told sc_rule_told rfl (fun _ _ _ _ _ _ us hl => match us, hl with | [_, _], _ => rfl) (fun f cdv A outer s H E hr => ?_)
  have nd := sc_rule_told.nd
  have hu := hr.units
  refine ⟨_, _, (xs_one (x_ret (x_tup (xa_cons (x_var 0) (xa_cons (x_tupOf T.b_tuple (x_frz (o_lc [("factor", 2), ("more", 3)] nd (xi_seq (x_var 1)) (by show blkC ["base", "pairs", "factor", "more"] (defScope s_rule_told) _ _ = true; decide +kernel) (fun _ _ _ _ _ => (xg_tup (xgs_cons (xg_name 2 nd) (xgs_cons (xg_name 3 nd) xgs_nil)))) (fun _ _ _ _ _ => xts_nil) (fun _ _ _ _ _ => (x_tup (xa_cons (x_call (d_not_long T) (hr.mono (by decide)) (xa_cons (x_var 2) xa_nil)) (xa_cons (x_call (d_not_long T) (hr.mono (by decide)) (xa_cons (x_var 3) xa_nil)) xa_nil))))))) xa_nil))))), ?_⟩
  clear nd hu hr
  intro ds R hl h
  obtain ⟨B, ps, hds, hlen, hsz, hR⟩ := h
  have go : ∀ d : D, (d = .tuple (ps.map encF) ∨ d = .list (ps.map encF)) → wLc (wISeq (wVar 1)) (wGTup (0 + 1 + 1) (wGCons (wN 2) (wGCons (wN 3) wGNil))) wYes (wTup (wCons (wCall wf_not_long (wCons (wVar 2) wNil)) (wCons (wCall wf_not_long (wCons (wVar 3) wNil)) wNil))) [2, 3]
      [Sl.dat (.int B), Sl.dat d, Sl.no, Sl.no] (frz fun d => match d with
        | .list xs => R (.tuple [.int B, .tuple xs])
        | .tuple xs => R (.tuple [.int B, .tuple xs])
        | _ => False) := fun d hd => by
    refine wlc_map (ps.map encF) id (fun Q q => ?_) (by rw [List.length_map]; omega) (fun e he Q q => ?_) ?_
    · rcases hd with rfl | rfl
      · exact q
      · exact q
    · obtain ⟨p, hp, rfl⟩ := List.mem_map.mp he
      obtain ⟨s1, s2⟩ := hsz p hp
      try simp only [wSeq, wIfS, wTV, w2, w3, wCall, wCallS, wCons, wNil, wVar, wC, fI, fI0, fLen, fStr, f1I, f2I, wRet, wNext, wSet, wSetO, wAsg, wN, wGNil, wGCons, wGTup, wTup, wLst, wMNil, wMD, wMO, wPar, wPar3, wAug, wISeq, wIR1, wIR2, wApp, wTupOf, wDrop, wNeg, wAnd, wOr, wNot, wAndV, wOrV, wNotV, wIf, wBits, fEq, fNe, fIsN, fNotN, isN, fIsB, frz, wYes, wSlT, wSlL, wNP, wPt, wRevL, wCatL, fCatT, wBor, frzAt, wipeE, List.map_cons, List.map_nil, List.getElem?_cons_zero, List.getElem?_cons_succ, List.set_cons_zero, List.set_cons_succ, Bool.not_true, Bool.not_false, encF]
      exact ⟨rfl, _, rfl, s1, _, rfl, s2, q⟩
    · rw [List.map_id]
      exact hR
  rcases hds with rfl | rfl
  · refine (show (_ : PL.WS) [Sl.dat _, Sl.dat _, Sl.no, Sl.no] _ from ?_)
    try simp only [wSeq, wIfS, wTV, w2, w3, wCall, wCallS, wCons, wNil, wVar, wC, fI, fI0, fLen, fStr, f1I, f2I, wRet, wNext, wSet, wSetO, wAsg, wN, wGNil, wGCons, wGTup, wTup, wLst, wMNil, wMD, wMO, wPar, wPar3, wAug, wISeq, wIR1, wIR2, wApp, wTupOf, wDrop, wNeg, wAnd, wOr, wNot, wAndV, wOrV, wNotV, wIf, wBits, fEq, fNe, fIsN, fNotN, isN, fIsB, frz, wYes, wSlT, wSlL, wNP, wPt, wRevL, wCatL, fCatT, wBor, frzAt, wipeE, List.map_cons, List.map_nil, List.getElem?_cons_zero, List.getElem?_cons_succ, List.set_cons_zero, List.set_cons_succ, Bool.not_true, Bool.not_false]
    exact go _ (.inl rfl)
  · refine (show (_ : PL.WS) [Sl.dat _, Sl.dat _, Sl.no, Sl.no] _ from ?_)
    try simp only [wSeq, wIfS, wTV, w2, w3, wCall, wCallS, wCons, wNil, wVar, wC, fI, fI0, fLen, fStr, f1I, f2I, wRet, wNext, wSet, wSetO, wAsg, wN, wGNil, wGCons, wGTup, wTup, wLst, wMNil, wMD, wMO, wPar, wPar3, wAug, wISeq, wIR1, wIR2, wApp, wTupOf, wDrop, wNeg, wAnd, wOr, wNot, wAndV, wOrV, wNotV, wIf, wBits, fEq, fNe, fIsN, fNotN, isN, fIsB, frz, wYes, wSlT, wSlL, wNP, wPt, wRevL, wCatL, fCatT, wBor, frzAt, wipeE, List.map_cons, List.map_nil, List.getElem?_cons_zero, List.getElem?_cons_succ, List.set_cons_zero, List.set_cons_succ, Bool.not_true, Bool.not_false]
    exact go _ (.inr rfl)
theorem sc_plain_told : FnScope ["base", "digit"] ["base"] (defScope s_plain_told) := ⟨rfl, rfl, rfl, by decide +kernel, rfl, by decide +kernel, by decide +kernel⟩
theorem d_plain_told (T : Tx K mg) : DefP P w K mg base 1 "plain_told" false 1 wf_plain_told := by
  refine def_ok T.at_plain_told sc_plain_told rfl (fun _ _ _ _ _ _ us hl => match us, hl with | [_], _ => rfl) (fun f cdv A outer s H E hr => ?_)
  have nd := sc_plain_told.nd
  have hu := hr.units
  refine ⟨_, _, (xs_one (x_ret (x_tup (xa_cons (x_var 0) (xa_cons (x_tupOf T.b_tuple (x_frz (o_lc [("digit", 1)] nd (xi_rng1 T.b_range (x_var 0)) (by show blkC ["base", "digit"] (defScope s_plain_told) _ _ = true; decide +kernel) (fun _ _ _ _ _ => (xg_name 1 nd)) (fun _ _ _ _ _ => xts_nil) (fun _ _ _ _ _ => (x_tup (xa_cons x_int (xa_cons (x_neg (x_var 1)) xa_nil))))))) xa_nil))))), ?_⟩
  clear nd hu hr
  intro ds R hl h
  obtain ⟨B, rfl, hB, hR⟩ := h
  refine (show (_ : PL.WS) [Sl.dat _, Sl.no] _ from ?_)
  try simp only [wSeq, wIfS, wTV, w2, w3, wCall, wCallS, wCons, wNil, wVar, wC, fI, fI0, fLen, fStr, f1I, f2I, wRet, wNext, wSet, wSetO, wAsg, wN, wGNil, wGCons, wGTup, wTup, wLst, wMNil, wMD, wMO, wPar, wPar3, wAug, wISeq, wIR1, wIR2, wApp, wTupOf, wDrop, wNeg, wAnd, wOr, wNot, wAndV, wOrV, wNotV, wIf, wBits, fEq, fNe, fIsN, fNotN, isN, fIsB, frz, wYes, wSlT, wSlL, wNP, wPt, wRevL, wCatL, fCatT, wBor, frzAt, wipeE, List.map_cons, List.map_nil, List.getElem?_cons_zero, List.getElem?_cons_succ, List.set_cons_zero, List.set_cons_succ, Bool.not_true, Bool.not_false]
  refine wlc_map (rng 0 B) (fun d => match d with
    | .int i => encF (1, -i)
    | _ => .none) (fun Q q => ⟨by omega, by omega, q⟩) (by rw [rng_len]; omega) (fun e he Q q => ?_) ?_
  · obtain ⟨i, _, rfl⟩ := List.mem_map.mp he
    exact q
  · unfold encR plainPs at hR
    unfold rng
    rw [List.map_map] at hR ⊢
    have e : (List.range ((B : Int) - 0).toNat) = List.range B := by rw [Int.sub_zero]; rfl
    rw [e]
    show R _
    refine Eq.mp (congrArg R ?_) hR
    congr 3
    refine congrArg (PyData.tuple) (List.map_congr_left fun i _ => ?_)
    show encF (1, -(i : Int)) = encF (1, -(0 + (i : Int)))
    rw [Int.zero_add]
theorem sc_next_of : FnScope ["rule", "number", "base", "pairs", "factor", "more"] ["rule", "number"] (defScope s_next_of) := ⟨rfl, rfl, rfl, by decide +kernel, rfl, by decide +kernel, by decide +kernel⟩
theorem d_next_of (T : Tx K mg) : DefP P w K mg base 5 "next_of" false 2 wf_next_of := by
  refine def_ok T.at_next_of sc_next_of rfl (fun _ _ _ _ _ _ us hl => match us, hl with | [_, _], _ => rfl) (fun f cdv A outer s H E hr => ?_)
  have nd := sc_next_of.nd
  have hu := hr.units
  refine ⟨_, _, (xs_cons (x_asg (x_var 0) (xg_tup (xgs_cons (xg_name 2 nd) (xgs_cons (xg_name 3 nd) xgs_nil)))) (xs_cons (x_asg (x_ix (x_var 3) (x_call (d_last_digit T) (hr.mono (by decide)) (xa_cons (x_var 2) (xa_cons (x_var 1) xa_nil)))) (xg_tup (xgs_cons (xg_name 4 nd) (xgs_cons (xg_name 5 nd) xgs_nil)))) (xs_one (x_ret (x_call (d_number_told T) (hr.mono (by decide)) (xa_cons (x_add (x_mul (x_var 4) (x_ix (x_var 1) x_int)) (x_mul (x_var 5) (x_ix (x_var 1) x_int))) (xa_cons (x_mul (x_var 2) (x_ix (x_var 1) x_int)) xa_nil))))))), ?_⟩
  clear nd hu hr
  intro ds R hl h
  obtain ⟨B, ps, x, S, M, rfl, z, hR⟩ := h
  have hB2 := z.R.b2
  have hS := z.p.b
  have hbig := z.big
  rw [Nat.pow_one] at hbig
  have hMB := z.dig
  have hSM : S ≤ S * M := Nat.le_mul_of_pos_right _ (by have := z.m.b; have := z.X.pos; omega)
  have hd := dig_lt (by omega) z.X.cop
  have hp := z.p.p _ (prA_mem z.R hd)
  have m1 := z.m.t
  have m2 := z.m.b
  have hx := z.X.pos
  refine (show (_ : PL.WS) [Sl.dat _, Sl.dat _, Sl.no, Sl.no, Sl.no, Sl.no] _ from ?_)
  try simp only [wSeq, wIfS, wTV, w2, w3, wCall, wCallS, wCons, wNil, wVar, wC, fI, fI0, fLen, fStr, f1I, f2I, wRet, wNext, wSet, wSetO, wAsg, wN, wGNil, wGCons, wGTup, wTup, wLst, wMNil, wMD, wMO, wPar, wPar3, wAug, wISeq, wIR1, wIR2, wApp, wTupOf, wDrop, wNeg, wAnd, wOr, wNot, wAndV, wOrV, wNotV, wIf, wBits, fEq, fNe, fIsN, fNotN, isN, fIsB, frz, wYes, wSlT, wSlL, wNP, wPt, wRevL, wCatL, fCatT, wBor, frzAt, wipeE, List.map_cons, List.map_nil, List.getElem?_cons_zero, List.getElem?_cons_succ, List.set_cons_zero, List.set_cons_succ, Bool.not_true, Bool.not_false, encR]
  refine ⟨rfl, B, x, rfl, by omega, by omega, by omega, z.X.cop, ?_⟩
  try simp only [wSeq, wIfS, wTV, w2, w3, wCall, wCallS, wCons, wNil, wVar, wC, fI, fI0, fLen, fStr, f1I, f2I, wRet, wNext, wSet, wSetO, wAsg, wN, wGNil, wGCons, wGTup, wTup, wLst, wMNil, wMD, wMO, wPar, wPar3, wAug, wISeq, wIR1, wIR2, wApp, wTupOf, wDrop, wNeg, wAnd, wOr, wNot, wAndV, wOrV, wNotV, wIf, wBits, fEq, fNe, fIsN, fNotN, isN, fIsB, frz, wYes, wSlT, wSlL, wNP, wPt, wRevL, wCatL, fCatT, wBor, frzAt, wipeE, List.map_cons, List.map_nil, List.getElem?_cons_zero, List.getElem?_cons_succ, List.set_cons_zero, List.set_cons_succ, Bool.not_true, Bool.not_false, fIx]
  refine ⟨_, ps_at z.R hd, ?_⟩
  try simp only [wSeq, wIfS, wTV, w2, w3, wCall, wCallS, wCons, wNil, wVar, wC, fI, fI0, fLen, fStr, f1I, f2I, wRet, wNext, wSet, wSetO, wAsg, wN, wGNil, wGCons, wGTup, wTup, wLst, wMNil, wMD, wMO, wPar, wPar3, wAug, wISeq, wIR1, wIR2, wApp, wTupOf, wDrop, wNeg, wAnd, wOr, wNot, wAndV, wOrV, wNotV, wIf, wBits, fEq, fNe, fIsN, fNotN, isN, fIsB, frz, wYes, wSlT, wSlL, wNP, wPt, wRevL, wCatL, fCatT, wBor, frzAt, wipeE, List.map_cons, List.map_nil, List.getElem?_cons_zero, List.getElem?_cons_succ, List.set_cons_zero, List.set_cons_succ, Bool.not_true, Bool.not_false, encF,  fIx]
  refine ⟨rfl, _, rfl, mulOk (by omega) (by omega), _, rfl, mulOk (by omega) (by omega), _, rfl, mulOk (by omega) (by omega), _, _, rfl, Int.mul_pos (by omega) hx, ?_, ?_, hR⟩
  · exact Nat.lt_of_le_of_lt (num_le hp m1 m2) hbig
  · rw [Int.natAbs_mul, Int.natAbs_natCast]
    exact Nat.lt_of_le_of_lt (Nat.mul_le_mul hS m2) hbig
theorem sc_digits_of : FnScope ["rule", "number", "many", "found", "here", "lap"] ["rule", "number", "many"] (defScope s_digits_of) := ⟨rfl, rfl, rfl, by decide +kernel, rfl, by decide +kernel, by decide +kernel⟩
theorem d_digits_of (T : Tx K mg) : DefP P w K mg base 6 "digits_of" false 3 wf_digits_of := by
  refine def_ok T.at_digits_of sc_digits_of rfl (fun _ _ _ _ _ _ us hl => match us, hl with | [_, _, _], _ => rfl) (fun f cdv A outer s H E hr => ?_)
  have nd := sc_digits_of.nd
  have hu := hr.units
  refine ⟨_, _, (xs_cons (x_par 3 4 (xm_own (o_lst xa_nil) (xm_dat (x_call (d_number_let T) (hr.mono (by decide)) (xa_cons (x_ix (x_var 0) x_int) (xa_cons (x_var 1) xa_nil))) xm_nil)) nd) (xs_cons (x_for (xi_rng1 T.b_range (x_var 2)) (xg_name 5 nd) (xs_cons (x_app 3 (x_call (d_last_digit T) (hr.mono (by decide)) (xa_cons (x_ix (x_var 0) x_int) (xa_cons (x_var 4) xa_nil))) (pv 3)) (xs_one (x_set 4 (x_call (d_next_of T) (hr.mono (by decide)) (xa_cons (x_var 0) (xa_cons (x_var 4) xa_nil))) nd)))) (x_thaw 3 (xs_one (x_ret (x_tup (xa_cons (x_tupOf T.b_tuple (x_var 3)) (xa_cons (x_var 4) xa_nil)))))))), ?_⟩
  clear nd hu hr
  intro ds R hl h
  obtain ⟨B, ps, x, S, M, n, rfl, hn, z, hR⟩ := h
  have hB2 := z.R.b2
  have hS := z.p.b
  refine (show (_ : PL.WS) [Sl.dat _, Sl.dat _, Sl.dat _, Sl.no, Sl.no, Sl.no] _ from ?_)
  try simp only [wSeq, wIfS, wTV, w2, w3, wCall, wCallS, wCons, wNil, wVar, wC, fI, fI0, fLen, fStr, f1I, f2I, wRet, wNext, wSet, wSetO, wAsg, wN, wGNil, wGCons, wGTup, wTup, wLst, wMNil, wMD, wMO, wPar, wPar3, wAug, wISeq, wIR1, wIR2, wApp, wTupOf, wDrop, wNeg, wAnd, wOr, wNot, wAndV, wOrV, wNotV, wIf, wBits, fEq, fNe, fIsN, fNotN, isN, fIsB, frz, wYes, wSlT, wSlL, wNP, wPt, wRevL, wCatL, fCatT, wBor, frzAt, wipeE, List.map_cons, List.map_nil, List.getElem?_cons_zero, List.getElem?_cons_succ, List.set_cons_zero, List.set_cons_succ, Bool.not_true, Bool.not_false, encR,  fIx]
  refine ⟨_, rfl, B, x, rfl, z.X.cop, ?_⟩
  refine ⟨by omega, by omega, fun i ρ => ∃ s, ρ = [Sl.dat (encR B ps), Sl.dat (encF x), Sl.dat (.int n), Sl.own (.lst (dInts (digs B ps i x))), Sl.dat (encF (it B ps i x)), s] , ⟨.no, rfl⟩, ?_, ?_⟩
  · rintro i d ρ hd ⟨s, rfl⟩
    have hi : i < n := by
      have := (List.getElem?_eq_some_iff.mp hd).1
      rw [rng_len] at this
      omega
    have zi := z.at hi
    have hmb := zi.dig
    have m1 := zi.m.t
    have hlt := z.S1
    try simp only [wSeq, wIfS, wTV, w2, w3, wCall, wCallS, wCons, wNil, wVar, wC, fI, fI0, fLen, fStr, f1I, f2I, wRet, wNext, wSet, wSetO, wAsg, wN, wGNil, wGCons, wGTup, wTup, wLst, wMNil, wMD, wMO, wPar, wPar3, wAug, wISeq, wIR1, wIR2, wApp, wTupOf, wDrop, wNeg, wAnd, wOr, wNot, wAndV, wOrV, wNotV, wIf, wBits, fEq, fNe, fIsN, fNotN, isN, fIsB, frz, wYes, wSlT, wSlL, wNP, wPt, wRevL, wCatL, fCatT, wBor, frzAt, wipeE, List.map_cons, List.map_nil, List.getElem?_cons_zero, List.getElem?_cons_succ, List.set_cons_zero, List.set_cons_succ, Bool.not_true, Bool.not_false, encR,  fIx]
    refine ⟨_, rfl, B, _, rfl, by omega, ?_, by omega, zi.X.cop, by rw [dInts_len, digs_len]; omega, B, ps, _, S, _, rfl, zi, .dat d, ?_⟩
    · have := zi.big
      have h1 : 1 ≤ S ^ i * M := by have := zi.m.b; have := zi.X.pos; omega
      have := Nat.le_mul_of_pos_right S h1
      rw [Nat.pow_one] at *
      omega
    · rw [digs_succ, dInts_snoc]
      rfl
  · rintro ρ ⟨s, rfl⟩
    rw [rng_len]
    rw [show ((n : Int) - 0).toNat = n by omega]
    exact hR
theorem sc_before_of : FnScope ["rule", "number", "digit", "base", "pairs", "factor", "more"] ["rule", "number", "digit"] (defScope s_before_of) := ⟨rfl, rfl, rfl, by decide +kernel, rfl, by decide +kernel, by decide +kernel⟩
theorem d_before_of (T : Tx K mg) : DefP P w K mg base 4 "before_of" false 3 wf_before_of := by
  refine def_ok T.at_before_of sc_before_of rfl (fun _ _ _ _ _ _ us hl => match us, hl with | [_, _, _], _ => rfl) (fun f cdv A outer s H E hr => ?_)
  have nd := sc_before_of.nd
  have hu := hr.units
  refine ⟨_, _, (xs_cons (x_asg (x_var 0) (xg_tup (xgs_cons (xg_name 3 nd) (xgs_cons (xg_name 4 nd) xgs_nil)))) (xs_cons (x_expr (x_call (d_number_let T) (hr.mono (by decide)) (xa_cons (x_var 3) (xa_cons (x_var 1) xa_nil)))) (xs_cons (x_asg (x_ix (x_var 4) (x_var 2)) (xg_tup (xgs_cons (xg_name 5 nd) (xgs_cons (xg_name 6 nd) xgs_nil)))) (xs_one (x_ret (x_call (d_number_told T) (hr.mono (by decide)) (xa_cons (x_sub (x_mul (x_var 3) (x_ix (x_var 1) x_int)) (x_mul (x_var 6) (x_ix (x_var 1) x_int))) (xa_cons (x_mul (x_var 5) (x_ix (x_var 1) x_int)) xa_nil)))))))), ?_⟩
  clear nd hu hr
  intro ds R hl h
  obtain ⟨B, ps, x, r, rfl, G, hr, hB9, hc2, hc1, hx, hc, h1, h2, hR⟩ := h
  have hBb : B < Big := small_big (by omega)
  have ha := G.a1 _ (prA_mem G hr)
  refine (show (_ : PL.WS) [Sl.dat _, Sl.dat _, Sl.dat _, Sl.no, Sl.no, Sl.no, Sl.no] _ from ?_)
  try simp only [wSeq, wIfS, wTV, w2, w3, wCall, wCallS, wCons, wNil, wVar, wC, fI, fI0, fLen, fStr, f1I, f2I, wRet, wNext, wSet, wSetO, wAsg, wN, wGNil, wGCons, wGTup, wTup, wLst, wMNil, wMD, wMO, wPar, wPar3, wAug, wISeq, wIR1, wIR2, wApp, wTupOf, wDrop, wNeg, wAnd, wOr, wNot, wAndV, wOrV, wNotV, wIf, wBits, fEq, fNe, fIsN, fNotN, isN, fIsB, frz, wYes, wSlT, wSlL, wNP, wPt, wRevL, wCatL, fCatT, wBor, frzAt, wipeE, List.map_cons, List.map_nil, List.getElem?_cons_zero, List.getElem?_cons_succ, List.set_cons_zero, List.set_cons_succ, Bool.not_true, Bool.not_false, encR]
  refine ⟨rfl, B, x, rfl, hc, ?_⟩
  try simp only [wSeq, wIfS, wTV, w2, w3, wCall, wCallS, wCons, wNil, wVar, wC, fI, fI0, fLen, fStr, f1I, f2I, wRet, wNext, wSet, wSetO, wAsg, wN, wGNil, wGCons, wGTup, wTup, wLst, wMNil, wMD, wMO, wPar, wPar3, wAug, wISeq, wIR1, wIR2, wApp, wTupOf, wDrop, wNeg, wAnd, wOr, wNot, wAndV, wOrV, wNotV, wIf, wBits, fEq, fNe, fIsN, fNotN, isN, fIsB, frz, wYes, wSlT, wSlL, wNP, wPt, wRevL, wCatL, fCatT, wBor, frzAt, wipeE, List.map_cons, List.map_nil, List.getElem?_cons_zero, List.getElem?_cons_succ, List.set_cons_zero, List.set_cons_succ, Bool.not_true, Bool.not_false, fIx]
  refine ⟨_, ps_at G hr, ?_⟩
  try simp only [wSeq, wIfS, wTV, w2, w3, wCall, wCallS, wCons, wNil, wVar, wC, fI, fI0, fLen, fStr, f1I, f2I, wRet, wNext, wSet, wSetO, wAsg, wN, wGNil, wGCons, wGTup, wTup, wLst, wMNil, wMD, wMO, wPar, wPar3, wAug, wISeq, wIR1, wIR2, wApp, wTupOf, wDrop, wNeg, wAnd, wOr, wNot, wAndV, wOrV, wNotV, wIf, wBits, fEq, fNe, fIsN, fNotN, isN, fIsB, frz, wYes, wSlT, wSlL, wNP, wPt, wRevL, wCatL, fCatT, wBor, frzAt, wipeE, List.map_cons, List.map_nil, List.getElem?_cons_zero, List.getElem?_cons_succ, List.set_cons_zero, List.set_cons_succ, Bool.not_true, Bool.not_false, encF,  fIx]
  exact ⟨rfl, _, rfl, mulOk (by omega) hx.t, _, rfl, mulOk hc2 hx.b, _, rfl, mulOk hc1 hx.b, _, _, rfl, Int.mul_pos (by omega) hx.pos, h1, h2, hR⟩
theorem sc_behind_of : FnScope ["rule", "number", "digits", "here", "digit"] ["rule", "number", "digits"] (defScope s_behind_of) := ⟨rfl, rfl, rfl, by decide +kernel, rfl, by decide +kernel, by decide +kernel⟩
theorem d_behind_of (T : Tx K mg) : DefP P w K mg base 5 "behind_of" false 3 wf_behind_of := by
  refine def_ok T.at_behind_of sc_behind_of rfl (fun _ _ _ _ _ _ us hl => match us, hl with | [_, _, _], _ => rfl) (fun f cdv A outer s H E hr => ?_)
  have nd := sc_behind_of.nd
  have hu := hr.units
  refine ⟨_, _, (xs_cons (x_set 3 (x_call (d_number_let T) (hr.mono (by decide)) (xa_cons (x_ix (x_var 0) x_int) (xa_cons (x_var 1) xa_nil))) nd) (xs_cons (x_for (xi_seq (x_revT (x_var 2))) (xg_name 4 nd) (xs_one (x_set 3 (x_call (d_before_of T) (hr.mono (by decide)) (xa_cons (x_var 0) (xa_cons (x_var 3) (xa_cons (x_var 4) xa_nil)))) nd))) (xs_one (x_ret (x_var 3))))), ?_⟩
  clear nd hu hr
  intro ds R hl h
  obtain ⟨B, ps, y, S, M, n, rfl, hB9, z, hR⟩ := h
  have hB2 := z.R.b2
  have hS := z.p.b
  refine (show (_ : PL.WS) [Sl.dat _, Sl.dat _, Sl.dat _, Sl.no, Sl.no] _ from ?_)
  try simp only [wSeq, wIfS, wTV, w2, w3, wCall, wCallS, wCons, wNil, wVar, wC, fI, fI0, fLen, fStr, f1I, f2I, wRet, wNext, wSet, wSetO, wAsg, wN, wGNil, wGCons, wGTup, wTup, wLst, wMNil, wMD, wMO, wPar, wPar3, wAug, wISeq, wIR1, wIR2, wApp, wTupOf, wDrop, wNeg, wAnd, wOr, wNot, wAndV, wOrV, wNotV, wIf, wBits, fEq, fNe, fIsN, fNotN, isN, fIsB, frz, wYes, wSlT, wSlL, wNP, wPt, wRevL, wCatL, fCatT, wBor, frzAt, wipeE, List.map_cons, List.map_nil, List.getElem?_cons_zero, List.getElem?_cons_succ, List.set_cons_zero, List.set_cons_succ, Bool.not_true, Bool.not_false, encR,  fIx]
  refine ⟨_, rfl, B, _, rfl, (it_good z.R n z.X).cop, ?_⟩
  refine ⟨fun i ρ => ∃ s, ρ = [Sl.dat (encR B ps), Sl.dat (encF (it B ps n y)), Sl.dat (.tuple (dInts (digs B ps n y))), Sl.dat (encF (it B ps (n - i) y)), s], ⟨.no, rfl⟩, ?_, ?_⟩
  · rintro i d ρ hd ⟨s, rfl⟩
    have hl : (dInts (digs B ps n y)).reverse.length = n := by rw [List.length_reverse, dInts_len, digs_len]
    have hi : i < n := by
      have := (List.getElem?_eq_some_iff.mp hd).1
      omega
    obtain ⟨k, hk⟩ : ∃ k, n = i + 1 + k := ⟨n - (i + 1), by omega⟩
    have hd2 : d = .int (digN B (it B ps k y)) := by
      rw [List.getElem?_reverse (by rw [dInts_len, digs_len]; exact hi), dInts_len, digs_len] at hd
      have e : n - 1 - i = k := by omega
      rw [e] at hd
      unfold dInts digs at hd
      rw [List.map_map, List.getElem?_map, List.getElem?_range (by omega)] at hd
      exact (Option.some.inj hd).symm
    subst hd2
    have e1 : n - i = k + 1 := by omega
    have e2 : n - (i + 1) = k := by omega
    have zk := z.at (show k < n + 2 by omega)
    have z1 := z.at (show k + 1 < n + 2 by omega)
    have hbig := zk.big
    rw [Nat.pow_one] at hbig
    have hlt := dig_lt (B := B) (x := it B ps k y) (by omega) zk.X.cop
    have hp := z.p.p _ (prA_mem z.R hlt)
    have hit : it B ps (k + 1) y = nxt B ps (it B ps k y) := rfl
    have hb1 := nxt_bd z.R zk.X z.p zk.m
    have m1 := z1.m.t
    have m2 := z1.m.b
    have b1big := z1.big
    rw [Nat.pow_one] at b1big
    have hSb : S < Big := by
      have : S ≤ S * (S ^ k * M) := Nat.le_mul_of_pos_right _ (by have := zk.m.b; have := zk.X.pos; omega)
      omega
    rw [e1]
    try simp only [wSeq, wIfS, wTV, w2, w3, wCall, wCallS, wCons, wNil, wVar, wC, fI, fI0, fLen, fStr, f1I, f2I, wRet, wNext, wSet, wSetO, wAsg, wN, wGNil, wGCons, wGTup, wTup, wLst, wMNil, wMD, wMO, wPar, wPar3, wAug, wISeq, wIR1, wIR2, wApp, wTupOf, wDrop, wNeg, wAnd, wOr, wNot, wAndV, wOrV, wNotV, wIf, wBits, fEq, fNe, fIsN, fNotN, isN, fIsB, frz, wYes, wSlT, wSlL, wNP, wPt, wRevL, wCatL, fCatT, wBor, frzAt, wipeE, List.map_cons, List.map_nil, List.getElem?_cons_zero, List.getElem?_cons_succ, List.set_cons_zero, List.set_cons_succ, Bool.not_true, Bool.not_false, e2]
    refine ⟨B, ps, it B ps (k + 1) y, _, rfl, z.R, hlt, hB9, by omega, by omega, ⟨Nat.lt_of_le_of_lt m1 z1.dig, Nat.lt_of_le_of_lt m2 z1.dig, z1.X.pos⟩, z1.X.cop, ?_, ?_, ?_⟩
    · have q := num_le (a := (B : Int)) (c := -(prA ps (digN B (it B ps k y))).2) (S := S + S) (t := (it B ps (k + 1) y).1) (b := (it B ps (k + 1) y).2) (by omega) m1 m2
      have e3 : (B : Int) * (it B ps (k + 1) y).1 - (prA ps (digN B (it B ps k y))).2 * (it B ps (k + 1) y).2 = (B : Int) * (it B ps (k + 1) y).1 + -(prA ps (digN B (it B ps k y))).2 * (it B ps (k + 1) y).2 := by
        rw [Int.neg_mul]; omega
      rw [e3]
      refine Nat.lt_of_le_of_lt q (Nat.lt_of_le_of_lt ?_ z.big)
      rw [← Nat.mul_assoc]
      refine Nat.mul_le_mul_right _ ?_
      have f1 : S + S ≤ S * S := by
        have : S * 2 ≤ S * S := Nat.mul_le_mul_left _ (by omega)
        omega
      calc (S + S) * S ^ (k + 1) ≤ (S * S) * S ^ (k + 1) := Nat.mul_le_mul_right _ f1
        _ = S ^ (k + 3) := by rw [Nat.pow_succ S (k + 2), Nat.pow_succ S (k + 1)]; grind
        _ ≤ S ^ (n + 2) := Nat.pow_le_pow_right (by omega) (by omega)
    · rw [Int.natAbs_mul]
      exact Nat.lt_of_le_of_lt (Nat.mul_le_mul (show _ ≤ S by omega) m2) b1big
    · rw [hit, back_nxt z.R zk.X]
      exact ⟨_, rfl⟩
  · rintro ρ ⟨s, rfl⟩
    rw [List.length_reverse, dInts_len, digs_len, Nat.sub_self]
    exact hR
theorem sc_line_of : FnScope ["rule", "digits", "base", "pairs", "one", "other", "power", "digit", "factor", "more"] ["rule", "digits"] (defScope s_line_of) := ⟨rfl, rfl, rfl, by decide +kernel, rfl, by decide +kernel, by decide +kernel⟩
theorem d_line_of (T : Tx K mg) : DefP P w K mg base 2 "line_of" false 2 wf_line_of := by
  refine def_ok T.at_line_of sc_line_of rfl (fun _ _ _ _ _ _ us hl => match us, hl with | [_, _], _ => rfl) (fun f cdv A outer s H E hr => ?_)
  have nd := sc_line_of.nd
  have hu := hr.units
  refine ⟨_, _, (xs_cons (x_asg (x_var 0) (xg_tup (xgs_cons (xg_name 2 nd) (xgs_cons (xg_name 3 nd) xgs_nil)))) (xs_cons (x_asg (x_tup (xa_cons x_int (xa_cons x_int (xa_cons x_int xa_nil)))) (xg_tup (xgs_cons (xg_name 4 nd) (xgs_cons (xg_name 5 nd) (xgs_cons (xg_name 6 nd) xgs_nil))))) (xs_cons (x_for (xi_seq (x_var 1)) (xg_name 7 nd) (xs_cons (x_asg (x_ix (x_var 3) (x_var 7)) (xg_tup (xgs_cons (xg_name 8 nd) (xgs_cons (xg_name 9 nd) xgs_nil)))) (xs_one (x_par3 4 5 6 (xa_cons (x_call (d_not_long T) (hr.mono (by decide)) (xa_cons (x_mul (x_var 4) (x_var 8)) xa_nil)) (xa_cons (x_call (d_not_long T) (hr.mono (by decide)) (xa_cons (x_add (x_mul (x_var 5) (x_var 8)) (x_mul (x_var 9) (x_var 6))) xa_nil)) (xa_cons (x_mul (x_var 6) (x_var 2)) xa_nil))) nd)))) (xs_one (x_ret (x_tup (xa_cons (x_var 4) (xa_cons (x_var 5) xa_nil)))))))), ?_⟩
  clear nd hu hr
  intro ds R hl h
  obtain ⟨B, ps, l, S, rfl, G, p, hl', hbig, hR⟩ := h
  have hB2 := G.b2
  have hS := p.b
  refine (show (_ : PL.WS) [Sl.dat _, Sl.dat _, Sl.no, Sl.no, Sl.no, Sl.no, Sl.no, Sl.no, Sl.no, Sl.no] _ from ?_)
  try simp only [wSeq, wIfS, wTV, w2, w3, wCall, wCallS, wCons, wNil, wVar, wC, fI, fI0, fLen, fStr, f1I, f2I, wRet, wNext, wSet, wSetO, wAsg, wN, wGNil, wGCons, wGTup, wTup, wLst, wMNil, wMD, wMO, wPar, wPar3, wAug, wISeq, wIR1, wIR2, wApp, wTupOf, wDrop, wNeg, wAnd, wOr, wNot, wAndV, wOrV, wNotV, wIf, wBits, fEq, fNe, fIsN, fNotN, isN, fIsB, frz, wYes, wSlT, wSlL, wNP, wPt, wRevL, wCatL, fCatT, wBor, frzAt, wipeE, List.map_cons, List.map_nil, List.getElem?_cons_zero, List.getElem?_cons_succ, List.set_cons_zero, List.set_cons_succ, Bool.not_true, Bool.not_false, encR]
  refine ⟨rfl, rfl, fun i ρ => ∃ s1 s2 s3, ρ = [Sl.dat (encR B ps), Sl.dat (.tuple (dInts l)), Sl.dat (.int B), Sl.dat (.tuple (ps.map encF)), Sl.dat (.int (lin B ps (l.take i)).1), Sl.dat (.int (lin B ps (l.take i)).2.1), Sl.dat (.int (lin B ps (l.take i)).2.2), s1, s2, s3], ⟨_, _, _, rfl⟩, ?_, ?_⟩
  · rintro i d ρ hd ⟨s1, s2, s3, rfl⟩
    obtain ⟨r, hr, rfl⟩ := dInts_at hd
    have hi : i < l.length := (List.getElem?_eq_some_iff.mp hr).1
    have hrB := hl' r (List.mem_of_getElem? hr)
    have ht : l.take (i + 1) = l.take i ++ [r] := by
      rw [List.take_add_one, hr]
      rfl
    have hpow : ∀ j, j ≤ l.length → (j + 1) * S ^ j < Big := fun j hj => by
      have h1 : S ^ j ≤ S ^ l.length := Nat.pow_le_pow_right (by omega) hj
      have h2 : (j + 1) * S ^ j ≤ (l.length + 1) * S ^ l.length := Nat.mul_le_mul (by omega) h1
      omega
    have b0 := lin_bd G p (l.take i) fun d hd => hl' d (List.mem_of_mem_take hd)
    have b1 := lin_bd G p (l.take (i + 1)) fun d hd => hl' d (List.mem_of_mem_take hd)
    rw [List.length_take, Nat.min_eq_left (by omega)] at b0 b1
    obtain ⟨c1, c2, c3⟩ := b0
    obtain ⟨k1, k2, k3⟩ := b1
    rw [ht, lin_snoc] at k1 k2 k3
    have q0 := hpow i (by omega)
    have q1 := hpow (i + 1) (by omega)
    have e0 : S ^ i ≤ (i + 1) * S ^ i := Nat.le_mul_of_pos_left _ (by omega)
    have e0' : i * S ^ i ≤ (i + 1) * S ^ i := Nat.mul_le_mul_right _ (by omega)
    have e1 : S ^ (i + 1) ≤ (i + 1 + 1) * S ^ (i + 1) := Nat.le_mul_of_pos_left _ (by omega)
    have e1' : (i + 1) * S ^ (i + 1) ≤ (i + 1 + 1) * S ^ (i + 1) := Nat.mul_le_mul_right _ (by omega)
    have hp := p.p _ (prA_mem G hrB)
    have hSb : S < Big := by
      have : S ^ 1 ≤ S ^ (i + 1) := Nat.pow_le_pow_right (by omega) (by omega)
      rw [Nat.pow_one] at this
      omega
    try simp only [wSeq, wIfS, wTV, w2, w3, wCall, wCallS, wCons, wNil, wVar, wC, fI, fI0, fLen, fStr, f1I, f2I, wRet, wNext, wSet, wSetO, wAsg, wN, wGNil, wGCons, wGTup, wTup, wLst, wMNil, wMD, wMO, wPar, wPar3, wAug, wISeq, wIR1, wIR2, wApp, wTupOf, wDrop, wNeg, wAnd, wOr, wNot, wAndV, wOrV, wNotV, wIf, wBits, fEq, fNe, fIsN, fNotN, isN, fIsB, frz, wYes, wSlT, wSlL, wNP, wPt, wRevL, wCatL, fCatT, wBor, frzAt, wipeE, List.map_cons, List.map_nil, List.getElem?_cons_zero, List.getElem?_cons_succ, List.set_cons_zero, List.set_cons_succ, Bool.not_true, Bool.not_false, fIx]
    refine ⟨_, ps_at G hrB, ?_⟩
    try simp only [wSeq, wIfS, wTV, w2, w3, wCall, wCallS, wCons, wNil, wVar, wC, fI, fI0, fLen, fStr, f1I, f2I, wRet, wNext, wSet, wSetO, wAsg, wN, wGNil, wGCons, wGTup, wTup, wLst, wMNil, wMD, wMO, wPar, wPar3, wAug, wISeq, wIR1, wIR2, wApp, wTupOf, wDrop, wNeg, wAnd, wOr, wNot, wAndV, wOrV, wNotV, wIf, wBits, fEq, fNe, fIsN, fNotN, isN, fIsB, frz, wYes, wSlT, wSlL, wNP, wPt, wRevL, wCatL, fCatT, wBor, frzAt, wipeE, List.map_cons, List.map_nil, List.getElem?_cons_zero, List.getElem?_cons_succ, List.set_cons_zero, List.set_cons_succ, Bool.not_true, Bool.not_false, encF]
    refine ⟨rfl, mulOk (by omega) (by omega), _, rfl, Nat.lt_of_le_of_lt k1 (by omega), mulOk (by omega) (by omega), mulOk (by omega) (by omega), _, rfl, Nat.lt_of_le_of_lt k2 (by omega), mulOk (by omega) (by omega), ?_⟩
    rw [ht, lin_snoc]
    exact ⟨_, _, _, rfl⟩
  · rintro ρ ⟨s1, s2, s3, rfl⟩
    rw [dInts_len, List.take_length]
    exact hR
theorem sc_moved_told : FnScope ["rule", "far", "base", "pairs", "found", "digit", "factor", "more"] ["rule", "far"] (defScope s_moved_told) := ⟨rfl, rfl, rfl, by decide +kernel, rfl, by decide +kernel, by decide +kernel⟩
theorem d_moved_told (T : Tx K mg) : DefP P w K mg base 3 "moved_told" false 2 wf_moved_told := by
  refine def_ok T.at_moved_told sc_moved_told rfl (fun _ _ _ _ _ _ us hl => match us, hl with | [_, _], _ => rfl) (fun f cdv A outer s H E hr => ?_)
  have nd := sc_moved_told.nd
  have hu := hr.units
  refine ⟨_, _, (xs_cons (x_asg (x_var 0) (xg_tup (xgs_cons (xg_name 2 nd) (xgs_cons (xg_name 3 nd) xgs_nil)))) (xs_cons (x_setO 4 o_dict nd) (xs_cons (x_for (xi_enumT T.b_enumerate (x_var 3)) (xg_tup (xgs_cons (xg_name 5 nd) (xgs_cons (xg_tup (xgs_cons (xg_name 6 nd) (xgs_cons (xg_name 7 nd) xgs_nil))) xgs_nil))) (xs_one (x_dput 4 hu (x_mod (x_add (x_var 5) (x_var 1)) (x_var 2)) (x_tup (xa_cons (x_var 6) (xa_cons (x_add (x_sub (x_var 7) (x_mul (x_var 6) (x_var 1))) (x_mul (x_var 2) (x_var 1))) xa_nil))) (pv 4)))) (xs_one (x_ret (x_call (d_rule_told T) (hr.mono (by decide)) (xa_cons (x_var 2) (xa_cons (x_frz (o_lc [("digit", 5)] nd (xi_rng1 T.b_range (x_var 2)) (by show blkC ["rule", "far", "base", "pairs", "found", "digit", "factor", "more"] (defScope s_moved_told) _ _ = true; decide +kernel) (fun _ _ _ _ _ => (xg_name 5 nd)) (fun _ _ _ _ _ => xts_nil) (fun _ _ _ _ _ => (x_dgetO 4 hu (pv 4) (x_var 5))))) xa_nil)))))))), ?_⟩
  clear nd hu hr
  intro ds R hl h
  obtain ⟨B, ps, far, rfl, G, hB, hf, hsz, hR⟩ := h
  have hB2 := G.b2
  have hfb := big_250 (n := far.natAbs) (by omega)
  refine (show (_ : PL.WS) [Sl.dat _, Sl.dat _, Sl.no, Sl.no, Sl.no, Sl.no, Sl.no, Sl.no] _ from ?_)
  try simp only [wSeq, wIfS, wTV, w2, w3, wCall, wCallS, wCons, wNil, wVar, wC, fI, fI0, fLen, fStr, f1I, f2I, wRet, wNext, wSet, wSetO, wAsg, wN, wGNil, wGCons, wGTup, wTup, wLst, wMNil, wMD, wMO, wPar, wPar3, wAug, wISeq, wIR1, wIR2, wApp, wTupOf, wDrop, wNeg, wAnd, wOr, wNot, wAndV, wOrV, wNotV, wIf, wBits, fEq, fNe, fIsN, fNotN, isN, fIsB, frz, wYes, wSlT, wSlL, wNP, wPt, wRevL, wCatL, fCatT, wBor, frzAt, wipeE, List.map_cons, List.map_nil, List.getElem?_cons_zero, List.getElem?_cons_succ, List.set_cons_zero, List.set_cons_succ, Bool.not_true, Bool.not_false, encR]
  refine ⟨rfl, fun i ρ => ∃ (kvs : List (Key × D)) (s5 s6 s7 : Sl), ρ = [Sl.dat (.tuple [.int B, .tuple (ps.map encF)]), Sl.dat (.int far), Sl.dat (.int B), Sl.dat (.tuple (ps.map encF)), Sl.own (.dk kvs), s5, s6, s7] ∧ Filled kvs i (fun d => ((d : Int) + far) % (B : Int)) (movedV B ps far),
    ⟨[], .no, .no, .no, rfl, Nat.le_refl _, fun d hd => absurd hd (Nat.not_lt_zero d)⟩, ?_, ?_⟩
  · rintro i d ρ hd ⟨kvs, s5, s6, s7, rfl, hF⟩
    obtain ⟨hi, rfl⟩ := enum_ps G hd
    have hb := hsz _ (prA_mem G hi)
    have hb1 := big_250 (n := (prA ps i).1.natAbs) (by omega)
    have hb2 := big_250 (n := (prA ps i).2.natAbs) (by omega)
    have hl := hF.1
    try simp only [wSeq, wIfS, wTV, w2, w3, wCall, wCallS, wCons, wNil, wVar, wC, fI, fI0, fLen, fStr, f1I, f2I, wRet, wNext, wSet, wSetO, wAsg, wN, wGNil, wGCons, wGTup, wTup, wLst, wMNil, wMD, wMO, wPar, wPar3, wAug, wISeq, wIR1, wIR2, wApp, wTupOf, wDrop, wNeg, wAnd, wOr, wNot, wAndV, wOrV, wNotV, wIf, wBits, fEq, fNe, fIsN, fNotN, isN, fIsB, frz, wYes, wSlT, wSlL, wNP, wPt, wRevL, wCatL, fCatT, wBor, frzAt, wipeE, List.map_cons, List.map_nil, List.getElem?_cons_zero, List.getElem?_cons_succ, List.set_cons_zero, List.set_cons_succ, Bool.not_true, Bool.not_false, encF,  wDPut,  keyD]
    exact ⟨rfl, rfl, mulOk hb1 hfb, mulOkL (by omega) (by omega), by omega, by omega, _, .dat (.int i), .dat (.int (prA ps i).1), .dat (.int (prA ps i).2), rfl, hF.put (moved_inj hi)⟩
  · rintro ρ ⟨kvs, s5, s6, s7, rfl, hF⟩
    rw [enumD_len, List.length_map, G.len] at hF
    try simp only [wSeq, wIfS, wTV, w2, w3, wCall, wCallS, wCons, wNil, wVar, wC, fI, fI0, fLen, fStr, f1I, f2I, wRet, wNext, wSet, wSetO, wAsg, wN, wGNil, wGCons, wGTup, wTup, wLst, wMNil, wMD, wMO, wPar, wPar3, wAug, wISeq, wIR1, wIR2, wApp, wTupOf, wDrop, wNeg, wAnd, wOr, wNot, wAndV, wOrV, wNotV, wIf, wBits, fEq, fNe, fIsN, fNotN, isN, fIsB, frz, wYes, wSlT, wSlL, wNP, wPt, wRevL, wCatL, fCatT, wBor, frzAt, wipeE, List.map_cons, List.map_nil, List.getElem?_cons_zero, List.getElem?_cons_succ, List.set_cons_zero, List.set_cons_succ, Bool.not_true, Bool.not_false]
    refine wlc_map (rng 0 B) (fun d => match d with
      | .int j => movedV B ps far (movedD B far j.toNat)
      | _ => .none) (fun Q q => ⟨by omega, by omega, q⟩) (by rw [rng_len]; omega) (fun e he Q q => ?_) ?_
    · obtain ⟨j, hj, rfl⟩ := List.mem_map.mp he
      rw [List.mem_range] at hj
      have hjB : j < B := by omega
      obtain ⟨s1, s2⟩ := movedD_spec (far := far) hjB
      have key := hF.2 _ s1
      try simp only [wSeq, wIfS, wTV, w2, w3, wCall, wCallS, wCons, wNil, wVar, wC, fI, fI0, fLen, fStr, f1I, f2I, wRet, wNext, wSet, wSetO, wAsg, wN, wGNil, wGCons, wGTup, wTup, wLst, wMNil, wMD, wMO, wPar, wPar3, wAug, wISeq, wIR1, wIR2, wApp, wTupOf, wDrop, wNeg, wAnd, wOr, wNot, wAndV, wOrV, wNotV, wIf, wBits, fEq, fNe, fIsN, fNotN, isN, fIsB, frz, wYes, wSlT, wSlL, wNP, wPt, wRevL, wCatL, fCatT, wBor, frzAt, wipeE, List.map_cons, List.map_nil, List.getElem?_cons_zero, List.getElem?_cons_succ, List.set_cons_zero, List.set_cons_succ, Bool.not_true, Bool.not_false, wDGet,  keyD]
      refine ⟨_, ?_, q⟩
      dsimp only at key
      rw [s2] at key
      rw [Int.zero_add]
      exact key
    · refine ⟨B, movedPs B ps far, .inr ?_, by unfold movedPs; rw [List.length_map, List.length_range]; omega, fun p hp => ?_, hR⟩
      · unfold movedPs rng
        rw [List.map_map, List.map_map, show ((B : Int) - 0).toNat = B by omega]
        refine congrArg (fun l => [PyData.int (B : Int), PyData.list l]) (List.map_congr_left fun j _ => ?_)
        show movedV B ps far (movedD B far (0 + (j : Int)).toNat) = _
        rw [Int.zero_add]
        rfl
      · obtain ⟨j, hj, rfl⟩ := List.mem_map.mp hp
        rw [List.mem_range] at hj
        have hb := hsz _ (prA_mem G (movedD_spec (far := far) hj).1)
        exact ⟨big_250 (Nat.le_trans hb.1 (by decide)), big_250 (Nat.le_trans (sz_moved hb.1 hb.2 hf (by omega)) (by decide))⟩
theorem sc_times_told : FnScope ["rule", "often", "base", "pairs", "found", "digit", "factor", "more"] ["rule", "often"] (defScope s_times_told) := ⟨rfl, rfl, rfl, by decide +kernel, rfl, by decide +kernel, by decide +kernel⟩
theorem d_times_told (T : Tx K mg) : DefP P w K mg base 3 "times_told" false 2 wf_times_told := by
  refine def_ok T.at_times_told sc_times_told rfl (fun _ _ _ _ _ _ us hl => match us, hl with | [_, _], _ => rfl) (fun f cdv A outer s H E hr => ?_)
  have nd := sc_times_told.nd
  have hu := hr.units
  refine ⟨_, _, (xs_cons (x_asg (x_var 0) (xg_tup (xgs_cons (xg_name 2 nd) (xgs_cons (xg_name 3 nd) xgs_nil)))) (xs_cons (x_ifS (xt_w (xw_or (xt_eq hu (x_var 1) x_int) (xw_or1 (xt_val (x_call (d_shares T) (hr.mono (by decide)) (xa_cons (x_var 1) (xa_cons (x_var 2) xa_nil))))))) (xs_one x_never) xs_nil) (xs_cons (x_setO 4 o_dict nd) (xs_cons (x_for (xi_enumT T.b_enumerate (x_var 3)) (xg_tup (xgs_cons (xg_name 5 nd) (xgs_cons (xg_tup (xgs_cons (xg_name 6 nd) (xgs_cons (xg_name 7 nd) xgs_nil))) xgs_nil))) (xs_one (x_dput 4 hu (x_mod (x_mul (x_var 5) (x_var 1)) (x_var 2)) (x_tup (xa_cons (x_var 6) (xa_cons (x_mul (x_var 7) (x_var 1)) xa_nil))) (pv 4)))) (xs_one (x_ret (x_call (d_rule_told T) (hr.mono (by decide)) (xa_cons (x_var 2) (xa_cons (x_frz (o_lc [("digit", 5)] nd (xi_rng1 T.b_range (x_var 2)) (by show blkC ["rule", "often", "base", "pairs", "found", "digit", "factor", "more"] (defScope s_times_told) _ _ = true; decide +kernel) (fun _ _ _ _ _ => (xg_name 5 nd)) (fun _ _ _ _ _ => xts_nil) (fun _ _ _ _ _ => (x_dgetO 4 hu (pv 4) (x_var 5))))) xa_nil))))))))), ?_⟩
  clear nd hu hr
  intro ds R hl h
  obtain ⟨B, ps, often, rfl, G, hB, h0, hf, hc, hsz, hR⟩ := h
  have hB2 := G.b2
  have hfb := big_250 (n := often.natAbs) (by omega)
  refine (show (_ : PL.WS) [Sl.dat _, Sl.dat _, Sl.no, Sl.no, Sl.no, Sl.no, Sl.no, Sl.no] _ from ?_)
  try simp only [wSeq, wIfS, wTV, w2, w3, wCall, wCallS, wCons, wNil, wVar, wC, fI, fI0, fLen, fStr, f1I, f2I, wRet, wNext, wSet, wSetO, wAsg, wN, wGNil, wGCons, wGTup, wTup, wLst, wMNil, wMD, wMO, wPar, wPar3, wAug, wISeq, wIR1, wIR2, wApp, wTupOf, wDrop, wNeg, wAnd, wOr, wNot, wAndV, wOrV, wNotV, wIf, wBits, fEq, fNe, fIsN, fNotN, isN, fIsB, frz, wYes, wSlT, wSlL, wNP, wPt, wRevL, wCatL, fCatT, wBor, frzAt, wipeE, List.map_cons, List.map_nil, List.getElem?_cons_zero, List.getElem?_cons_succ, List.set_cons_zero, List.set_cons_succ, Bool.not_true, Bool.not_false, encR]
  refine ⟨rfl, rfl, rfl, ?_⟩
  rw [show PyData.eqv (.int often) (.int 0) = false by simp only [PyData.eqv, beq_eq_false_iff_ne]; omega]
  refine ⟨often, B, rfl, ?_⟩
  rw [hc]
  try simp only [wSeq, wIfS, wTV, w2, w3, wCall, wCallS, wCons, wNil, wVar, wC, fI, fI0, fLen, fStr, f1I, f2I, wRet, wNext, wSet, wSetO, wAsg, wN, wGNil, wGCons, wGTup, wTup, wLst, wMNil, wMD, wMO, wPar, wPar3, wAug, wISeq, wIR1, wIR2, wApp, wTupOf, wDrop, wNeg, wAnd, wOr, wNot, wAndV, wOrV, wNotV, wIf, wBits, fEq, fNe, fIsN, fNotN, isN, fIsB, frz, wYes, wSlT, wSlL, wNP, wPt, wRevL, wCatL, fCatT, wBor, frzAt, wipeE, List.map_cons, List.map_nil, List.getElem?_cons_zero, List.getElem?_cons_succ, List.set_cons_zero, List.set_cons_succ, Bool.not_true, Bool.not_false]
  refine ⟨fun i ρ => ∃ (kvs : List (Key × D)) (s5 s6 s7 : Sl), ρ = [Sl.dat (.tuple [.int B, .tuple (ps.map encF)]), Sl.dat (.int often), Sl.dat (.int B), Sl.dat (.tuple (ps.map encF)), Sl.own (.dk kvs), s5, s6, s7] ∧ Filled kvs i (fun d => ((d : Int) * often) % (B : Int)) (timesV ps often),
    ⟨[], .no, .no, .no, rfl, Nat.le_refl _, fun d hd => absurd hd (Nat.not_lt_zero d)⟩, ?_, ?_⟩
  · rintro i d ρ hd ⟨kvs, s5, s6, s7, rfl, hF⟩
    obtain ⟨hi, rfl⟩ := enum_ps G hd
    have hb := hsz _ (prA_mem G hi)
    have hb1 := big_250 (n := (prA ps i).1.natAbs) (by omega)
    have hb2 := big_250 (n := (prA ps i).2.natAbs) (by omega)
    have hl := hF.1
    try simp only [wSeq, wIfS, wTV, w2, w3, wCall, wCallS, wCons, wNil, wVar, wC, fI, fI0, fLen, fStr, f1I, f2I, wRet, wNext, wSet, wSetO, wAsg, wN, wGNil, wGCons, wGTup, wTup, wLst, wMNil, wMD, wMO, wPar, wPar3, wAug, wISeq, wIR1, wIR2, wApp, wTupOf, wDrop, wNeg, wAnd, wOr, wNot, wAndV, wOrV, wNotV, wIf, wBits, fEq, fNe, fIsN, fNotN, isN, fIsB, frz, wYes, wSlT, wSlL, wNP, wPt, wRevL, wCatL, fCatT, wBor, frzAt, wipeE, List.map_cons, List.map_nil, List.getElem?_cons_zero, List.getElem?_cons_succ, List.set_cons_zero, List.set_cons_succ, Bool.not_true, Bool.not_false, encF,  wDPut,  keyD]
    exact ⟨rfl, rfl, mulOk hb2 hfb, mulOkL (by omega) (by omega), by omega, by omega, _, .dat (.int i), .dat (.int (prA ps i).1), .dat (.int (prA ps i).2), rfl, hF.put (times_inj hc hi)⟩
  · rintro ρ ⟨kvs, s5, s6, s7, rfl, hF⟩
    rw [enumD_len, List.length_map, G.len] at hF
    try simp only [wSeq, wIfS, wTV, w2, w3, wCall, wCallS, wCons, wNil, wVar, wC, fI, fI0, fLen, fStr, f1I, f2I, wRet, wNext, wSet, wSetO, wAsg, wN, wGNil, wGCons, wGTup, wTup, wLst, wMNil, wMD, wMO, wPar, wPar3, wAug, wISeq, wIR1, wIR2, wApp, wTupOf, wDrop, wNeg, wAnd, wOr, wNot, wAndV, wOrV, wNotV, wIf, wBits, fEq, fNe, fIsN, fNotN, isN, fIsB, frz, wYes, wSlT, wSlL, wNP, wPt, wRevL, wCatL, fCatT, wBor, frzAt, wipeE, List.map_cons, List.map_nil, List.getElem?_cons_zero, List.getElem?_cons_succ, List.set_cons_zero, List.set_cons_succ, Bool.not_true, Bool.not_false]
    refine wlc_map (rng 0 B) (fun d => match d with
      | .int j => timesV ps often (timesD B often j.toNat)
      | _ => .none) (fun Q q => ⟨by omega, by omega, q⟩) (by rw [rng_len]; omega) (fun e he Q q => ?_) ?_
    · obtain ⟨j, hj, rfl⟩ := List.mem_map.mp he
      rw [List.mem_range] at hj
      have hjB : j < B := by omega
      obtain ⟨s1, s2⟩ := timesD_spec hc hjB
      have key := hF.2 _ s1
      try simp only [wSeq, wIfS, wTV, w2, w3, wCall, wCallS, wCons, wNil, wVar, wC, fI, fI0, fLen, fStr, f1I, f2I, wRet, wNext, wSet, wSetO, wAsg, wN, wGNil, wGCons, wGTup, wTup, wLst, wMNil, wMD, wMO, wPar, wPar3, wAug, wISeq, wIR1, wIR2, wApp, wTupOf, wDrop, wNeg, wAnd, wOr, wNot, wAndV, wOrV, wNotV, wIf, wBits, fEq, fNe, fIsN, fNotN, isN, fIsB, frz, wYes, wSlT, wSlL, wNP, wPt, wRevL, wCatL, fCatT, wBor, frzAt, wipeE, List.map_cons, List.map_nil, List.getElem?_cons_zero, List.getElem?_cons_succ, List.set_cons_zero, List.set_cons_succ, Bool.not_true, Bool.not_false, wDGet,  keyD]
      refine ⟨_, ?_, q⟩
      dsimp only at key
      rw [s2] at key
      rw [Int.zero_add]
      exact key
    · refine ⟨B, timesPs B ps often, .inr ?_, by unfold timesPs; rw [List.length_map, List.length_range]; omega, fun p hp => ?_, hR⟩
      · unfold timesPs rng
        rw [List.map_map, List.map_map, show ((B : Int) - 0).toNat = B by omega]
        refine congrArg (fun l => [PyData.int (B : Int), PyData.list l]) (List.map_congr_left fun j _ => ?_)
        show timesV ps often (timesD B often (0 + (j : Int)).toNat) = _
        rw [Int.zero_add]
        rfl
      · obtain ⟨j, hj, rfl⟩ := List.mem_map.mp hp
        rw [List.mem_range] at hj
        have hb := hsz _ (prA_mem G (timesD_spec hc hj).1)
        exact ⟨big_250 (Nat.le_trans hb.1 (by decide)), big_250 (Nat.le_trans (sz_times hb.2 hf) (by decide))⟩
theorem sc_taken_told : FnScope ["rule", "many", "power", "rest"] ["rule", "many"] (defScope s_taken_told) := ⟨rfl, rfl, rfl, by decide +kernel, rfl, by decide +kernel, by decide +kernel⟩
theorem d_taken_told (T : Tx K mg) : DefP P w K mg base 7 "taken_told" false 2 wf_taken_told := by
  refine def_ok T.at_taken_told sc_taken_told rfl (fun _ _ _ _ _ _ us hl => match us, hl with | [_, _], _ => rfl) (fun f cdv A outer s H E hr => ?_)
  have nd := sc_taken_told.nd
  have hu := hr.units
  refine ⟨_, _, (xs_cons (x_ifS (xt_w (xw_or (xt_gt (x_mul (x_var 1) (x_sub (x_bits (x_ix (x_var 0) x_int)) x_int)) (x_glob T.c_MOST_BASE)) (xw_or1 (xt_gt (x_call (d_power_made T) (hr.mono (by decide)) (xa_cons (x_ix (x_var 0) x_int) (xa_cons (x_var 1) xa_nil))) (x_glob T.c_MOST_BASE))))) (xs_one x_never) xs_nil) (xs_cons (x_set 2 (x_call (d_power_made T) (hr.mono (by decide)) (xa_cons (x_ix (x_var 0) x_int) (xa_cons (x_var 1) xa_nil))) nd) (xs_one (x_ret (x_call (d_rule_told T) (hr.mono (by decide)) (xa_cons (x_var 2) (xa_cons (x_frz (o_lc [("rest", 3)] nd (xi_rng1 T.b_range (x_var 2)) (by show blkC ["rule", "many", "power", "rest"] (defScope s_taken_told) _ _ = true; decide +kernel) (fun _ _ _ _ _ => (xg_name 3 nd)) (fun _ _ _ _ _ => xts_nil) (fun _ _ _ _ _ => (x_call (d_line_of T) (hr.mono (by decide)) (xa_cons (x_var 0) (xa_cons (x_ix (x_call (d_digits_of T) (hr.mono (by decide)) (xa_cons (x_var 0) (xa_cons (x_tup (xa_cons (x_var 3) (xa_cons x_int xa_nil))) (xa_cons (x_var 1) xa_nil)))) x_int) xa_nil)))))) xa_nil))))))), ?_⟩
  clear nd hu hr
  intro ds R hl h
  obtain ⟨B, ps, S, n, rfl, hn, G, p, hw, hbig, hR⟩ := h
  have hB2 := G.b2
  have hS := p.b
  have hb := bits_le (by omega) hw
  have hbb : B ^ n < Big := Nat.lt_of_le_of_lt hw (by unfold Big; decide +kernel)
  refine (show (_ : PL.WS) [Sl.dat _, Sl.dat _, Sl.no, Sl.no] _ from ?_)
  try simp only [wSeq, wIfS, wTV, w2, w3, wCall, wCallS, wCons, wNil, wVar, wC, fI, fI0, fLen, fStr, f1I, f2I, wRet, wNext, wSet, wSetO, wAsg, wN, wGNil, wGCons, wGTup, wTup, wLst, wMNil, wMD, wMO, wPar, wPar3, wAug, wISeq, wIR1, wIR2, wApp, wTupOf, wDrop, wNeg, wAnd, wOr, wNot, wAndV, wOrV, wNotV, wIf, wBits, fEq, fNe, fIsN, fNotN, isN, fIsB, frz, wYes, wSlT, wSlL, wNP, wPt, wRevL, wCatL, fCatT, wBor, frzAt, wipeE, List.map_cons, List.map_nil, List.getElem?_cons_zero, List.getElem?_cons_succ, List.set_cons_zero, List.set_cons_succ, Bool.not_true, Bool.not_false, encR,  fIx]
  refine ⟨_, rfl, ?_⟩
  dsimp only
  rw [decide_eq_false (by omega)]
  refine ⟨mulOkL (by omega) (by omega), _, rfl, B, n, rfl, by omega, hbb, ?_⟩
  dsimp only
  rw [decide_eq_false (by omega)]
  refine ⟨_, rfl, B, n, rfl, by omega, hbb, ?_⟩
  refine wlc_map (rng 0 (B ^ n : Nat)) (fun d => match d with
    | .int i => encF ((lin B ps (digs B ps n (i, 1))).1, (lin B ps (digs B ps n (i, 1))).2.1)
    | _ => .none) (fun Q q => ⟨by omega, by omega, q⟩) (by rw [rng_len]; omega) (fun e he Q q => ?_) ?_
  · obtain ⟨i, hi, rfl⟩ := List.mem_map.mp he
    rw [List.mem_range] at hi
    have X := good_int (B := B) (by omega) (0 + (i : Int))
    try simp only [wSeq, wIfS, wTV, w2, w3, wCall, wCallS, wCons, wNil, wVar, wC, fI, fI0, fLen, fStr, f1I, f2I, wRet, wNext, wSet, wSetO, wAsg, wN, wGNil, wGCons, wGTup, wTup, wLst, wMNil, wMD, wMO, wPar, wPar3, wAug, wISeq, wIR1, wIR2, wApp, wTupOf, wDrop, wNeg, wAnd, wOr, wNot, wAndV, wOrV, wNotV, wIf, wBits, fEq, fNe, fIsN, fNotN, isN, fIsB, frz, wYes, wSlT, wSlL, wNP, wPt, wRevL, wCatL, fCatT, wBor, frzAt, wipeE, List.map_cons, List.map_nil, List.getElem?_cons_zero, List.getElem?_cons_succ, List.set_cons_zero, List.set_cons_succ, Bool.not_true, Bool.not_false, fIx]
    refine ⟨B, ps, (0 + (i : Int), 1), S, 64, n, rfl, by omega, ⟨G, X, p, ⟨by show (0 + (i : Int)).natAbs ≤ 64; omega, by show (1 : Int).natAbs ≤ 64; decide⟩, ?_⟩, ?_⟩
    · have : S ^ n * 64 ≤ (n + 64) * S ^ n := by rw [Nat.mul_comm]; exact Nat.mul_le_mul_right _ (by omega)
      omega
    try simp only [wSeq, wIfS, wTV, w2, w3, wCall, wCallS, wCons, wNil, wVar, wC, fI, fI0, fLen, fStr, f1I, f2I, wRet, wNext, wSet, wSetO, wAsg, wN, wGNil, wGCons, wGTup, wTup, wLst, wMNil, wMD, wMO, wPar, wPar3, wAug, wISeq, wIR1, wIR2, wApp, wTupOf, wDrop, wNeg, wAnd, wOr, wNot, wAndV, wOrV, wNotV, wIf, wBits, fEq, fNe, fIsN, fNotN, isN, fIsB, frz, wYes, wSlT, wSlL, wNP, wPt, wRevL, wCatL, fCatT, wBor, frzAt, wipeE, List.map_cons, List.map_nil, List.getElem?_cons_zero, List.getElem?_cons_succ, List.set_cons_zero, List.set_cons_succ, Bool.not_true, Bool.not_false, fIx]
    refine ⟨_, rfl, B, ps, _, S, rfl, G, p, digs_lt G X, ?_, q⟩
    rw [digs_len]
    exact Nat.lt_of_le_of_lt (Nat.mul_le_mul_right _ (by omega)) hbig
  · refine ⟨B ^ n, takenPs B ps n, .inr ?_, by unfold takenPs; rw [List.length_map, List.length_range]; omega, fun q hq => ?_, hR⟩
    · congr 3
      unfold takenPs rng
      rw [List.map_map, List.map_map]
      have e : (List.range (((B ^ n : Nat) : Int) - 0).toNat) = List.range (B ^ n) := by rw [Int.sub_zero]; rfl
      rw [e]
      refine List.map_congr_left fun i _ => ?_
      show encF ((lin B ps (digs B ps n (0 + (i : Int), 1))).1, (lin B ps (digs B ps n (0 + (i : Int), 1))).2.1) = _
      rw [Int.zero_add]
      rfl
    · obtain ⟨r, _, rfl⟩ := List.mem_map.mp hq
      obtain ⟨c1, c2, _⟩ := lin_bd G p (digs B ps n ((r : Int), 1)) (digs_lt G (good_int (by omega) _))
      rw [digs_len] at c1 c2
      have e0 : S ^ n ≤ (n + 64) * S ^ n := Nat.le_mul_of_pos_left _ (by omega)
      have e1 : n * S ^ n ≤ (n + 64) * S ^ n := Nat.mul_le_mul_right _ (by omega)
      exact ⟨by show (lin B ps _).1.natAbs < Big; omega, by show (lin B ps _).2.1.natAbs < Big; omega⟩
theorem sc_class_line : FnScope ["rule", "many", "rest", "digits", "here"] ["rule", "many", "rest"] (defScope s_class_line) := ⟨rfl, rfl, rfl, by decide +kernel, rfl, by decide +kernel, by decide +kernel⟩
theorem d_class_line (T : Tx K mg) : DefP P w K mg base 7 "class_line" false 3 wf_class_line := by
  refine def_ok T.at_class_line sc_class_line rfl (fun _ _ _ _ _ _ us hl => match us, hl with | [_, _, _], _ => rfl) (fun f cdv A outer s H E hr => ?_)
  have nd := sc_class_line.nd
  have hu := hr.units
  refine ⟨_, _, (xs_cons (x_asg (x_call (d_digits_of T) (hr.mono (by decide)) (xa_cons (x_var 0) (xa_cons (x_tup (xa_cons (x_var 2) (xa_cons x_int xa_nil))) (xa_cons (x_var 1) xa_nil)))) (xg_tup (xgs_cons (xg_name 3 nd) (xgs_cons (xg_name 4 nd) xgs_nil)))) (xs_one (x_ret (x_tup (xa_cons (x_ix (x_call (d_line_of T) (hr.mono (by decide)) (xa_cons (x_var 0) (xa_cons (x_var 3) xa_nil))) x_int) (xa_cons (x_ix (x_var 4) x_int) xa_nil)))))), ?_⟩
  clear nd hu hr
  intro ds R hl h
  obtain ⟨B, ps, t, S, M, n, rfl, z, hR⟩ := h
  refine (show (_ : PL.WS) [Sl.dat _, Sl.dat _, Sl.dat _, Sl.no, Sl.no] _ from ?_)
  try simp only [wSeq, wIfS, wTV, w2, w3, wCall, wCallS, wCons, wNil, wVar, wC, fI, fI0, fLen, fStr, f1I, f2I, wRet, wNext, wSet, wSetO, wAsg, wN, wGNil, wGCons, wGTup, wTup, wLst, wMNil, wMD, wMO, wPar, wPar3, wAug, wISeq, wIR1, wIR2, wApp, wTupOf, wDrop, wNeg, wAnd, wOr, wNot, wAndV, wOrV, wNotV, wIf, wBits, fEq, fNe, fIsN, fNotN, isN, fIsB, frz, wYes, wSlT, wSlL, wNP, wPt, wRevL, wCatL, fCatT, wBor, frzAt, wipeE, List.map_cons, List.map_nil, List.getElem?_cons_zero, List.getElem?_cons_succ, List.set_cons_zero, List.set_cons_succ, Bool.not_true, Bool.not_false, fIx]
  refine ⟨B, ps, (t, 1), S, M, n, rfl, by have := z.few; omega, z.s, ?_⟩
  try simp only [wSeq, wIfS, wTV, w2, w3, wCall, wCallS, wCons, wNil, wVar, wC, fI, fI0, fLen, fStr, f1I, f2I, wRet, wNext, wSet, wSetO, wAsg, wN, wGNil, wGCons, wGTup, wTup, wLst, wMNil, wMD, wMO, wPar, wPar3, wAug, wISeq, wIR1, wIR2, wApp, wTupOf, wDrop, wNeg, wAnd, wOr, wNot, wAndV, wOrV, wNotV, wIf, wBits, fEq, fNe, fIsN, fNotN, isN, fIsB, frz, wYes, wSlT, wSlL, wNP, wPt, wRevL, wCatL, fCatT, wBor, frzAt, wipeE, List.map_cons, List.map_nil, List.getElem?_cons_zero, List.getElem?_cons_succ, List.set_cons_zero, List.set_cons_succ, Bool.not_true, Bool.not_false, fIx]
  refine ⟨rfl, B, ps, _, S, rfl, z.s.R, z.s.p, digs_lt z.s.R z.s.X, by rw [digs_len]; exact z.line, ?_⟩
  try simp only [wSeq, wIfS, wTV, w2, w3, wCall, wCallS, wCons, wNil, wVar, wC, fI, fI0, fLen, fStr, f1I, f2I, wRet, wNext, wSet, wSetO, wAsg, wN, wGNil, wGCons, wGTup, wTup, wLst, wMNil, wMD, wMO, wPar, wPar3, wAug, wISeq, wIR1, wIR2, wApp, wTupOf, wDrop, wNeg, wAnd, wOr, wNot, wAndV, wOrV, wNotV, wIf, wBits, fEq, fNe, fIsN, fNotN, isN, fIsB, frz, wYes, wSlT, wSlL, wNP, wPt, wRevL, wCatL, fCatT, wBor, frzAt, wipeE, List.map_cons, List.map_nil, List.getElem?_cons_zero, List.getElem?_cons_succ, List.set_cons_zero, List.set_cons_succ, Bool.not_true, Bool.not_false, encF,  fIx]
  refine ⟨_, rfl, _, rfl, ?_⟩
  rw [lin_A]
  exact hR
theorem sc_below_from : FnScope ["rule", "many", "rest", "factor", "more", "power"] ["rule", "many", "rest"] (defScope s_below_from) := ⟨rfl, rfl, rfl, by decide +kernel, rfl, by decide +kernel, by decide +kernel⟩
theorem d_below_from (T : Tx K mg) : DefP P w K mg base 8 "below_from" false 3 wf_below_from := by
  refine def_ok T.at_below_from sc_below_from rfl (fun _ _ _ _ _ _ us hl => match us, hl with | [_, _, _], _ => rfl) (fun f cdv A outer s H E hr => ?_)
  have nd := sc_below_from.nd
  have hu := hr.units
  refine ⟨_, _, (xs_cons (x_asg (x_call (d_class_line T) (hr.mono (by decide)) (xa_cons (x_var 0) (xa_cons (x_var 1) (xa_cons (x_var 2) xa_nil)))) (xg_tup (xgs_cons (xg_name 3 nd) (xgs_cons (xg_name 4 nd) xgs_nil)))) (xs_cons (x_set 5 (x_call (d_power_made T) (hr.mono (by decide)) (xa_cons (x_ix (x_var 0) x_int) (xa_cons (x_var 1) xa_nil))) nd) (xs_cons (x_ifS (xt_ge (x_var 3) (x_var 5)) (xs_one (x_ret x_non)) xs_nil) (xs_one (x_ret (x_max2 T.b_max (xa_cons x_int (xa_cons (x_add (x_div (x_sub (x_var 4) (x_var 2)) (x_sub (x_var 5) (x_var 3))) x_int) xa_nil)))))))), ?_⟩
  clear nd hu hr
  intro ds R hl h
  obtain ⟨B, ps, t, S, M, n, rfl, z, hR⟩ := h
  have hB2 := z.s.R.b2
  have hS := z.s.p.b
  have hpS : B ^ n ≤ S ^ n := Nat.pow_le_pow_left hS n
  have hl1 := z.line
  have e0 : S ^ n ≤ (n + 1) * S ^ n := Nat.le_mul_of_pos_left _ (by omega)
  obtain ⟨c1, _, _⟩ := lin_bd z.s.R z.s.p (digs B ps n (t, 1)) (digs_lt z.s.R z.s.X)
  rw [digs_len, lin_A] at c1
  refine (show (_ : PL.WS) [Sl.dat _, Sl.dat _, Sl.dat _, Sl.no, Sl.no, Sl.no] _ from ?_)
  try simp only [wSeq, wIfS, wTV, w2, w3, wCall, wCallS, wCons, wNil, wVar, wC, fI, fI0, fLen, fStr, f1I, f2I, wRet, wNext, wSet, wSetO, wAsg, wN, wGNil, wGCons, wGTup, wTup, wLst, wMNil, wMD, wMO, wPar, wPar3, wAug, wISeq, wIR1, wIR2, wApp, wTupOf, wDrop, wNeg, wAnd, wOr, wNot, wAndV, wOrV, wNotV, wIf, wBits, fEq, fNe, fIsN, fNotN, isN, fIsB, frz, wYes, wSlT, wSlL, wNP, wPt, wRevL, wCatL, fCatT, wBor, frzAt, wipeE, List.map_cons, List.map_nil, List.getElem?_cons_zero, List.getElem?_cons_succ, List.set_cons_zero, List.set_cons_succ, Bool.not_true, Bool.not_false, fIx]
  refine ⟨B, ps, t, S, M, n, rfl, z, ?_⟩
  try simp only [wSeq, wIfS, wTV, w2, w3, wCall, wCallS, wCons, wNil, wVar, wC, fI, fI0, fLen, fStr, f1I, f2I, wRet, wNext, wSet, wSetO, wAsg, wN, wGNil, wGCons, wGTup, wTup, wLst, wMNil, wMD, wMO, wPar, wPar3, wAug, wISeq, wIR1, wIR2, wApp, wTupOf, wDrop, wNeg, wAnd, wOr, wNot, wAndV, wOrV, wNotV, wIf, wBits, fEq, fNe, fIsN, fNotN, isN, fIsB, frz, wYes, wSlT, wSlL, wNP, wPt, wRevL, wCatL, fCatT, wBor, frzAt, wipeE, List.map_cons, List.map_nil, List.getElem?_cons_zero, List.getElem?_cons_succ, List.set_cons_zero, List.set_cons_succ, Bool.not_true, Bool.not_false, fIx,  encR]
  refine ⟨rfl, _, rfl, B, n, rfl, by omega, by omega, ?_⟩
  dsimp only
  unfold belowD at hR
  rw [show ((B : Int) ^ n) = ((B ^ n : Nat) : Int) by push_cast; rfl] at hR
  generalize pA ps (digs B ps n (t, 1)) = A at *
  generalize (it B ps n (t, 1)).1 = s at *
  by_cases hq : ((B ^ n : Nat) : Int) ≤ A
  · rw [if_pos hq] at hR
    rw [decide_eq_true hq]
    exact hR
  · rw [if_neg hq] at hR
    rw [decide_eq_false hq]
    exact ⟨divOk2 (by omega) (by omega), hR⟩
theorem sc_class_told : FnScope ["rule", "many", "rest"] ["rule", "many", "rest"] (defScope s_class_told) := ⟨rfl, rfl, rfl, by decide +kernel, rfl, by decide +kernel, by decide +kernel⟩
theorem d_class_told (T : Tx K mg) : DefP P w K mg base 9 "class_told" false 3 wf_class_told := by
  refine def_ok T.at_class_told sc_class_told rfl (fun _ _ _ _ _ _ us hl => match us, hl with | [_, _, _], _ => rfl) (fun f cdv A outer s H E hr => ?_)
  have nd := sc_class_told.nd
  have hu := hr.units
  refine ⟨_, _, (xs_one (x_ret (x_tup (xa_cons (x_call (d_class_line T) (hr.mono (by decide)) (xa_cons (x_var 0) (xa_cons (x_var 1) (xa_cons (x_var 2) xa_nil)))) (xa_cons (x_call (d_below_from T) (hr.mono (by decide)) (xa_cons (x_var 0) (xa_cons (x_var 1) (xa_cons (x_var 2) xa_nil)))) xa_nil))))), ?_⟩
  clear nd hu hr
  intro ds R hl h
  obtain ⟨B, ps, t, S, M, n, rfl, z, hR⟩ := h
  refine (show (_ : PL.WS) [Sl.dat _, Sl.dat _, Sl.dat _] _ from ?_)
  try simp only [wSeq, wIfS, wTV, w2, w3, wCall, wCallS, wCons, wNil, wVar, wC, fI, fI0, fLen, fStr, f1I, f2I, wRet, wNext, wSet, wSetO, wAsg, wN, wGNil, wGCons, wGTup, wTup, wLst, wMNil, wMD, wMO, wPar, wPar3, wAug, wISeq, wIR1, wIR2, wApp, wTupOf, wDrop, wNeg, wAnd, wOr, wNot, wAndV, wOrV, wNotV, wIf, wBits, fEq, fNe, fIsN, fNotN, isN, fIsB, frz, wYes, wSlT, wSlL, wNP, wPt, wRevL, wCatL, fCatT, wBor, frzAt, wipeE, List.map_cons, List.map_nil, List.getElem?_cons_zero, List.getElem?_cons_succ, List.set_cons_zero, List.set_cons_succ, Bool.not_true, Bool.not_false, fIx]
  exact ⟨B, ps, t, S, M, n, rfl, z, B, ps, t, S, M, n, rfl, z, hR⟩
theorem sc_law_source : FnScope ["script", "mixed", "cell"] ["script"] (defScope s_law_source) := ⟨rfl, rfl, rfl, by decide +kernel, rfl, by decide +kernel, by decide +kernel⟩
theorem d_law_source (T : Tx K mg) : SrcP P w K mg base 2 := by
  refine src_ok T.at_law_source sc_law_source (fun _ _ _ _ _ _ us hl => match us, hl with | [_], _ => rfl) (fun f cdv A outer s H E hr => ?_)
  have nd := sc_law_source.nd
  refine src_body (x_set 1 x_int nd) (x_for (xi_seq (x_var 0)) (xg_name 2 nd) (xs_one (x_set 1 (x_mod (x_int1 T.b_int (xa_cons (x_add (x_add (x_mul (x_var 1) x_int) (x_mul (x_var 2) x_int)) x_int) xa_nil)) x_int) nd))) (o_revL (x_frz (o_lc [("cell", 2)] nd (xi_seq (x_var 0)) (by show blkC ["script", "mixed", "cell"] (defScope s_law_source) _ _ = true; decide +kernel) (fun _ _ _ _ _ => (xg_name 2 nd)) (fun _ _ _ _ _ => xts_nil) (fun _ _ _ _ _ => (x_abs T.b_abs (xa_cons (x_var 2) xa_nil)))))) (pv 1) ?_ ?_
  all_goals clear nd hr
  · intro ns R hn h
    try simp only [wSeq, wIfS, wTV, w2, w3, wCall, wCallS, wCons, wNil, wVar, wC, fI, fI0, fLen, fStr, f1I, f2I, wRet, wNext, wSet, wSetO, wAsg, wN, wGNil, wGCons, wGTup, wTup, wLst, wMNil, wMD, wMO, wPar, wPar3, wAug, wISeq, wIR1, wIR2, wApp, wTupOf, wDrop, wNeg, wAnd, wOr, wNot, wAndV, wOrV, wNotV, wIf, wBits, fEq, fNe, fIsN, fNotN, isN, fIsB, frz, wYes, wSlT, wSlL, wNP, wPt, wRevL, wCatL, fCatT, wBor, frzAt, wipeE, List.map_cons, List.map_nil, List.getElem?_cons_zero, List.getElem?_cons_succ, List.set_cons_zero, List.set_cons_succ, Bool.not_true, Bool.not_false, intsD]
    refine ⟨fun i ρ => ∃ m s, ρ = [Sl.dat (intsD ns), Sl.dat (.int m), s] ∧ 0 ≤ m ∧ m < 2147483647, ⟨11, .no, rfl, by decide, by decide⟩, ?_, ?_⟩
    · rintro i d ρ hd ⟨m, s, rfl, h0, h1⟩
      obtain ⟨z, rfl⟩ := ints_at hd
      try simp only [wSeq, wIfS, wTV, w2, w3, wCall, wCallS, wCons, wNil, wVar, wC, fI, fI0, fLen, fStr, f1I, f2I, wRet, wNext, wSet, wSetO, wAsg, wN, wGNil, wGCons, wGTup, wTup, wLst, wMNil, wMD, wMO, wPar, wPar3, wAug, wISeq, wIR1, wIR2, wApp, wTupOf, wDrop, wNeg, wAnd, wOr, wNot, wAndV, wOrV, wNotV, wIf, wBits, fEq, fNe, fIsN, fNotN, isN, fIsB, frz, wYes, wSlT, wSlL, wNP, wPt, wRevL, wCatL, fCatT, wBor, frzAt, wipeE, List.map_cons, List.map_nil, List.getElem?_cons_zero, List.getElem?_cons_succ, List.set_cons_zero, List.set_cons_succ, Bool.not_true, Bool.not_false]
      exact ⟨mulOk_r (by decide) (by decide), mulOk_r (by decide) (by decide), by decide, _, _, rfl, by omega, by omega⟩
    · rintro ρ ⟨m, s, rfl, h0, h1⟩
      exact h m s h0 h1
  · intro ns m s P hn h
    try simp only [wSeq, wIfS, wTV, w2, w3, wCall, wCallS, wCons, wNil, wVar, wC, fI, fI0, fLen, fStr, f1I, f2I, wRet, wNext, wSet, wSetO, wAsg, wN, wGNil, wGCons, wGTup, wTup, wLst, wMNil, wMD, wMO, wPar, wPar3, wAug, wISeq, wIR1, wIR2, wApp, wTupOf, wDrop, wNeg, wAnd, wOr, wNot, wAndV, wOrV, wNotV, wIf, wBits, fEq, fNe, fIsN, fNotN, isN, fIsB, frz, wYes, wSlT, wSlL, wNP, wPt, wRevL, wCatL, fCatT, wBor, frzAt, wipeE, List.map_cons, List.map_nil, List.getElem?_cons_zero, List.getElem?_cons_succ, List.set_cons_zero, List.set_cons_succ, Bool.not_true, Bool.not_false, intsD]
    refine wlc_map (ns.map PyData.int) (fun d => match d with
      | .int i => .int (absI i)
      | _ => .none) (fun Q q => q) (by rw [List.length_map]; omega) (fun e he Q q => ?_) ?_
    · obtain ⟨z, _, rfl⟩ := List.mem_map.mp he
      exact q
    · rw [List.map_map]
      rw [← List.map_reverse, List.map_map] at h
      try simp only [wSeq, wIfS, wTV, w2, w3, wCall, wCallS, wCons, wNil, wVar, wC, fI, fI0, fLen, fStr, f1I, f2I, wRet, wNext, wSet, wSetO, wAsg, wN, wGNil, wGCons, wGTup, wTup, wLst, wMNil, wMD, wMO, wPar, wPar3, wAug, wISeq, wIR1, wIR2, wApp, wTupOf, wDrop, wNeg, wAnd, wOr, wNot, wAndV, wOrV, wNotV, wIf, wBits, fEq, fNe, fIsN, fNotN, isN, fIsB, frz, wYes, wSlT, wSlL, wNP, wPt, wRevL, wCatL, fCatT, wBor, frzAt, wipeE, List.map_cons, List.map_nil, List.getElem?_cons_zero, List.getElem?_cons_succ, List.set_cons_zero, List.set_cons_succ, Bool.not_true, Bool.not_false]
      rw [← List.map_reverse]
      exact h
theorem sc_law_pick : FnScope ["source", "many", "left", "mixed"] ["source", "many"] (defScope s_law_pick) := ⟨rfl, rfl, rfl, by decide +kernel, rfl, by decide +kernel, by decide +kernel⟩
theorem d_law_pick (T : Tx K mg) : DefP P w K mg base 1 "_law_pick" true 1 wf_law_pick := by
  refine def_ok T.at_law_pick sc_law_pick rfl (fun _ _ _ _ _ _ us hl => match us, hl with | [_, _], _ => rfl) (fun f cdv A outer s H E hr => ?_)
  have nd := sc_law_pick.nd
  have hu := hr.units
  refine ⟨_, wPick, ⟨((xs_cons (x_while (xt_w (xw_and (xt_gt (x_var 1) x_int) (xw_and (xt_lt (x_sget hu (x_var 0)) x_int) (xw_and1 (xt_gt (x_len T.b_len (xa_cons (x_sget hu (x_var 0)) xa_nil)) x_int))))) (xs_one (x_sput hu (x_var 0) (x_spop (x_sget hu (x_var 0)))))) (xs_cons (x_set 2 (x_sget hu (x_var 0)) nd) (xs_cons (x_ifS (xt_w (xw_or (xt_lt (x_var 1) x_int) (xw_or1 (xt_gt (x_var 2) x_int)))) (xs_cons (x_sput hu (x_var 0) (x_div (x_var 2) (x_max2 T.b_max (xa_cons x_int (xa_cons (x_var 1) xa_nil))))) (xs_one (x_ret (x_mod (x_int1 T.b_int (xa_cons (x_var 2) xa_nil)) (x_max2 T.b_max (xa_cons x_int (xa_cons (x_var 1) xa_nil))))))) xs_nil) (xs_cons (x_sput hu (x_var 0) (x_add (x_sget hu (x_var 0)) x_int)) (xs_cons (x_set 3 (x_mod (x_int1 T.b_int (xa_cons (x_add (x_sget hu (x_var 0)) (x_mul (x_sget hu (x_var 0)) x_int)) xa_nil)) x_int) nd) (xs_cons (x_set 3 (x_mod (x_int1 T.b_int (xa_cons (x_add (x_mul (x_var 3) (x_var 3)) (x_mul (x_sget hu (x_var 0)) x_int)) xa_nil)) x_int) nd) (xs_cons (x_sput hu (x_var 0) (x_var 3)) (xs_one (x_ret (x_mod (x_int1 T.b_int (xa_cons (x_div (x_var 3) x_int) xa_nil)) (x_var 1)))))))))))).pe, ?_⟩, ?_⟩
  clear nd hu hr
  · exact ev_pick
  · rintro ds R hl ⟨m, rfl, h0, h1, hR⟩
    exact ⟨m, rfl, h0, h1, hR⟩
theorem sc_law_of : FnScope ["source", "some"] ["source", "some"] (defScope s_law_of) := ⟨rfl, rfl, rfl, by decide +kernel, rfl, by decide +kernel, by decide +kernel⟩
theorem d_law_of (T : Tx K mg) : DefP P w K mg base 2 "_law_of" true 1 wf_law_of := by
  refine def_ok T.at_law_of sc_law_of rfl (fun _ _ _ _ _ _ us hl => match us, hl with | [_, _], _ => rfl) (fun f cdv A outer s H E hr => ?_)
  have nd := sc_law_of.nd
  have hu := hr.units
  refine ⟨_, _, (xs_one (x_ret (x_ix (x_var 1) (x_callS 0 (d_law_pick T) (hr.mono (by decide)) (pv 0) (xa_cons (x_len T.b_len (xa_cons (x_var 1) xa_nil)) xa_nil))))), ?_⟩
  clear nd hu hr
  intro ds R hl h
  obtain ⟨l, hds, h0, h1, hR⟩ := h
  have go : ∀ r : Int, 0 ≤ r → r < ((l.length : Nat) : Int) → ∃ d, ixD l r = some d ∧ R d := fun r r0 r1 => by
    obtain ⟨k, rfl⟩ := Int.eq_ofNat_of_zero_le r0
    have hk : k < l.length := by omega
    exact ⟨l[k], by show l[k]? = some _; simp [hk], hR _ (List.getElem_mem hk)⟩
  rcases hds with rfl | rfl
  · refine (show (_ : PL.WS) [Sl.src, Sl.dat _] _ from ?_)
    try simp only [wSeq, wIfS, wTV, w2, w3, wCall, wCallS, wCons, wNil, wVar, wC, fI, fI0, fLen, fStr, f1I, f2I, wRet, wNext, wSet, wSetO, wAsg, wN, wGNil, wGCons, wGTup, wTup, wLst, wMNil, wMD, wMO, wPar, wPar3, wAug, wISeq, wIR1, wIR2, wApp, wTupOf, wDrop, wNeg, wAnd, wOr, wNot, wAndV, wOrV, wNotV, wIf, wBits, fEq, fNe, fIsN, fNotN, isN, fIsB, frz, wYes, wSlT, wSlL, wNP, wPt, wRevL, wCatL, fCatT, wBor, frzAt, wipeE, List.map_cons, List.map_nil, List.getElem?_cons_zero, List.getElem?_cons_succ, List.set_cons_zero, List.set_cons_succ, Bool.not_true, Bool.not_false, fIx]
    exact ⟨_, rfl, by omega, by omega, fun r r0 r1 => go r r0 r1⟩
  · refine (show (_ : PL.WS) [Sl.src, Sl.dat _] _ from ?_)
    try simp only [wSeq, wIfS, wTV, w2, w3, wCall, wCallS, wCons, wNil, wVar, wC, fI, fI0, fLen, fStr, f1I, f2I, wRet, wNext, wSet, wSetO, wAsg, wN, wGNil, wGCons, wGTup, wTup, wLst, wMNil, wMD, wMO, wPar, wPar3, wAug, wISeq, wIR1, wIR2, wApp, wTupOf, wDrop, wNeg, wAnd, wOr, wNot, wAndV, wOrV, wNotV, wIf, wBits, fEq, fNe, fIsN, fNotN, isN, fIsB, frz, wYes, wSlT, wSlL, wNP, wPt, wRevL, wCatL, fCatT, wBor, frzAt, wipeE, List.map_cons, List.map_nil, List.getElem?_cons_zero, List.getElem?_cons_succ, List.set_cons_zero, List.set_cons_succ, Bool.not_true, Bool.not_false, fIx]
    exact ⟨_, rfl, by omega, by omega, fun r r0 r1 => go r r0 r1⟩
theorem step_half {x y : Nat} (h : y < x) (hy : 0 < y) : 2 * (y * (x % y)) ≤ x * y := by
  have e := Nat.div_add_mod x y
  have hr := Nat.mod_lt x hy
  have hq : 1 ≤ x / y := (Nat.one_le_div_iff hy).mpr (by omega)
  have h1 : y * 1 ≤ y * (x / y) := Nat.mul_le_mul_left _ hq
  have h2 : 2 * (x % y) ≤ x := by omega
  calc 2 * (y * (x % y)) = y * (2 * (x % y)) := by grind
    _ ≤ y * x := Nat.mul_le_mul_left _ h2
    _ = x * y := Nat.mul_comm _ _
theorem sc_law_shared : FnScope ["one", "other", "lap"] ["one", "other"] (defScope s_law_shared) := ⟨rfl, rfl, rfl, by decide +kernel, rfl, by decide +kernel, by decide +kernel⟩
theorem d_law_shared (T : Tx K mg) : DefP P w K mg base 1 "_law_shared" false 2 wf66_law_shared := by
  refine def_ok T.at_law_shared sc_law_shared rfl (fun _ _ _ _ _ _ us hl => match us, hl with | [_, _], _ => rfl) (fun f cdv A outer s H E hr => ?_)
  have nd := sc_law_shared.nd
  have hu := hr.units
  refine ⟨_, _, (xs_cons (x_par 0 1 (xm_dat (x_abs T.b_abs (xa_cons (x_var 0) xa_nil)) (xm_dat (x_abs T.b_abs (xa_cons (x_var 1) xa_nil)) xm_nil)) nd) (xs_cons (x_for (xi_rng1 T.b_range x_int) (xg_name 2 nd) (xs_cons (x_ifS (xt_eq hu (x_var 1) x_int) (xs_one x_brk) xs_nil) (xs_one (x_par 0 1 (xm_dat (x_var 1) (xm_dat (x_mod (x_int1 T.b_int (xa_cons (x_var 0) xa_nil)) (x_var 1)) xm_nil)) nd)))) (xs_one (x_ret (x_var 0))))), ?_⟩
  clear nd hu hr
  intro ds R hl h
  obtain ⟨a, b, rfl, ha, hb, hR⟩ := h
  have hP : a.natAbs * b.natAbs < 2 ^ 2000 := by
    have h1 : a.natAbs * b.natAbs ≤ Big * Big := Nat.mul_le_mul (by omega) (by omega)
    exact Nat.lt_of_le_of_lt h1 (by unfold Big; decide +kernel)
  refine (show (_ : PL.WS) [Sl.dat _, Sl.dat _, Sl.no] _ from ?_)
  try simp only [wSeq, wIfS, wTV, w2, w3, wCall, wCallS, wCons, wNil, wVar, wC, fI, fI0, fLen, fStr, f1I, f2I, wRet, wNext, wSet, wSetO, wAsg, wN, wGNil, wGCons, wGTup, wTup, wLst, wMNil, wMD, wMO, wPar, wPar3, wAug, wISeq, wIR1, wIR2, wApp, wTupOf, wDrop, wNeg, wAnd, wOr, wNot, wAndV, wOrV, wNotV, wIf, wBits, fEq, fNe, fIsN, fNotN, isN, fIsB, frz, wYes, wSlT, wSlL, wNP, wPt, wRevL, wCatL, fCatT, wBor, frzAt, wipeE, List.map_cons, List.map_nil, List.getElem?_cons_zero, List.getElem?_cons_succ, List.set_cons_zero, List.set_cons_succ, Bool.not_true, Bool.not_false]
  refine ⟨by decide, by decide, fun i ρ => ∃ (x y : Nat) (s : Sl), ρ = [Sl.dat (.int (x : Nat)), Sl.dat (.int (y : Nat)), s] ∧ Nat.gcd x y = Int.gcd a b ∧ (i = 0 → x * y < 2 ^ 2000) ∧ (1 ≤ i → y < x ∧ x * y * 2 ^ (i - 1) < 2 ^ 2000), ⟨a.natAbs, b.natAbs, .no, by rw [absI_nat, absI_nat], rfl, fun _ => hP, fun h => absurd h (by decide)⟩, ?_, ?_⟩
  · rintro i d ρ hd ⟨x, y, s, rfl, hg, h0, h1⟩
    have hi := (List.getElem?_eq_some_iff.mp hd).1
    rw [rng_len] at hi
    try simp only [wSeq, wIfS, wTV, w2, w3, wCall, wCallS, wCons, wNil, wVar, wC, fI, fI0, fLen, fStr, f1I, f2I, wRet, wNext, wSet, wSetO, wAsg, wN, wGNil, wGCons, wGTup, wTup, wLst, wMNil, wMD, wMO, wPar, wPar3, wAug, wISeq, wIR1, wIR2, wApp, wTupOf, wDrop, wNeg, wAnd, wOr, wNot, wAndV, wOrV, wNotV, wIf, wBits, fEq, fNe, fIsN, fNotN, isN, fIsB, frz, wYes, wSlT, wSlL, wNP, wPt, wRevL, wCatL, fCatT, wBor, frzAt, wipeE, List.map_cons, List.map_nil, List.getElem?_cons_zero, List.getElem?_cons_succ, List.set_cons_zero, List.set_cons_succ, Bool.not_true, Bool.not_false]
    refine ⟨rfl, rfl, ?_⟩
    by_cases hy : y = 0
    · subst hy
      rw [show PyData.eqv (.int ((0 : Nat) : Int)) (.int 0) = true by rfl]
      show R (.int (x : Nat))
      rw [Nat.gcd_zero_right] at hg
      rw [hg]
      exact hR
    · rw [show PyData.eqv (.int (y : Int)) (.int 0) = false by simp only [PyData.eqv, beq_eq_false_iff_ne]; omega]
      have hm := Nat.mod_lt x (show 0 < y by omega)
      have em : ((x : Int) % (y : Int)) = ((x % y : Nat) : Int) := by omega
      try simp only [wSeq, wIfS, wTV, w2, w3, wCall, wCallS, wCons, wNil, wVar, wC, fI, fI0, fLen, fStr, f1I, f2I, wRet, wNext, wSet, wSetO, wAsg, wN, wGNil, wGCons, wGTup, wTup, wLst, wMNil, wMD, wMO, wPar, wPar3, wAug, wISeq, wIR1, wIR2, wApp, wTupOf, wDrop, wNeg, wAnd, wOr, wNot, wAndV, wOrV, wNotV, wIf, wBits, fEq, fNe, fIsN, fNotN, isN, fIsB, frz, wYes, wSlT, wSlL, wNP, wPt, wRevL, wCatL, fCatT, wBor, frzAt, wipeE, List.map_cons, List.map_nil, List.getElem?_cons_zero, List.getElem?_cons_succ, List.set_cons_zero, List.set_cons_succ, Bool.not_true, Bool.not_false]
      rw [em]
      refine ⟨by omega, y, x % y, .dat d, rfl, ?_, fun h => absurd h (by omega), fun _ => ⟨hm, ?_⟩⟩
      · rw [← hg, Nat.gcd_comm, ← Nat.gcd_rec, Nat.gcd_comm]
      · show y * (x % y) * 2 ^ (i + 1 - 1) < 2 ^ 2000
        by_cases h0i : i = 0
        · subst h0i
          have := h0 rfl
          have h3 : y * (x % y) ≤ y * x := Nat.mul_le_mul_left _ (Nat.mod_le x y)
          rw [Nat.mul_comm y x] at h3
          rw [show 0 + 1 - 1 = 0 by rfl, Nat.pow_zero, Nat.mul_one]
          omega
        · obtain ⟨h2, h3⟩ := h1 (by omega)
          have h4 := step_half h2 (show 0 < y by omega)
          obtain ⟨j, rfl⟩ : ∃ j, i = j + 1 := ⟨i - 1, by omega⟩
          rw [Nat.add_sub_cancel] at h3 ⊢
          rw [Nat.pow_succ]
          calc y * (x % y) * (2 ^ j * 2) = 2 * (y * (x % y)) * 2 ^ j := by grind
            _ ≤ x * y * 2 ^ j := Nat.mul_le_mul_right _ h4
            _ < 2 ^ 2000 := h3
  · rintro ρ ⟨x, y, s, rfl, hg, h0, h1⟩
    rw [rng_len] at h1
    obtain ⟨h2, h3⟩ := h1 (by decide)
    have hy : y = 0 := by
      cases y with
      | zero => rfl
      | succ k =>
        exfalso
        have h4 : 1 ≤ x * (k + 1) := Nat.mul_pos (by omega) (by omega)
        have h5 : 1 * 2 ^ ((3000 - 0 : Int).toNat - 1) ≤ x * (k + 1) * 2 ^ ((3000 - 0 : Int).toNat - 1) := Nat.mul_le_mul_right _ h4
        have h6 : 2 ^ 2000 ≤ 2 ^ ((3000 - 0 : Int).toNat - 1) := Nat.pow_le_pow_right (by decide) (by decide)
        omega
    subst hy
    rw [Nat.gcd_zero_right] at hg
    show R (.int (x : Nat))
    rw [hg]
    exact hR
theorem sc_law_form : FnScope ["top", "bottom", "part"] ["top", "bottom"] (defScope s_law_form) := ⟨rfl, rfl, rfl, by decide +kernel, rfl, by decide +kernel, by decide +kernel⟩
theorem d_law_form (T : Tx K mg) : DefP P w K mg base 2 "_law_form" false 2 wf66_law_form := by
  refine def_ok T.at_law_form sc_law_form rfl (fun _ _ _ _ _ _ us hl => match us, hl with | [_, _], _ => rfl) (fun f cdv A outer s H E hr => ?_)
  have nd := sc_law_form.nd
  have hu := hr.units
  refine ⟨_, _, (xs_cons (x_set 2 (x_call (d_law_shared T) (hr.mono (by decide)) (xa_cons (x_var 0) (xa_cons (x_var 1) xa_nil))) nd) (xs_cons (x_set 2 (x_if (xt_gt (x_var 1) x_int) (x_var 2) (x_sub x_int (x_var 2))) nd) (xs_one (x_ret (x_tup (xa_cons (x_div (x_var 0) (x_var 2)) (xa_cons (x_div (x_var 1) (x_var 2)) xa_nil))))))), ?_⟩
  clear nd hu hr
  intro ds R hl h
  obtain ⟨t, b, rfl, h0, ht, hb, hR⟩ := h
  have hg0 := gz_pos (t := t) h0
  have hgl : gz t b ≤ b := Int.le_of_dvd h0 (Int.gcd_dvd_right t b)
  refine (show (_ : PL.WS) [Sl.dat _, Sl.dat _, Sl.no] _ from ?_)
  try simp only [wSeq, wIfS, wTV, w2, w3, wCall, wCallS, wCons, wNil, wVar, wC, fI, fI0, fLen, fStr, f1I, f2I, wRet, wNext, wSet, wSetO, wAsg, wN, wGNil, wGCons, wGTup, wTup, wLst, wMNil, wMD, wMO, wPar, wPar3, wAug, wISeq, wIR1, wIR2, wApp, wTupOf, wDrop, wNeg, wAnd, wOr, wNot, wAndV, wOrV, wNotV, wIf, wBits, fEq, fNe, fIsN, fNotN, isN, fIsB, frz, wYes, wSlT, wSlL, wNP, wPt, wRevL, wCatL, fCatT, wBor, frzAt, wipeE, List.map_cons, List.map_nil, List.getElem?_cons_zero, List.getElem?_cons_succ, List.set_cons_zero, List.set_cons_succ, Bool.not_true, Bool.not_false]
  refine ⟨t, b, rfl, ht, hb, ?_⟩
  try simp only [wSeq, wIfS, wTV, w2, w3, wCall, wCallS, wCons, wNil, wVar, wC, fI, fI0, fLen, fStr, f1I, f2I, wRet, wNext, wSet, wSetO, wAsg, wN, wGNil, wGCons, wGTup, wTup, wLst, wMNil, wMD, wMO, wPar, wPar3, wAug, wISeq, wIR1, wIR2, wApp, wTupOf, wDrop, wNeg, wAnd, wOr, wNot, wAndV, wOrV, wNotV, wIf, wBits, fEq, fNe, fIsN, fNotN, isN, fIsB, frz, wYes, wSlT, wSlL, wNP, wPt, wRevL, wCatL, fCatT, wBor, frzAt, wipeE, List.map_cons, List.map_nil, List.getElem?_cons_zero, List.getElem?_cons_succ, List.set_cons_zero, List.set_cons_succ, Bool.not_true, Bool.not_false]
  rw [decide_eq_true h0]
  exact ⟨divOk hg0 (by show (gz t b).natAbs < Big; omega), divOk hg0 (by show (gz t b).natAbs < Big; omega), hR⟩
theorem sc_law_power : FnScope ["base", "many", "found", "lap"] ["base", "many"] (defScope s_law_power) := ⟨rfl, rfl, rfl, by decide +kernel, rfl, by decide +kernel, by decide +kernel⟩
theorem d_law_power (T : Tx K mg) : DefP P w K mg base 1 "_law_power" false 2 wf66_law_power := by
  refine def_ok T.at_law_power sc_law_power rfl (fun _ _ _ _ _ _ us hl => match us, hl with | [_, _], _ => rfl) (fun f cdv A outer s H E hr => ?_)
  have nd := sc_law_power.nd
  have hu := hr.units
  refine ⟨_, _, (xs_cons (x_set 2 x_int nd) (xs_cons (x_for (xi_rng1 T.b_range (x_var 1)) (xg_name 3 nd) (xs_one (x_set 2 (x_mul (x_var 2) (x_var 0)) nd))) (xs_one (x_ret (x_var 2))))), ?_⟩
  clear nd hu hr
  intro ds R hl h
  obtain ⟨B, n, rfl, hn, hB, hR⟩ := h
  refine (show (_ : PL.WS) [Sl.dat _, Sl.dat _, Sl.no, Sl.no] _ from ?_)
  try simp only [wSeq, wIfS, wTV, w2, w3, wCall, wCallS, wCons, wNil, wVar, wC, fI, fI0, fLen, fStr, f1I, f2I, wRet, wNext, wSet, wSetO, wAsg, wN, wGNil, wGCons, wGTup, wTup, wLst, wMNil, wMD, wMO, wPar, wPar3, wAug, wISeq, wIR1, wIR2, wApp, wTupOf, wDrop, wNeg, wAnd, wOr, wNot, wAndV, wOrV, wNotV, wIf, wBits, fEq, fNe, fIsN, fNotN, isN, fIsB, frz, wYes, wSlT, wSlL, wNP, wPt, wRevL, wCatL, fCatT, wBor, frzAt, wipeE, List.map_cons, List.map_nil, List.getElem?_cons_zero, List.getElem?_cons_succ, List.set_cons_zero, List.set_cons_succ, Bool.not_true, Bool.not_false]
  refine ⟨by omega, by omega, fun i ρ => ∃ s, ρ = [Sl.dat (.int B), Sl.dat (.int n), Sl.dat (.int ((B ^ i : Nat) : Int)), s], ⟨.no, rfl⟩, ?_, ?_⟩
  · rintro i d ρ hd ⟨s, rfl⟩
    try simp only [wSeq, wIfS, wTV, w2, w3, wCall, wCallS, wCons, wNil, wVar, wC, fI, fI0, fLen, fStr, f1I, f2I, wRet, wNext, wSet, wSetO, wAsg, wN, wGNil, wGCons, wGTup, wTup, wLst, wMNil, wMD, wMO, wPar, wPar3, wAug, wISeq, wIR1, wIR2, wApp, wTupOf, wDrop, wNeg, wAnd, wOr, wNot, wAndV, wOrV, wNotV, wIf, wBits, fEq, fNe, fIsN, fNotN, isN, fIsB, frz, wYes, wSlT, wSlL, wNP, wPt, wRevL, wCatL, fCatT, wBor, frzAt, wipeE, List.map_cons, List.map_nil, List.getElem?_cons_zero, List.getElem?_cons_succ, List.set_cons_zero, List.set_cons_succ, Bool.not_true, Bool.not_false]
    exact ⟨mulOkR (by omega) (by omega), .dat d, by rw [Nat.pow_succ]; push_cast; rfl⟩
  · rintro ρ ⟨s, rfl⟩
    rw [rng_len, show ((n : Int) - 0).toNat = n by omega]
    exact hR
theorem sc_law_last : FnScope ["base", "number", "r"] ["base", "number"] (defScope s_law_last) := ⟨rfl, rfl, rfl, by decide +kernel, rfl, by decide +kernel, by decide +kernel⟩
theorem d_law_last (T : Tx K mg) : DefP P w K mg base 1 "_law_last" false 2 wf66_law_last := by
  refine def_ok T.at_law_last sc_law_last rfl (fun _ _ _ _ _ _ us hl => match us, hl with | [_, _], _ => rfl) (fun f cdv A outer s H E hr => ?_)
  have nd := sc_law_last.nd
  have hu := hr.units
  refine ⟨_, _, (xs_one (x_ret (x_ix (x_frz (o_lc [("r", 2)] nd (xi_rng1 T.b_range (x_var 0)) (by show blkC ["base", "number", "r"] (defScope s_law_last) _ _ = true; decide +kernel) (fun _ _ _ _ _ => (xg_name 2 nd)) (fun _ _ _ _ _ => (xts_one (xt_eq hu (x_mod (x_int1 T.b_int (xa_cons (x_sub (x_ix (x_var 1) x_int) (x_mul (x_var 2) (x_ix (x_var 1) x_int))) xa_nil)) (x_var 0)) x_int))) (fun _ _ _ _ _ => (x_var 2)))) x_int))), ?_⟩
  clear nd hu hr
  intro ds R hl h
  obtain ⟨B, x, rfl, hB, hB2, hc, hR⟩ := h
  refine (show (_ : PL.WS) [Sl.dat _, Sl.dat _, Sl.no] _ from ?_)
  try simp only [wSeq, wIfS, wTV, w2, w3, wCall, wCallS, wCons, wNil, wVar, wC, fI, fI0, fLen, fStr, f1I, f2I, wRet, wNext, wSet, wSetO, wAsg, wN, wGNil, wGCons, wGTup, wTup, wLst, wMNil, wMD, wMO, wPar, wPar3, wAug, wISeq, wIR1, wIR2, wApp, wTupOf, wDrop, wNeg, wAnd, wOr, wNot, wAndV, wOrV, wNotV, wIf, wBits, fEq, fNe, fIsN, fNotN, isN, fIsB, frz, wYes, wSlT, wSlL, wNP, wPt, wRevL, wCatL, fCatT, wBor, frzAt, wipeE, List.map_cons, List.map_nil, List.getElem?_cons_zero, List.getElem?_cons_succ, List.set_cons_zero, List.set_cons_succ, Bool.not_true, Bool.not_false]
  refine wlc_fm (rng 0 B) (digD B x) id (fun Q q => ⟨by omega, by omega, q⟩) (by rw [rng_len]; omega) (fun e he Q q => ?_) ?_
  · obtain ⟨i, hi, rfl⟩ := List.mem_map.mp he
    rw [List.mem_range] at hi
    try simp only [wSeq, wIfS, wTV, w2, w3, wCall, wCallS, wCons, wNil, wVar, wC, fI, fI0, fLen, fStr, f1I, f2I, wRet, wNext, wSet, wSetO, wAsg, wN, wGNil, wGCons, wGTup, wTup, wLst, wMNil, wMD, wMO, wPar, wPar3, wAug, wISeq, wIR1, wIR2, wApp, wTupOf, wDrop, wNeg, wAnd, wOr, wNot, wAndV, wOrV, wNotV, wIf, wBits, fEq, fNe, fIsN, fNotN, isN, fIsB, frz, wYes, wSlT, wSlL, wNP, wPt, wRevL, wCatL, fCatT, wBor, frzAt, wipeE, List.map_cons, List.map_nil, List.getElem?_cons_zero, List.getElem?_cons_succ, List.set_cons_zero, List.set_cons_succ, Bool.not_true, Bool.not_false, encF,  fIx]
    refine ⟨_, rfl, _, rfl, mulOkL (by omega) (by omega), by omega, rfl, rfl, ?_⟩
    revert q
    show Q (PyData.eqv (.int ((x.1 - (0 + (i : Int)) * x.2) % (B : Int))) (.int 0)) (id (PyData.int (0 + (i : Int)))) → _
    cases PyData.eqv (.int ((x.1 - (0 + (i : Int)) * x.2) % (B : Int))) (.int 0) <;> exact fun q => q
  · exact ⟨_, dig_first (by omega) hc, hR⟩
theorem sc_law_next : FnScope ["rule", "number", "a", "c"] ["rule", "number"] (defScope s_law_next) := ⟨rfl, rfl, rfl, by decide +kernel, rfl, by decide +kernel, by decide +kernel⟩
theorem d_law_next (T : Tx K mg) : DefP P w K mg base 3 "_law_next" false 2 wf66_law_next := by
  refine def_ok T.at_law_next sc_law_next rfl (fun _ _ _ _ _ _ us hl => match us, hl with | [_, _], _ => rfl) (fun f cdv A outer s H E hr => ?_)
  have nd := sc_law_next.nd
  have hu := hr.units
  refine ⟨_, _, (xs_cons (x_asg (x_ix (x_ix (x_var 0) x_int) (x_call (d_law_last T) (hr.mono (by decide)) (xa_cons (x_ix (x_var 0) x_int) (xa_cons (x_var 1) xa_nil)))) (xg_tup (xgs_cons (xg_name 2 nd) (xgs_cons (xg_name 3 nd) xgs_nil)))) (xs_one (x_ret (x_call (d_law_form T) (hr.mono (by decide)) (xa_cons (x_add (x_mul (x_var 2) (x_ix (x_var 1) x_int)) (x_mul (x_var 3) (x_ix (x_var 1) x_int))) (xa_cons (x_mul (x_ix (x_var 0) x_int) (x_ix (x_var 1) x_int)) xa_nil)))))), ?_⟩
  clear nd hu hr
  intro ds R hl h
  obtain ⟨B, ps, x, S, M, rfl, hB, z, hR⟩ := h
  have hB2 := z.R.b2
  have hS := z.p.b
  have hbig := z.big
  rw [Nat.pow_one] at hbig
  have hMB := z.dig
  have hSM : S ≤ S * M := Nat.le_mul_of_pos_right _ (by have := z.m.b; have := z.X.pos; omega)
  have hd := dig_lt (by omega) z.X.cop
  have hp := z.p.p _ (prA_mem z.R hd)
  have m1 := z.m.t
  have m2 := z.m.b
  have hx := z.X.pos
  have hx1 : ((prA ps (digN B x)).1 * x.1 + (prA ps (digN B x)).2 * x.2).natAbs < Big := Nat.lt_of_le_of_lt (num_le hp m1 m2) hbig
  refine (show (_ : PL.WS) [Sl.dat _, Sl.dat _, Sl.no, Sl.no] _ from ?_)
  try simp only [wSeq, wIfS, wTV, w2, w3, wCall, wCallS, wCons, wNil, wVar, wC, fI, fI0, fLen, fStr, f1I, f2I, wRet, wNext, wSet, wSetO, wAsg, wN, wGNil, wGCons, wGTup, wTup, wLst, wMNil, wMD, wMO, wPar, wPar3, wAug, wISeq, wIR1, wIR2, wApp, wTupOf, wDrop, wNeg, wAnd, wOr, wNot, wAndV, wOrV, wNotV, wIf, wBits, fEq, fNe, fIsN, fNotN, isN, fIsB, frz, wYes, wSlT, wSlL, wNP, wPt, wRevL, wCatL, fCatT, wBor, frzAt, wipeE, List.map_cons, List.map_nil, List.getElem?_cons_zero, List.getElem?_cons_succ, List.set_cons_zero, List.set_cons_succ, Bool.not_true, Bool.not_false, encR,  fIx]
  refine ⟨_, rfl, _, rfl, B, x, rfl, by omega, hB, z.X.cop, ?_⟩
  try simp only [wSeq, wIfS, wTV, w2, w3, wCall, wCallS, wCons, wNil, wVar, wC, fI, fI0, fLen, fStr, f1I, f2I, wRet, wNext, wSet, wSetO, wAsg, wN, wGNil, wGCons, wGTup, wTup, wLst, wMNil, wMD, wMO, wPar, wPar3, wAug, wISeq, wIR1, wIR2, wApp, wTupOf, wDrop, wNeg, wAnd, wOr, wNot, wAndV, wOrV, wNotV, wIf, wBits, fEq, fNe, fIsN, fNotN, isN, fIsB, frz, wYes, wSlT, wSlL, wNP, wPt, wRevL, wCatL, fCatT, wBor, frzAt, wipeE, List.map_cons, List.map_nil, List.getElem?_cons_zero, List.getElem?_cons_succ, List.set_cons_zero, List.set_cons_succ, Bool.not_true, Bool.not_false, fIx]
  refine ⟨_, ps_at z.R hd, ?_⟩
  try simp only [wSeq, wIfS, wTV, w2, w3, wCall, wCallS, wCons, wNil, wVar, wC, fI, fI0, fLen, fStr, f1I, f2I, wRet, wNext, wSet, wSetO, wAsg, wN, wGNil, wGCons, wGTup, wTup, wLst, wMNil, wMD, wMO, wPar, wPar3, wAug, wISeq, wIR1, wIR2, wApp, wTupOf, wDrop, wNeg, wAnd, wOr, wNot, wAndV, wOrV, wNotV, wIf, wBits, fEq, fNe, fIsN, fNotN, isN, fIsB, frz, wYes, wSlT, wSlL, wNP, wPt, wRevL, wCatL, fCatT, wBor, frzAt, wipeE, List.map_cons, List.map_nil, List.getElem?_cons_zero, List.getElem?_cons_succ, List.set_cons_zero, List.set_cons_succ, Bool.not_true, Bool.not_false, encF,  fIx]
  refine ⟨rfl, _, rfl, mulOk (by omega) (by omega), _, rfl, mulOk (by omega) (by omega), _, rfl, _, rfl, mulOk (by omega) (by omega), _, _, rfl, Int.mul_pos (by omega) hx, hx1, ?_, hR⟩
  rw [Int.natAbs_mul, Int.natAbs_natCast]
  exact Nat.lt_of_le_of_lt (Nat.mul_le_mul hS m2) hbig
theorem sc_law_digits : FnScope ["rule", "number", "many", "found", "lap"] ["rule", "number", "many"] (defScope s_law_digits) := ⟨rfl, rfl, rfl, by decide +kernel, rfl, by decide +kernel, by decide +kernel⟩
theorem d_law_digits (T : Tx K mg) : DefP P w K mg base 4 "_law_digits" false 3 wf66_law_digits := by
  refine def_ok T.at_law_digits sc_law_digits rfl (fun _ _ _ _ _ _ us hl => match us, hl with | [_, _, _], _ => rfl) (fun f cdv A outer s H E hr => ?_)
  have nd := sc_law_digits.nd
  have hu := hr.units
  refine ⟨_, _, (xs_cons (x_setO 3 (o_lst xa_nil) nd) (xs_cons (x_for (xi_rng1 T.b_range (x_var 2)) (xg_name 4 nd) (xs_cons (x_app 3 (x_call (d_law_last T) (hr.mono (by decide)) (xa_cons (x_ix (x_var 0) x_int) (xa_cons (x_var 1) xa_nil))) (pv 3)) (xs_one (x_set 1 (x_call (d_law_next T) (hr.mono (by decide)) (xa_cons (x_var 0) (xa_cons (x_var 1) xa_nil))) nd)))) (x_thaw 3 (xs_one (x_ret (x_tup (xa_cons (x_tupOf T.b_tuple (x_var 3)) (xa_cons (x_var 1) xa_nil)))))))), ?_⟩
  clear nd hu hr
  intro ds R hl h
  obtain ⟨B, ps, x, S, M, n, rfl, hB, hn, z, hR⟩ := h
  have hB2 := z.R.b2
  refine (show (_ : PL.WS) [Sl.dat _, Sl.dat _, Sl.dat _, Sl.no, Sl.no] _ from ?_)
  try simp only [wSeq, wIfS, wTV, w2, w3, wCall, wCallS, wCons, wNil, wVar, wC, fI, fI0, fLen, fStr, f1I, f2I, wRet, wNext, wSet, wSetO, wAsg, wN, wGNil, wGCons, wGTup, wTup, wLst, wMNil, wMD, wMO, wPar, wPar3, wAug, wISeq, wIR1, wIR2, wApp, wTupOf, wDrop, wNeg, wAnd, wOr, wNot, wAndV, wOrV, wNotV, wIf, wBits, fEq, fNe, fIsN, fNotN, isN, fIsB, frz, wYes, wSlT, wSlL, wNP, wPt, wRevL, wCatL, fCatT, wBor, frzAt, wipeE, List.map_cons, List.map_nil, List.getElem?_cons_zero, List.getElem?_cons_succ, List.set_cons_zero, List.set_cons_succ, Bool.not_true, Bool.not_false]
  refine ⟨by omega, by omega, fun i ρ => ∃ s, ρ = [Sl.dat (encR B ps), Sl.dat (encF (it B ps i x)), Sl.dat (.int n), Sl.own (.lst (dInts (digs B ps i x))), s], ⟨.no, rfl⟩, ?_, ?_⟩
  · rintro i d ρ hd ⟨s, rfl⟩
    have hi : i < n := by
      have := (List.getElem?_eq_some_iff.mp hd).1
      rw [rng_len] at this
      omega
    have zi := z.at hi
    try simp only [wSeq, wIfS, wTV, w2, w3, wCall, wCallS, wCons, wNil, wVar, wC, fI, fI0, fLen, fStr, f1I, f2I, wRet, wNext, wSet, wSetO, wAsg, wN, wGNil, wGCons, wGTup, wTup, wLst, wMNil, wMD, wMO, wPar, wPar3, wAug, wISeq, wIR1, wIR2, wApp, wTupOf, wDrop, wNeg, wAnd, wOr, wNot, wAndV, wOrV, wNotV, wIf, wBits, fEq, fNe, fIsN, fNotN, isN, fIsB, frz, wYes, wSlT, wSlL, wNP, wPt, wRevL, wCatL, fCatT, wBor, frzAt, wipeE, List.map_cons, List.map_nil, List.getElem?_cons_zero, List.getElem?_cons_succ, List.set_cons_zero, List.set_cons_succ, Bool.not_true, Bool.not_false, encR,  fIx]
    refine ⟨_, rfl, B, _, rfl, by omega, hB, zi.X.cop, by rw [dInts_len, digs_len]; omega, B, ps, _, S, _, rfl, hB, zi, .dat d, ?_⟩
    rw [digs_succ, dInts_snoc]
    rfl
  · rintro ρ ⟨s, rfl⟩
    rw [rng_len]
    rw [show ((n : Int) - 0).toNat = n by omega]
    exact hR
theorem sc_law_rule : FnScope ["source", "below", "base", "pairs", "some", "digit", "a"] ["source", "below"] (defScope s_law_rule) := ⟨rfl, rfl, rfl, by decide +kernel, rfl, by decide +kernel, by decide +kernel⟩
theorem d_law_rule (T : Tx K mg) : DefP P w K mg base 3 "_law_rule" true 1 wf66_law_rule := by
  refine def_ok T.at_law_rule sc_law_rule rfl (fun _ _ _ _ _ _ us hl => match us, hl with | [_, _], _ => rfl) (fun f cdv A outer s H E hr => ?_)
  have nd := sc_law_rule.nd
  have hu := hr.units
  refine ⟨_, _, (xs_cons (x_asgM 2 3 (xm_dat (x_callS 0 (d_law_of T) (hr.mono (by decide)) (pv 0) (xa_cons (x_lst (xa_cons x_int (xa_cons x_int (xa_cons x_int (xa_cons x_int (xa_cons x_int (xa_cons x_int (xa_cons x_int xa_nil)))))))) xa_nil)) (xm_own (o_lst xa_nil) xm_nil)) nd (xg_name 2 nd).pe (xg_name 3 nd).pe) (xs_cons (x_setLc 4 [("a", 6)] nd (xi_rng2 T.b_range x_int x_int) (by show blkC ["source", "below", "base", "pairs", "some", "digit", "a"] (defScope s_law_rule) _ _ = true; decide +kernel) (fun _ _ _ _ _ => (xg_name 6 nd)) (fun _ _ _ _ _ => (xts_one (xt_w (xw_and (xt_eq hu (x_call (d_law_shared T) (hr.mono (by decide)) (xa_cons (x_var 6) (xa_cons (x_var 2) xa_nil))) x_int) (xw_and1 (xt_w (xw_or (xt_lt (x_var 6) (x_var 2)) (xw_or1 (xt_not (xt_val (x_var 1))))))))))) (fun _ _ _ _ _ => (x_var 6)) (sw_true rfl rfl rfl (by decide +kernel))) (x_thaw 4 (xs_cons (x_for (xi_rng1 T.b_range (x_var 2)) (xg_name 5 nd) (xs_cons (x_set 6 (x_callS 0 (d_law_of T) (hr.mono (by decide)) (pv 0) (xa_cons (x_var 4) xa_nil)) nd) (xs_one (x_app 3 (x_tup (xa_cons (x_var 6) (xa_cons (x_sub (x_mul (x_var 2) (x_sub (x_callS 0 (d_law_pick T) (hr.mono (by decide)) (pv 0) (xa_cons x_int xa_nil)) x_int)) (x_mul (x_var 6) (x_var 5))) xa_nil))) (pv 3))))) (x_thaw 3 (xs_one (x_ret (x_tup (xa_cons (x_var 2) (xa_cons (x_tupOf T.b_tuple (x_var 3)) xa_nil)))))))))), ?_⟩
  clear nd hu hr
  intro ds R hl h
  obtain ⟨rfl, hR⟩ := h
  refine (show (_ : PL.WS) [Sl.src, Sl.dat _, Sl.no, Sl.no, Sl.no, Sl.no, Sl.no] _ from ?_)
  try simp only [wSeq, wIfS, wTV, w2, w3, wCall, wCallS, wCons, wNil, wVar, wC, fI, fI0, fLen, fStr, f1I, f2I, wRet, wNext, wSet, wSetO, wAsg, wN, wGNil, wGCons, wGTup, wTup, wLst, wMNil, wMD, wMO, wPar, wPar3, wAug, wISeq, wIR1, wIR2, wApp, wTupOf, wDrop, wNeg, wAnd, wOr, wNot, wAndV, wOrV, wNotV, wIf, wBits, fEq, fNe, fIsN, fNotN, isN, fIsB, frz, wYes, wSlT, wSlL, wNP, wPt, wRevL, wCatL, fCatT, wBor, frzAt, wipeE, List.map_cons, List.map_nil, List.getElem?_cons_zero, List.getElem?_cons_succ, List.set_cons_zero, List.set_cons_succ, Bool.not_true, Bool.not_false]
  refine ⟨_, .inl rfl, by decide, by decide, fun e he => ?_⟩
  obtain ⟨B, rfl, hB, hB6⟩ : ∃ B : Nat, e = .int B ∧ 2 ≤ B ∧ B ≤ 6 := by
    simp only [List.mem_cons, List.not_mem_nil, or_false] at he
    rcases he with rfl | rfl | rfl | rfl | rfl | rfl | rfl
    · exact ⟨2, rfl, by decide, by decide⟩
    · exact ⟨2, rfl, by decide, by decide⟩
    · exact ⟨3, rfl, by decide, by decide⟩
    · exact ⟨3, rfl, by decide, by decide⟩
    · exact ⟨4, rfl, by decide, by decide⟩
    · exact ⟨5, rfl, by decide, by decide⟩
    · exact ⟨6, rfl, by decide, by decide⟩
  clear he
  try simp only [wSeq, wIfS, wTV, w2, w3, wCall, wCallS, wCons, wNil, wVar, wC, fI, fI0, fLen, fStr, f1I, f2I, wRet, wNext, wSet, wSetO, wAsg, wN, wGNil, wGCons, wGTup, wTup, wLst, wMNil, wMD, wMO, wPar, wPar3, wAug, wISeq, wIR1, wIR2, wApp, wTupOf, wDrop, wNeg, wAnd, wOr, wNot, wAndV, wOrV, wNotV, wIf, wBits, fEq, fNe, fIsN, fNotN, isN, fIsB, frz, wYes, wSlT, wSlL, wNP, wPt, wRevL, wCatL, fCatT, wBor, frzAt, wipeE, List.map_cons, List.map_nil, List.getElem?_cons_zero, List.getElem?_cons_succ, List.set_cons_zero, List.set_cons_succ, Bool.not_true, Bool.not_false]
  refine wlc_fm (rng 1 10) (copD B) id (fun Q q => ⟨by decide, q⟩) (by decide) (fun e he Q q => ?_) ?_
  · obtain ⟨j, hj, rfl⟩ := List.mem_map.mp he
    rw [List.mem_range] at hj
    try simp only [wSeq, wIfS, wTV, w2, w3, wCall, wCallS, wCons, wNil, wVar, wC, fI, fI0, fLen, fStr, f1I, f2I, wRet, wNext, wSet, wSetO, wAsg, wN, wGNil, wGCons, wGTup, wTup, wLst, wMNil, wMD, wMO, wPar, wPar3, wAug, wISeq, wIR1, wIR2, wApp, wTupOf, wDrop, wNeg, wAnd, wOr, wNot, wAndV, wOrV, wNotV, wIf, wBits, fEq, fNe, fIsN, fNotN, isN, fIsB, frz, wYes, wSlT, wSlL, wNP, wPt, wRevL, wCatL, fCatT, wBor, frzAt, wipeE, List.map_cons, List.map_nil, List.getElem?_cons_zero, List.getElem?_cons_succ, List.set_cons_zero, List.set_cons_succ, Bool.not_true, Bool.not_false]
    refine ⟨_, _, rfl, small_big (by omega), small_big (by omega), rfl, rfl, ?_⟩
    revert q
    show Q (PyData.eqv (.int ((Int.gcd (1 + (j : Int)) B : Nat) : Int)) (.int 1)) (id (PyData.int (1 + (j : Int)))) → _
    cases PyData.eqv (.int ((Int.gcd (1 + (j : Int)) B : Nat) : Int)) (.int 1)
    · exact fun q => q
    · dsimp only
      cases decide ((1 + (j : Int)) < B) <;> exact fun q => q
  · try simp only [wSeq, wIfS, wTV, w2, w3, wCall, wCallS, wCons, wNil, wVar, wC, fI, fI0, fLen, fStr, f1I, f2I, wRet, wNext, wSet, wSetO, wAsg, wN, wGNil, wGCons, wGTup, wTup, wLst, wMNil, wMD, wMO, wPar, wPar3, wAug, wISeq, wIR1, wIR2, wApp, wTupOf, wDrop, wNeg, wAnd, wOr, wNot, wAndV, wOrV, wNotV, wIf, wBits, fEq, fNe, fIsN, fNotN, isN, fIsB, frz, wYes, wSlT, wSlL, wNP, wPt, wRevL, wCatL, fCatT, wBor, frzAt, wipeE, List.map_cons, List.map_nil, List.getElem?_cons_zero, List.getElem?_cons_succ, List.set_cons_zero, List.set_cons_succ, Bool.not_true, Bool.not_false]
    refine ⟨by omega, by omega, fun i ρ => ∃ (ps : List (Int × Int)) (s5 s6 : Sl), ρ = [Sl.src, Sl.dat (.bool false), Sl.dat (.int B), Sl.own (.lst (ps.map encF)), Sl.dat (.list (copL B 9)), s5, s6] ∧ ps.length = i ∧ Pairs B 9 ps, ⟨[], .no, .no, rfl, rfl, .nil⟩, ?_, ?_⟩
    · rintro i d ρ hd ⟨ps, s5, s6, rfl, hl, hps⟩
      obtain ⟨hi, hdi⟩ := List.getElem?_eq_some_iff.mp hd
      rw [rng_len] at hi
      have hiB : i < B := by omega
      rw [rng_at hi] at hd
      cases hd
      try simp only [wSeq, wIfS, wTV, w2, w3, wCall, wCallS, wCons, wNil, wVar, wC, fI, fI0, fLen, fStr, f1I, f2I, wRet, wNext, wSet, wSetO, wAsg, wN, wGNil, wGCons, wGTup, wTup, wLst, wMNil, wMD, wMO, wPar, wPar3, wAug, wISeq, wIR1, wIR2, wApp, wTupOf, wDrop, wNeg, wAnd, wOr, wNot, wAndV, wOrV, wNotV, wIf, wBits, fEq, fNe, fIsN, fNotN, isN, fIsB, frz, wYes, wSlT, wSlL, wNP, wPt, wRevL, wCatL, fCatT, wBor, frzAt, wipeE, List.map_cons, List.map_nil, List.getElem?_cons_zero, List.getElem?_cons_succ, List.set_cons_zero, List.set_cons_succ, Bool.not_true, Bool.not_false]
      refine ⟨_, .inl rfl, copL_pos (by decide), Nat.le_trans copL_len (by decide), fun e he => ?_⟩
      obtain ⟨a, rfl, a1, am, ac⟩ := copL_mem he
      try simp only [wSeq, wIfS, wTV, w2, w3, wCall, wCallS, wCons, wNil, wVar, wC, fI, fI0, fLen, fStr, f1I, f2I, wRet, wNext, wSet, wSetO, wAsg, wN, wGNil, wGCons, wGTup, wTup, wLst, wMNil, wMD, wMO, wPar, wPar3, wAug, wISeq, wIR1, wIR2, wApp, wTupOf, wDrop, wNeg, wAnd, wOr, wNot, wAndV, wOrV, wNotV, wIf, wBits, fEq, fNe, fIsN, fNotN, isN, fIsB, frz, wYes, wSlT, wSlL, wNP, wPt, wRevL, wCatL, fCatT, wBor, frzAt, wipeE, List.map_cons, List.map_nil, List.getElem?_cons_zero, List.getElem?_cons_succ, List.set_cons_zero, List.set_cons_succ, Bool.not_true, Bool.not_false]
      refine ⟨5, rfl, by decide, by decide, fun k k0 k5 => ?_⟩
      try simp only [wSeq, wIfS, wTV, w2, w3, wCall, wCallS, wCons, wNil, wVar, wC, fI, fI0, fLen, fStr, f1I, f2I, wRet, wNext, wSet, wSetO, wAsg, wN, wGNil, wGCons, wGTup, wTup, wLst, wMNil, wMD, wMO, wPar, wPar3, wAug, wISeq, wIR1, wIR2, wApp, wTupOf, wDrop, wNeg, wAnd, wOr, wNot, wAndV, wOrV, wNotV, wIf, wBits, fEq, fNe, fIsN, fNotN, isN, fIsB, frz, wYes, wSlT, wSlL, wNP, wPt, wRevL, wCatL, fCatT, wBor, frzAt, wipeE, List.map_cons, List.map_nil, List.getElem?_cons_zero, List.getElem?_cons_succ, List.set_cons_zero, List.set_cons_succ, Bool.not_true, Bool.not_false]
      refine ⟨mulOkL (by omega) (by omega), mulOkL (by omega) (by omega), by rw [List.length_map]; omega, ps ++ [(a, (B : Int) * (k - 2) - a * i)], .dat (.int (0 + i)), .dat (.int a), ?_, by rw [List.length_append, hl]; rfl, hps.snoc hl hiB a1 am ac k0 k5⟩
      rw [List.map_append, Int.zero_add]
      rfl
    · rintro ρ ⟨ps, s5, s6, rfl, hl, hps⟩
      rw [rng_len] at hl
      exact hR B ps hB hB6 (hps.good hB (by omega)) (pb66 hps hB hB6)
theorem sc_law_far : FnScope ["source", "many", "found", "lap"] ["source", "many"] (defScope s_law_far) := ⟨rfl, rfl, rfl, by decide +kernel, rfl, by decide +kernel, by decide +kernel⟩
theorem d_law_far (T : Tx K mg) : DefP P w K mg base 2 "_law_far" true 1 wf66_law_far := by
  refine def_ok T.at_law_far sc_law_far rfl (fun _ _ _ _ _ _ us hl => match us, hl with | [_, _], _ => rfl) (fun f cdv A outer s H E hr => ?_)
  have nd := sc_law_far.nd
  have hu := hr.units
  refine ⟨_, _, (xs_cons (x_set 2 (x_add x_int (x_callS 0 (d_law_pick T) (hr.mono (by decide)) (pv 0) (xa_cons (x_pow x_int x_int) xa_nil))) nd) (xs_cons (x_for (xi_rng1 T.b_range (x_var 1)) (xg_name 3 nd) (xs_one (x_set 2 (x_add (x_add (x_mul (x_var 2) (x_pow x_int x_int)) (x_mul (x_callS 0 (d_law_pick T) (hr.mono (by decide)) (pv 0) (xa_cons (x_pow x_int x_int) xa_nil)) (x_pow x_int x_int))) (x_callS 0 (d_law_pick T) (hr.mono (by decide)) (pv 0) (xa_cons (x_pow x_int x_int) xa_nil))) nd))) (xs_one (x_ret (x_var 2))))), ?_⟩
  clear nd hu hr
  intro ds R hl h
  obtain ⟨n, rfl, hn, hR⟩ := h
  have h9 : (10 : Int) ^ Int.toNat 9 = 1000000000 := by decide
  have h35 : (10 : Int) ^ Int.toNat 35 = ((10 ^ 35 : Nat) : Int) := by decide
  have h20 : (10 : Int) ^ Int.toNat 20 = ((10 ^ 20 : Nat) : Int) := by decide
  refine (show (_ : PL.WS) [Sl.src, Sl.dat _, Sl.no, Sl.no] _ from ?_)
  try simp only [wSeq, wIfS, wTV, w2, w3, wCall, wCallS, wCons, wNil, wVar, wC, fI, fI0, fLen, fStr, f1I, f2I, wRet, wNext, wSet, wSetO, wAsg, wN, wGNil, wGCons, wGTup, wTup, wLst, wMNil, wMD, wMO, wPar, wPar3, wAug, wISeq, wIR1, wIR2, wApp, wTupOf, wDrop, wNeg, wAnd, wOr, wNot, wAndV, wOrV, wNotV, wIf, wBits, fEq, fNe, fIsN, fNotN, isN, fIsB, frz, wYes, wSlT, wSlL, wNP, wPt, wRevL, wCatL, fCatT, wBor, frzAt, wipeE, List.map_cons, List.map_nil, List.getElem?_cons_zero, List.getElem?_cons_succ, List.set_cons_zero, List.set_cons_succ, Bool.not_true, Bool.not_false]
  rw [h9]
  refine ⟨⟨by decide, by decide, by decide⟩, _, rfl, by decide, by decide, fun k k0 k9 => ?_⟩
  obtain ⟨k, rfl⟩ := Int.eq_ofNat_of_zero_le k0
  refine ⟨by omega, by omega, fun i ρ => ∃ (f : Nat) (s : Sl), ρ = [Sl.src, Sl.dat (.int n), Sl.dat (.int f), s] ∧ 1 ≤ f ∧ f + 1 ≤ (10 ^ 9 + 1) * (10 ^ 35) ^ i, ⟨1 + k, .no, by push_cast; rfl, by omega, by rw [Nat.pow_zero]; omega⟩, ?_, ?_⟩
  · rintro i d ρ hd ⟨f, s, rfl, f1, f2⟩
    try simp only [wSeq, wIfS, wTV, w2, w3, wCall, wCallS, wCons, wNil, wVar, wC, fI, fI0, fLen, fStr, f1I, f2I, wRet, wNext, wSet, wSetO, wAsg, wN, wGNil, wGCons, wGTup, wTup, wLst, wMNil, wMD, wMO, wPar, wPar3, wAug, wISeq, wIR1, wIR2, wApp, wTupOf, wDrop, wNeg, wAnd, wOr, wNot, wAndV, wOrV, wNotV, wIf, wBits, fEq, fNe, fIsN, fNotN, isN, fIsB, frz, wYes, wSlT, wSlL, wNP, wPt, wRevL, wCatL, fCatT, wBor, frzAt, wipeE, List.map_cons, List.map_nil, List.getElem?_cons_zero, List.getElem?_cons_succ, List.set_cons_zero, List.set_cons_succ, Bool.not_true, Bool.not_false]
    rw [h9, h35, h20]
    have hi := (List.getElem?_eq_some_iff.mp hd).1
    rw [rng_len] at hi
    have hfb : f < Big := by
      have h1 : (10 ^ 35) ^ i ≤ (10 ^ 35) ^ 5 := Nat.pow_le_pow_right (by decide) (by omega)
      have h2 : (10 ^ 9 + 1) * (10 ^ 35) ^ i ≤ (10 ^ 9 + 1) * (10 ^ 35) ^ 5 := Nat.mul_le_mul_left _ h1
      have h3 : (10 ^ 9 + 1) * (10 ^ 35) ^ 5 < Big := by unfold Big; decide +kernel
      omega
    have h35b : ((10 ^ 35 : Nat) : Int).natAbs < Big := by rw [Int.natAbs_natCast]; unfold Big; decide +kernel
    refine ⟨⟨by decide, by decide, by decide⟩, mulOk (by rw [Int.natAbs_natCast]; exact hfb) h35b, ⟨by decide, by decide, by decide⟩, _, rfl, by decide, by decide, fun k1 a0 a1 => ?_⟩
    obtain ⟨k1, rfl⟩ := Int.eq_ofNat_of_zero_le a0
    refine ⟨⟨by decide, by decide, by decide⟩, mulOkL (by omega) (by omega), ⟨by decide, by decide, by decide⟩, _, rfl, by decide, by decide, fun k2 b0 b1 => ?_⟩
    obtain ⟨k2, rfl⟩ := Int.eq_ofNat_of_zero_le b0
    refine ⟨f * 10 ^ 35 + k1 * 10 ^ 20 + k2, .dat d, ?_, by omega, ?_⟩
    · rw [Int.natCast_add, Int.natCast_add, Int.natCast_mul, Int.natCast_mul]
    · rw [show (10 ^ 35 : Nat) ^ (i + 1) = (10 ^ 35) ^ i * 10 ^ 35 from Nat.pow_succ _ _, ← Nat.mul_assoc]
      clear hfb
      generalize (10 ^ 35) ^ i = z at f2 ⊢
      have h1 : (f + 1) * 10 ^ 35 ≤ (10 ^ 9 + 1) * z * 10 ^ 35 := Nat.mul_le_mul_right _ f2
      omega
  · rintro ρ ⟨f, s, rfl, f1, f2⟩
    rw [rng_len, show ((n : Int) - 0).toNat = n by omega] at f2
    refine hR f f1 ?_
    rw [Nat.pow_add, Nat.pow_mul]
    have : (10 ^ 9 + 1) * (10 ^ 35) ^ n ≤ 10 ^ 10 * (10 ^ 35) ^ n := Nat.mul_le_mul_right _ (by decide)
    omega
theorem sc_law_free : FnScope ["whole", "base", "lap", "part"] ["whole", "base"] (defScope s_law_free) := ⟨rfl, rfl, rfl, by decide +kernel, rfl, by decide +kernel, by decide +kernel⟩
theorem d_law_free (T : Tx K mg) : DefP P w K mg base 2 "_law_free" false 2 wf66_law_free := by
  refine def_ok T.at_law_free sc_law_free rfl (fun _ _ _ _ _ _ us hl => match us, hl with | [_, _], _ => rfl) (fun f cdv A outer s H E hr => ?_)
  have nd := sc_law_free.nd
  have hu := hr.units
  refine ⟨_, _, (xs_cons (x_for (xi_rng1 T.b_range x_int) (xg_name 2 nd) (xs_cons (x_set 3 (x_call (d_law_shared T) (hr.mono (by decide)) (xa_cons (x_var 0) (xa_cons (x_var 1) xa_nil))) nd) (xs_cons (x_ifS (xt_eq hu (x_var 3) x_int) (xs_one x_brk) xs_nil) (xs_one (x_set 0 (x_div (x_var 0) (x_var 3)) nd))))) (xs_one (x_ret (x_var 0)))), ?_⟩
  clear nd hu hr
  intro ds R hl h
  obtain ⟨w, B, rfl, w1, hw, hB, hB6, hR⟩ := h
  have hBb : B < Big := small_big (by omega)
  have hwb : w < Big := Nat.lt_of_lt_of_le hw (by unfold Big; decide +kernel)
  refine (show (_ : PL.WS) [Sl.dat _, Sl.dat _, Sl.no, Sl.no] _ from ?_)
  try simp only [wSeq, wIfS, wTV, w2, w3, wCall, wCallS, wCons, wNil, wVar, wC, fI, fI0, fLen, fStr, f1I, f2I, wRet, wNext, wSet, wSetO, wAsg, wN, wGNil, wGCons, wGTup, wTup, wLst, wMNil, wMD, wMO, wPar, wPar3, wAug, wISeq, wIR1, wIR2, wApp, wTupOf, wDrop, wNeg, wAnd, wOr, wNot, wAndV, wOrV, wNotV, wIf, wBits, fEq, fNe, fIsN, fNotN, isN, fIsB, frz, wYes, wSlT, wSlL, wNP, wPt, wRevL, wCatL, fCatT, wBor, frzAt, wipeE, List.map_cons, List.map_nil, List.getElem?_cons_zero, List.getElem?_cons_succ, List.set_cons_zero, List.set_cons_succ, Bool.not_true, Bool.not_false]
  refine ⟨by decide, by decide, fun i ρ => ∃ (v : Nat) (s s' : Sl), ρ = [Sl.dat (.int v), Sl.dat (.int B), s, s'] ∧ 1 ≤ v ∧ v ≤ w ∧ v * 2 ^ i ≤ w, ⟨w, .no, .no, rfl, w1, Nat.le_refl _, by rw [Nat.pow_zero]; omega⟩, ?_, ?_⟩
  · rintro i d ρ hd ⟨v, s, s', rfl, v1, vw, vi⟩
    try simp only [wSeq, wIfS, wTV, w2, w3, wCall, wCallS, wCons, wNil, wVar, wC, fI, fI0, fLen, fStr, f1I, f2I, wRet, wNext, wSet, wSetO, wAsg, wN, wGNil, wGCons, wGTup, wTup, wLst, wMNil, wMD, wMO, wPar, wPar3, wAug, wISeq, wIR1, wIR2, wApp, wTupOf, wDrop, wNeg, wAnd, wOr, wNot, wAndV, wOrV, wNotV, wIf, wBits, fEq, fNe, fIsN, fNotN, isN, fIsB, frz, wYes, wSlT, wSlL, wNP, wPt, wRevL, wCatL, fCatT, wBor, frzAt, wipeE, List.map_cons, List.map_nil, List.getElem?_cons_zero, List.getElem?_cons_succ, List.set_cons_zero, List.set_cons_succ, Bool.not_true, Bool.not_false]
    refine ⟨(v : Int), (B : Int), rfl, by omega, by omega, ?_⟩
    try simp only [wSeq, wIfS, wTV, w2, w3, wCall, wCallS, wCons, wNil, wVar, wC, fI, fI0, fLen, fStr, f1I, f2I, wRet, wNext, wSet, wSetO, wAsg, wN, wGNil, wGCons, wGTup, wTup, wLst, wMNil, wMD, wMO, wPar, wPar3, wAug, wISeq, wIR1, wIR2, wApp, wTupOf, wDrop, wNeg, wAnd, wOr, wNot, wAndV, wOrV, wNotV, wIf, wBits, fEq, fNe, fIsN, fNotN, isN, fIsB, frz, wYes, wSlT, wSlL, wNP, wPt, wRevL, wCatL, fCatT, wBor, frzAt, wipeE, List.map_cons, List.map_nil, List.getElem?_cons_zero, List.getElem?_cons_succ, List.set_cons_zero, List.set_cons_succ, Bool.not_true, Bool.not_false]
    refine ⟨rfl, rfl, ?_⟩
    by_cases hg : Int.gcd v B = 1
    · rw [hg]
      exact hR v v1 vw hg
    · rw [show PyData.eqv (.int ((Int.gcd v B : Nat) : Int)) (.int 1) = false by simp only [PyData.eqv, beq_eq_false_iff_ne]; omega]
      have g0 : 0 < Int.gcd v B := Int.gcd_pos_of_ne_zero_right _ (by omega)
      have gB : Int.gcd v B ≤ B := Nat.le_of_dvd (by omega) (Int.natCast_dvd_natCast.mp (Int.gcd_dvd_right v B))
      obtain ⟨g, hgd⟩ : ∃ g, g = Int.gcd v B := ⟨_, rfl⟩
      rw [← hgd] at hg g0 gB ⊢
      obtain ⟨q, hq⟩ : g ∣ v := by rw [hgd]; exact Int.natCast_dvd_natCast.mp (Int.gcd_dvd_left v B)
      have e : (v : Int) / ((g : Nat) : Int) = (q : Nat) := by
        rw [hq]
        push_cast
        exact Int.mul_ediv_cancel_left _ (by omega)
      have q1 : 1 ≤ q := by
        cases q with
        | zero => omega
        | succ k => omega
      have h2 : 2 * q ≤ v := by rw [hq]; exact Nat.mul_le_mul_right _ (by omega)
      rw [e]
      refine ⟨divOk (by omega) (by omega), q, .dat d, .dat (.int g), rfl, q1, by omega, ?_⟩
      rw [Nat.pow_succ]
      calc q * (2 ^ i * 2) = 2 * q * 2 ^ i := by grind
        _ ≤ v * 2 ^ i := Nat.mul_le_mul_right _ h2
        _ ≤ w := vi
  · rintro ρ ⟨v, s, s', rfl, v1, vw, vi⟩
    exfalso
    rw [rng_len] at vi
    have h5 : 1 * 2 ^ ((900 - 0 : Int).toNat) ≤ v * 2 ^ ((900 - 0 : Int).toNat) := Nat.mul_le_mul_right _ v1
    have h6 : 2 ^ 800 ≤ 2 ^ ((900 - 0 : Int).toNat) := Nat.pow_le_pow_right (by decide) (by decide)
    omega
theorem sc_law : FnScope ["script", "source", "base", "pairs", "rule", "sign", "top", "bottom", "number", "many", "digits", "late", "power", "rest", "a", "c", "told", "s", "from_q", "far", "often", "here", "size", "k"] ["script"] (defScope s_law) := ⟨rfl, rfl, rfl, by decide +kernel, rfl, by decide +kernel, by decide +kernel⟩
theorem d_law (T : Tx K mg) {f : Addr} {fd : FuncData} (F : Fun K "law" "law" s_law f fd) : FnOk P w K mg base CX0 10 f fd ["script"] (spLaw K) := by
  refine law_ok F sc_law (by decide) (fun cdv A outer s H E hr => ?_)
  have nd := sc_law.nd
  have hu := hr.units
  refine ⟨_, _, _, _, _, rfl, (x_set 1 (x_source (d_law_source T) (hr.mono (by decide)) (pv 0)) nd).pe, (xs_cons (x_asg (x_callS 1 (d_law_rule T) (hr.mono (by decide)) (pv 1) (xa_cons x_bl xa_nil)) (xg_tup (xgs_cons (xg_name 2 nd) (xgs_cons (xg_name 3 nd) xgs_nil)))) (xs_cons (x_par 4 5 (xm_dat (x_tup (xa_cons (x_var 2) (xa_cons (x_var 3) xa_nil))) (xm_dat (x_callS 1 (d_law_of T) (hr.mono (by decide)) (pv 1) (xa_cons (x_lst (xa_cons x_int (xa_cons x_int (xa_cons (x_neg x_int) xa_nil)))) xa_nil)) xm_nil)) nd) (xs_cons (x_set 6 (x_mul (x_var 5) (x_callS 1 (d_law_far T) (hr.mono (by decide)) (pv 1) (xa_cons (x_callS 1 (d_law_of T) (hr.mono (by decide)) (pv 1) (xa_cons (x_lst (xa_cons x_int (xa_cons x_int (xa_cons x_int xa_nil)))) xa_nil)) xa_nil))) nd) (xs_cons (x_set 7 (x_callS 1 (d_law_of T) (hr.mono (by decide)) (pv 1) (xa_cons (x_lst (xa_cons x_int (xa_cons x_int (xa_cons (x_call (d_law_free T) (hr.mono (by decide)) (xa_cons (x_callS 1 (d_law_far T) (hr.mono (by decide)) (pv 1) (xa_cons x_int xa_nil)) (xa_cons (x_var 2) xa_nil))) xa_nil)))) xa_nil)) nd) (xs_cons (x_par 8 9 (xm_dat (x_call (d_law_form T) (hr.mono (by decide)) (xa_cons (x_var 6) (xa_cons (x_var 7) xa_nil))) (xm_dat (x_callS 1 (d_law_of T) (hr.mono (by decide)) (pv 1) (xa_cons (x_lst (xa_cons x_int (xa_cons x_int (xa_cons x_int xa_nil)))) xa_nil)) xm_nil)) nd) (xs_cons (x_ifS (xt_ne hu (x_call (d_rule_told T) (hr.mono (by decide)) (xa_cons (x_var 2) (xa_cons (x_var 3) xa_nil))) (x_var 4)) (xs_one (x_ret x_bl)) xs_nil) (xs_cons (x_asg (x_call (d_law_digits T) (hr.mono (by decide)) (xa_cons (x_var 4) (xa_cons (x_var 8) (xa_cons (x_var 9) xa_nil)))) (xg_tup (xgs_cons (xg_name 10 nd) (xgs_cons (xg_name 11 nd) xgs_nil)))) (xs_cons (x_ifS (xt_w (xw_or (xt_ne hu (x_call (d_digits_of T) (hr.mono (by decide)) (xa_cons (x_var 4) (xa_cons (x_var 8) (xa_cons (x_var 9) xa_nil)))) (x_tup (xa_cons (x_var 10) (xa_cons (x_var 11) xa_nil)))) (xw_or1 (xt_ne hu (x_call (d_behind_of T) (hr.mono (by decide)) (xa_cons (x_var 4) (xa_cons (x_var 11) (xa_cons (x_var 10) xa_nil)))) (x_var 8))))) (xs_one (x_ret x_bl)) xs_nil) (xs_cons (x_ifS (xt_w (xw_or (xt_ne hu (x_call (d_next_of T) (hr.mono (by decide)) (xa_cons (x_var 4) (xa_cons (x_var 8) xa_nil))) (x_call (d_law_next T) (hr.mono (by decide)) (xa_cons (x_var 4) (xa_cons (x_var 8) xa_nil)))) (xw_or1 (xt_ne hu (x_call (d_last_digit T) (hr.mono (by decide)) (xa_cons (x_var 2) (xa_cons (x_var 8) xa_nil))) (x_ix (x_var 10) x_int))))) (xs_one (x_ret x_bl)) xs_nil) (xs_cons (x_set 12 (x_call (d_law_power T) (hr.mono (by decide)) (xa_cons (x_var 2) (xa_cons (x_var 9) xa_nil))) nd) (xs_cons (x_set 13 (x_call (d_rest_told T) (hr.mono (by decide)) (xa_cons (x_var 2) (xa_cons (x_var 8) (xa_cons (x_var 9) xa_nil)))) nd) (xs_cons (x_ifS (xt_w (xw_or (xt_not (xt_chain op_le (rel_I0 fun i j => dpc_bl _) op_lt (rel_I0 fun i j => dpc_bl _) x_int (x_var 13) (x_var 12))) (xw_or (xt_ne hu (x_mod (x_int1 T.b_int (xa_cons (x_sub (x_ix (x_var 8) x_int) (x_mul (x_var 13) (x_ix (x_var 8) x_int))) xa_nil)) (x_var 12)) x_int) (xw_or1 (xt_ne hu (x_call (d_rest_by T) (hr.mono (by decide)) (xa_cons (x_var 8) (xa_cons (x_var 12) xa_nil))) (x_var 13)))))) (xs_one (x_ret x_bl)) xs_nil) (xs_cons (x_ifS (xt_ne hu (x_ix (x_call (d_digits_of T) (hr.mono (by decide)) (xa_cons (x_var 4) (xa_cons (x_tup (xa_cons (x_var 13) (xa_cons x_int xa_nil))) (xa_cons (x_var 9) xa_nil)))) x_int) (x_var 10)) (xs_one (x_ret x_bl)) xs_nil) (xs_cons (x_asg (x_call (d_line_of T) (hr.mono (by decide)) (xa_cons (x_var 4) (xa_cons (x_var 10) xa_nil))) (xg_tup (xgs_cons (xg_name 14 nd) (xgs_cons (xg_name 15 nd) xgs_nil)))) (xs_cons (x_ifS (xt_ne hu (x_call (d_law_form T) (hr.mono (by decide)) (xa_cons (x_add (x_mul (x_var 14) (x_ix (x_var 8) x_int)) (x_mul (x_var 15) (x_ix (x_var 8) x_int))) (xa_cons (x_mul (x_var 12) (x_ix (x_var 8) x_int)) xa_nil))) (x_var 11)) (xs_one (x_ret x_bl)) xs_nil) (xs_cons (x_asg (x_call (d_class_told T) (hr.mono (by decide)) (xa_cons (x_var 4) (xa_cons (x_var 9) (xa_cons (x_var 13) xa_nil)))) (xg_tup (xgs_cons (xg_tup (xgs_cons (xg_name 16 nd) (xgs_cons (xg_name 17 nd) xgs_nil))) (xgs_cons (xg_name 18 nd) xgs_nil)))) (xs_cons (x_ifS (xt_w (xw_or (xt_ne hu (x_var 16) (x_var 14)) (xw_or (xt_ne hu (x_mul (x_var 17) (x_var 12)) (x_add (x_mul (x_var 14) (x_var 13)) (x_var 15))) (xw_or1 (xt_ne hu (x_isN (x_var 18) x_non) (x_ge (x_var 14) (x_var 12))))))) (xs_one (x_ret x_bl)) xs_nil) (xs_cons (x_ifS (xt_notN (x_var 18) x_non) (xs_cons (x_ifS (xt_ge (x_add (x_mul (x_var 14) (x_var 18)) (x_var 17)) (x_add (x_mul (x_var 18) (x_var 12)) (x_var 13))) (xs_one (x_ret x_bl)) xs_nil) (xs_one (x_ifS (xt_w (xw_and (xt_gt (x_var 18) x_int) (xw_and1 (xt_lt (x_add (x_mul (x_var 14) (x_sub (x_var 18) x_int)) (x_var 17)) (x_add (x_mul (x_sub (x_var 18) x_int) (x_var 12)) (x_var 13)))))) (xs_one (x_ret x_bl)) xs_nil))) xs_nil) (xs_cons (x_par 19 20 (xm_dat (x_callS 1 (d_law_far T) (hr.mono (by decide)) (pv 1) (xa_cons x_int xa_nil)) (xm_dat (x_call (d_law_free T) (hr.mono (by decide)) (xa_cons (x_callS 1 (d_law_far T) (hr.mono (by decide)) (pv 1) (xa_cons x_int xa_nil)) (xa_cons (x_var 2) xa_nil))) xm_nil)) nd) (xs_cons (x_set 21 (x_call (d_number_plus T) (hr.mono (by decide)) (xa_cons (x_var 8) (xa_cons (x_tup (xa_cons (x_var 19) (xa_cons x_int xa_nil))) xa_nil))) nd) (xs_cons (x_ifS (xt_ne hu (x_call (d_next_of T) (hr.mono (by decide)) (xa_cons (x_call (d_moved_told T) (hr.mono (by decide)) (xa_cons (x_var 4) (xa_cons (x_var 19) xa_nil))) (xa_cons (x_var 21) xa_nil))) (x_call (d_number_plus T) (hr.mono (by decide)) (xa_cons (x_call (d_law_next T) (hr.mono (by decide)) (xa_cons (x_var 4) (xa_cons (x_var 8) xa_nil))) (xa_cons (x_tup (xa_cons (x_var 19) (xa_cons x_int xa_nil))) xa_nil)))) (xs_one (x_ret x_bl)) xs_nil) (xs_cons (x_set 21 (x_call (d_number_times T) (hr.mono (by decide)) (xa_cons (x_var 8) (xa_cons (x_tup (xa_cons (x_var 20) (xa_cons x_int xa_nil))) xa_nil))) nd) (xs_cons (x_ifS (xt_ne hu (x_call (d_next_of T) (hr.mono (by decide)) (xa_cons (x_call (d_times_told T) (hr.mono (by decide)) (xa_cons (x_var 4) (xa_cons (x_var 20) xa_nil))) (xa_cons (x_var 21) xa_nil))) (x_call (d_number_times T) (hr.mono (by decide)) (xa_cons (x_call (d_law_next T) (hr.mono (by decide)) (xa_cons (x_var 4) (xa_cons (x_var 8) xa_nil))) (xa_cons (x_tup (xa_cons (x_var 20) (xa_cons x_int xa_nil))) xa_nil)))) (xs_one (x_ret x_bl)) xs_nil) (xs_cons (x_ifS (xt_ne hu (x_call (d_next_of T) (hr.mono (by decide)) (xa_cons (x_call (d_plain_told T) (hr.mono (by decide)) (xa_cons (x_var 2) xa_nil)) (xa_cons (x_var 8) xa_nil))) (x_call (d_number_next T) (hr.mono (by decide)) (xa_cons (x_var 2) (xa_cons (x_var 8) xa_nil)))) (xs_one (x_ret x_bl)) xs_nil) (xs_cons (x_set 22 (x_callS 1 (d_law_of T) (hr.mono (by decide)) (pv 1) (xa_cons (x_frz (o_lc [("k", 23)] nd (xi_seq (x_tup (xa_cons x_int (xa_cons x_int (xa_cons x_int xa_nil))))) (by show blkC ["script", "source", "base", "pairs", "rule", "sign", "top", "bottom", "number", "many", "digits", "late", "power", "rest", "a", "c", "told", "s", "from_q", "far", "often", "here", "size", "k"] (defScope s_law) _ _ = true; decide +kernel) (fun _ _ _ _ _ => (xg_name 23 nd)) (fun _ _ _ _ _ => (xts_one (xt_le (x_call (d_law_power T) (hr.mono (by decide)) (xa_cons (x_var 2) (xa_cons (x_var 23) xa_nil))) x_int))) (fun _ _ _ _ _ => (x_var 23)))) xa_nil)) nd) (xs_one (x_ret (x_eq hu (x_call (d_next_of T) (hr.mono (by decide)) (xa_cons (x_call (d_taken_told T) (hr.mono (by decide)) (xa_cons (x_var 4) (xa_cons (x_var 22) xa_nil))) (xa_cons (x_var 8) xa_nil))) (x_ix (x_call (d_law_digits T) (hr.mono (by decide)) (xa_cons (x_var 4) (xa_cons (x_var 8) (xa_cons (x_var 22) xa_nil)))) x_int))))))))))))))))))))))))))))), ?_⟩
  clear nd hu hr
  -- {'script': 0, 'source': 1, 'base': 2, 'pairs': 3, 'rule': 4, 'sign': 5, 'top': 6, 'bottom': 7, 'number': 8, 'many': 9, 'digits': 10, 'late': 11, 'power': 12, 'rest': 13, 'a': 14, 'c': 15, 'told': 16, 's': 17, 'from_q': 18, 'far': 19, 'often': 20, 'here': 21, 'size': 22, 'k': 23}
  refine (show (_ : PL.WS) [Sl.no, Sl.src, Sl.no, Sl.no, Sl.no, Sl.no, Sl.no, Sl.no, Sl.no, Sl.no, Sl.no, Sl.no, Sl.no, Sl.no, Sl.no, Sl.no, Sl.no, Sl.no, Sl.no, Sl.no, Sl.no, Sl.no, Sl.no, Sl.no] _ from ?_)
  -- base, pairs
  refine w_step (fun N hN => ?_)
  try simp only [wSeq, wIfS, wTV, w2, w3, wCall, wCallS, wCons, wNil, wVar, wC, fI, fI0, fLen, fStr, f1I, f2I, wRet, wNext, wSet, wSetO, wAsg, wN, wGNil, wGCons, wGTup, wTup, wLst, wMNil, wMD, wMO, wPar, wPar3, wAug, wISeq, wIR1, wIR2, wApp, wTupOf, wDrop, wNeg, wAnd, wOr, wNot, wAndV, wOrV, wNotV, wIf, wBits, fEq, fNe, fIsN, fNotN, isN, fIsB, frz, wYes, wSlT, wSlL, wNP, wPt, wRevL, wCatL, fCatT, wBor, frzAt, wipeE, List.map_cons, List.map_nil, List.getElem?_cons_zero, List.getElem?_cons_succ, List.set_cons_zero, List.set_cons_succ, Bool.not_true, Bool.not_false]
  refine ⟨rfl, fun B ps hB hB6 G p => ?_⟩
  try simp only [wSeq, wIfS, wTV, w2, w3, wCall, wCallS, wCons, wNil, wVar, wC, fI, fI0, fLen, fStr, f1I, f2I, wRet, wNext, wSet, wSetO, wAsg, wN, wGNil, wGCons, wGTup, wTup, wLst, wMNil, wMD, wMO, wPar, wPar3, wAug, wISeq, wIR1, wIR2, wApp, wTupOf, wDrop, wNeg, wAnd, wOr, wNot, wAndV, wOrV, wNotV, wIf, wBits, fEq, fNe, fIsN, fNotN, isN, fIsB, frz, wYes, wSlT, wSlL, wNP, wPt, wRevL, wCatL, fCatT, wBor, frzAt, wipeE, List.map_cons, List.map_nil, List.getElem?_cons_zero, List.getElem?_cons_succ, List.set_cons_zero, List.set_cons_succ, Bool.not_true, Bool.not_false, encR]
  refine ⟨rfl, ?_⟩
  try dsimp only
  refine Eq.mpr (hN _) ?_
  clear hN N
  -- rule, sign
  refine w_step (fun N hN => ?_)
  try simp only [wSeq, wIfS, wTV, w2, w3, wCall, wCallS, wCons, wNil, wVar, wC, fI, fI0, fLen, fStr, f1I, f2I, wRet, wNext, wSet, wSetO, wAsg, wN, wGNil, wGCons, wGTup, wTup, wLst, wMNil, wMD, wMO, wPar, wPar3, wAug, wISeq, wIR1, wIR2, wApp, wTupOf, wDrop, wNeg, wAnd, wOr, wNot, wAndV, wOrV, wNotV, wIf, wBits, fEq, fNe, fIsN, fNotN, isN, fIsB, frz, wYes, wSlT, wSlL, wNP, wPt, wRevL, wCatL, fCatT, wBor, frzAt, wipeE, List.map_cons, List.map_nil, List.getElem?_cons_zero, List.getElem?_cons_succ, List.set_cons_zero, List.set_cons_succ, Bool.not_true, Bool.not_false]
  refine ⟨_, .inl rfl, by show 0 < 3; decide, by show 3 ≤ 1000000; decide, fun e he => ?_⟩
  obtain ⟨sg, rfl, hsg⟩ : ∃ sg : Int, e = .int sg ∧ (sg = 1 ∨ sg = -1) := by
    simp only [List.mem_cons, List.not_mem_nil, or_false] at he
    rcases he with rfl | rfl | rfl
    · exact ⟨1, rfl, .inl rfl⟩
    · exact ⟨1, rfl, .inl rfl⟩
    · exact ⟨-1, rfl, .inr rfl⟩
  clear he
  try dsimp only
  refine Eq.mpr (hN _) ?_
  clear hN N
  -- top
  refine w_step (fun N hN => ?_)
  try simp only [wSeq, wIfS, wTV, w2, w3, wCall, wCallS, wCons, wNil, wVar, wC, fI, fI0, fLen, fStr, f1I, f2I, wRet, wNext, wSet, wSetO, wAsg, wN, wGNil, wGCons, wGTup, wTup, wLst, wMNil, wMD, wMO, wPar, wPar3, wAug, wISeq, wIR1, wIR2, wApp, wTupOf, wDrop, wNeg, wAnd, wOr, wNot, wAndV, wOrV, wNotV, wIf, wBits, fEq, fNe, fIsN, fNotN, isN, fIsB, frz, wYes, wSlT, wSlL, wNP, wPt, wRevL, wCatL, fCatT, wBor, frzAt, wipeE, List.map_cons, List.map_nil, List.getElem?_cons_zero, List.getElem?_cons_succ, List.set_cons_zero, List.set_cons_succ, Bool.not_true, Bool.not_false]
  refine ⟨_, .inl rfl, by show 0 < 3; decide, by show 3 ≤ 1000000; decide, fun e he => ?_⟩
  obtain ⟨l, rfl, hl5⟩ : ∃ l : Nat, e = .int l ∧ l ≤ 5 := by
    simp only [List.mem_cons, List.not_mem_nil, or_false] at he
    rcases he with rfl | rfl | rfl
    · exact ⟨1, rfl, by decide⟩
    · exact ⟨3, rfl, by decide⟩
    · exact ⟨5, rfl, by decide⟩
  clear he
  refine ⟨l, rfl, hl5, fun t t1 t2 => ?_⟩
  have t3 : t ≤ 10 ^ 185 := Nat.le_trans t2 (Nat.pow_le_pow_right (by decide) (by omega))
  clear t2
  refine ⟨mulOkL (by omega) (by omega), ?_⟩
  try dsimp only
  refine Eq.mpr (hN _) ?_
  clear hN N
  obtain ⟨tp, htp⟩ : ∃ tp : Int, tp = sg * (t : Int) := ⟨_, rfl⟩
  have htb : tp.natAbs ≤ 10 ^ 185 := by
    rw [htp]
    rcases hsg with rfl | rfl <;> omega
  rw [← htp]
  -- bottom
  refine w_step (fun N hN => ?_)
  try simp only [wSeq, wIfS, wTV, w2, w3, wCall, wCallS, wCons, wNil, wVar, wC, fI, fI0, fLen, fStr, f1I, f2I, wRet, wNext, wSet, wSetO, wAsg, wN, wGNil, wGCons, wGTup, wTup, wLst, wMNil, wMD, wMO, wPar, wPar3, wAug, wISeq, wIR1, wIR2, wApp, wTupOf, wDrop, wNeg, wAnd, wOr, wNot, wAndV, wOrV, wNotV, wIf, wBits, fEq, fNe, fIsN, fNotN, isN, fIsB, frz, wYes, wSlT, wSlL, wNP, wPt, wRevL, wCatL, fCatT, wBor, frzAt, wipeE, List.map_cons, List.map_nil, List.getElem?_cons_zero, List.getElem?_cons_succ, List.set_cons_zero, List.set_cons_succ, Bool.not_true, Bool.not_false]
  refine ⟨2, rfl, by decide, fun f f1 f2 => ?_⟩
  refine ⟨f, B, rfl, f1, Nat.lt_of_le_of_lt f2 (by decide +kernel), hB, hB6, fun v v1 v2 vc => ?_⟩
  refine ⟨_, .inl rfl, by show 0 < 3; decide, by show 3 ≤ 1000000; decide, fun e he => ?_⟩
  obtain ⟨b, rfl, b1, bm, bc⟩ : ∃ b : Nat, e = .int b ∧ 1 ≤ b ∧ b ≤ 10 ^ 80 ∧ Int.gcd b B = 1 := by
    simp only [List.mem_cons, List.not_mem_nil, or_false] at he
    rcases he with rfl | rfl | rfl
    · exact ⟨1, rfl, by decide, by decide, gcd1 B⟩
    · exact ⟨1, rfl, by decide, by decide, gcd1 B⟩
    · exact ⟨v, rfl, v1, Nat.le_trans v2 (Nat.le_trans f2 (by decide)), vc⟩
  clear he
  try dsimp only
  refine Eq.mpr (hN _) ?_
  clear hN N
  -- number, many
  have hbB : b < Big := big_250 (Nat.le_trans bm (by decide))
  have htB : tp.natAbs < Big := big_250 (Nat.le_trans htb (by decide))
  refine w_step (fun N hN => ?_)
  try simp only [wSeq, wIfS, wTV, w2, w3, wCall, wCallS, wCons, wNil, wVar, wC, fI, fI0, fLen, fStr, f1I, f2I, wRet, wNext, wSet, wSetO, wAsg, wN, wGNil, wGCons, wGTup, wTup, wLst, wMNil, wMD, wMO, wPar, wPar3, wAug, wISeq, wIR1, wIR2, wApp, wTupOf, wDrop, wNeg, wAnd, wOr, wNot, wAndV, wOrV, wNotV, wIf, wBits, fEq, fNe, fIsN, fNotN, isN, fIsB, frz, wYes, wSlT, wSlL, wNP, wPt, wRevL, wCatL, fCatT, wBor, frzAt, wipeE, List.map_cons, List.map_nil, List.getElem?_cons_zero, List.getElem?_cons_succ, List.set_cons_zero, List.set_cons_succ, Bool.not_true, Bool.not_false]
  refine ⟨tp, b, rfl, by omega, htB, by omega, ?_⟩
  obtain ⟨x, hx⟩ : ∃ x, x = red tp b := ⟨_, rfl⟩
  have Xx : GoodX B x ∧ x.1.natAbs ≤ 10 ^ 185 ∧ x.2.natAbs ≤ 10 ^ 80 := by
    obtain ⟨g, g0, _, e1, e2, r0, rc⟩ := red_spec (t := tp) (b := (b : Int)) (by omega)
    obtain ⟨n1, n2⟩ := natAbs_red_le (t := tp) (b := (b : Int)) (by omega)
    rw [← hx] at *
    exact ⟨⟨r0, cop_sub bc ⟨g, by rw [Int.mul_comm]; exact e2⟩, rc⟩, by omega, by omega⟩
  obtain ⟨X, x1, x2⟩ := Xx
  rw [← hx]
  refine ⟨_, .inl rfl, by show 0 < 3; decide, by show 3 ≤ 1000000; decide, fun e he => ?_⟩
  obtain ⟨n, rfl, n1, hn⟩ : ∃ n : Nat, e = .int n ∧ 1 ≤ n ∧ n ≤ 60 := by
    simp only [List.mem_cons, List.not_mem_nil, or_false] at he
    rcases he with rfl | rfl | rfl
    · exact ⟨1, rfl, by decide, by decide⟩
    · exact ⟨17, rfl, by decide, by decide⟩
    · exact ⟨60, rfl, by decide, by decide⟩
  clear he
  try simp only [wSeq, wIfS, wTV, w2, w3, wCall, wCallS, wCons, wNil, wVar, wC, fI, fI0, fLen, fStr, f1I, f2I, wRet, wNext, wSet, wSetO, wAsg, wN, wGNil, wGCons, wGTup, wTup, wLst, wMNil, wMD, wMO, wPar, wPar3, wAug, wISeq, wIR1, wIR2, wApp, wTupOf, wDrop, wNeg, wAnd, wOr, wNot, wAndV, wOrV, wNotV, wIf, wBits, fEq, fNe, fIsN, fNotN, isN, fIsB, frz, wYes, wSlT, wSlL, wNP, wPt, wRevL, wCatL, fCatT, wBor, frzAt, wipeE, List.map_cons, List.map_nil, List.getElem?_cons_zero, List.getElem?_cons_succ, List.set_cons_zero, List.set_cons_succ, Bool.not_true, Bool.not_false]
  try dsimp only
  refine Eq.mpr (hN _) ?_
  clear hN N
  have Z62 : ∀ k, k ≤ 62 → Sized B ps x 66 (10 ^ 185) k := fun k hk => sized66 G p hk (Nat.le_refl _) X ⟨x1, Nat.le_trans x2 (by decide)⟩
  have hpsz : ∀ q ∈ ps, q.1.natAbs ≤ 66 ∧ q.2.natAbs ≤ 66 := fun q hq => by have := p.p q hq; omega
  have hxs : Sm x := ⟨big_250 (Nat.le_trans x1 (by decide)), big_250 (Nat.le_trans x2 (by decide)), X.pos⟩
  -- rule_told
  refine w_step (fun N hN => ?_)
  try simp only [wSeq, wIfS, wTV, w2, w3, wCall, wCallS, wCons, wNil, wVar, wC, fI, fI0, fLen, fStr, f1I, f2I, wRet, wNext, wSet, wSetO, wAsg, wN, wGNil, wGCons, wGTup, wTup, wLst, wMNil, wMD, wMO, wPar, wPar3, wAug, wISeq, wIR1, wIR2, wApp, wTupOf, wDrop, wNeg, wAnd, wOr, wNot, wAndV, wOrV, wNotV, wIf, wBits, fEq, fNe, fIsN, fNotN, isN, fIsB, frz, wYes, wSlT, wSlL, wNP, wPt, wRevL, wCatL, fCatT, wBor, frzAt, wipeE, List.map_cons, List.map_nil, List.getElem?_cons_zero, List.getElem?_cons_succ, List.set_cons_zero, List.set_cons_succ, Bool.not_true, Bool.not_false]
  refine ⟨B, ps, .inl rfl, by rw [G.len]; omega, fun q hq => by have := hpsz q hq; exact ⟨small_big (by omega), small_big (by omega)⟩, ?_⟩
  have hshR : ShN 3 (encR B ps) := shN_two shN_int.mono (shN_tup fun d hd => by
    obtain ⟨q, _, rfl⟩ := List.mem_map.mp hd
    exact shN_encF q)
  refine ⟨hshR.shp, hshR.shp, ne_same hshR.c ?_⟩
  try dsimp only
  refine Eq.mpr (hN _) ?_
  clear hN N
  -- digits, late
  refine w_step (fun N hN => ?_)
  try simp only [wSeq, wIfS, wTV, w2, w3, wCall, wCallS, wCons, wNil, wVar, wC, fI, fI0, fLen, fStr, f1I, f2I, wRet, wNext, wSet, wSetO, wAsg, wN, wGNil, wGCons, wGTup, wTup, wLst, wMNil, wMD, wMO, wPar, wPar3, wAug, wISeq, wIR1, wIR2, wApp, wTupOf, wDrop, wNeg, wAnd, wOr, wNot, wAndV, wOrV, wNotV, wIf, wBits, fEq, fNe, fIsN, fNotN, isN, fIsB, frz, wYes, wSlT, wSlL, wNP, wPt, wRevL, wCatL, fCatT, wBor, frzAt, wipeE, List.map_cons, List.map_nil, List.getElem?_cons_zero, List.getElem?_cons_succ, List.set_cons_zero, List.set_cons_succ, Bool.not_true, Bool.not_false]
  refine ⟨B, ps, x, 66, 10 ^ 185, n, rfl, by omega, by omega, Z62 n (by omega), rfl, ?_⟩
  try dsimp only
  refine Eq.mpr (hN _) ?_
  clear hN N
  obtain ⟨ds, hds⟩ : ∃ ds, ds = digs B ps n x := ⟨_, rfl⟩
  obtain ⟨y, hy⟩ : ∃ y, y = it B ps n x := ⟨_, rfl⟩
  have Y : GoodX B y := by rw [hy]; exact it_good G n X
  have hdl : ∀ d ∈ ds, d < B := by rw [hds]; exact digs_lt G X
  have hdn : ds.length = n := by rw [hds]; exact digs_len B ps n _
  rw [← hds, ← hy]
  have hsd : ShN 2 (.tuple [.tuple (dInts ds), encF y]) := shN_two (shN_dInts ds) (shN_encF _)
  refine w_step (fun N hN => ?_)
  try simp only [wSeq, wIfS, wTV, w2, w3, wCall, wCallS, wCons, wNil, wVar, wC, fI, fI0, fLen, fStr, f1I, f2I, wRet, wNext, wSet, wSetO, wAsg, wN, wGNil, wGCons, wGTup, wTup, wLst, wMNil, wMD, wMO, wPar, wPar3, wAug, wISeq, wIR1, wIR2, wApp, wTupOf, wDrop, wNeg, wAnd, wOr, wNot, wAndV, wOrV, wNotV, wIf, wBits, fEq, fNe, fIsN, fNotN, isN, fIsB, frz, wYes, wSlT, wSlL, wNP, wPt, wRevL, wCatL, fCatT, wBor, frzAt, wipeE, List.map_cons, List.map_nil, List.getElem?_cons_zero, List.getElem?_cons_succ, List.set_cons_zero, List.set_cons_succ, Bool.not_true, Bool.not_false]
  refine ⟨B, ps, x, 66, 10 ^ 185, n, rfl, by omega, Z62 n (by omega), ?_⟩
  rw [← hds, ← hy]
  refine ⟨hsd.shp, hsd.shp, ne_same hsd.c ?_⟩
  refine ⟨B, ps, x, 66, 10 ^ 185, n, by rw [hds, hy]; rfl, by omega, Z62 (n + 2) (by omega), (shN_encF x).shp, (shN_encF x).shp, ne_same (shN_encF x).c ?_⟩
  try dsimp only
  refine Eq.mpr (hN _) ?_
  clear hN N
  -- next_of, last_digit
  have ix0 : ixD (dInts ds) 0 = some (.int ((digN B x : Nat) : Int)) := by
    obtain ⟨k, rfl⟩ : ∃ k, n = k + 1 := ⟨n - 1, by omega⟩
    rw [hds, digs_cons]
    rfl
  refine w_step (fun N hN => ?_)
  try simp only [wSeq, wIfS, wTV, w2, w3, wCall, wCallS, wCons, wNil, wVar, wC, fI, fI0, fLen, fStr, f1I, f2I, wRet, wNext, wSet, wSetO, wAsg, wN, wGNil, wGCons, wGTup, wTup, wLst, wMNil, wMD, wMO, wPar, wPar3, wAug, wISeq, wIR1, wIR2, wApp, wTupOf, wDrop, wNeg, wAnd, wOr, wNot, wAndV, wOrV, wNotV, wIf, wBits, fEq, fNe, fIsN, fNotN, isN, fIsB, frz, wYes, wSlT, wSlL, wNP, wPt, wRevL, wCatL, fCatT, wBor, frzAt, wipeE, List.map_cons, List.map_nil, List.getElem?_cons_zero, List.getElem?_cons_succ, List.set_cons_zero, List.set_cons_succ, Bool.not_true, Bool.not_false, fIx]
  refine ⟨B, ps, x, 66, 10 ^ 185, rfl, Z62 1 (by decide), ?_⟩
  refine ⟨B, ps, x, 66, 10 ^ 185, rfl, by omega, Z62 1 (by decide), (shN_encF _).shp, (shN_encF _).shp, ne_same (shN_encF _).c ?_⟩
  refine ⟨B, x, rfl, by omega, small_big (by omega), hxs.t, X.cop, _, ix0, shN_int.shp, shN_int.shp, ne_same rfl ?_⟩
  try dsimp only
  refine Eq.mpr (hN _) ?_
  clear hN N
  -- power, rest
  have hP60 : B ^ n ≤ 6 ^ 60 := Nat.le_trans (Nat.pow_le_pow_left hB6 n) (Nat.pow_le_pow_right (by decide) hn)
  have hP1 : 1 ≤ B ^ n := Nat.one_le_pow _ _ (by omega)
  have hPb : B ^ n < Big := Nat.lt_of_le_of_lt hP60 (by unfold Big; decide +kernel)
  have hPn : ((B ^ n : Nat) : Int) = (B : Int) ^ n := by push_cast; rfl
  have hcn : Int.gcd x.2 ((B ^ n : Nat) : Int) = 1 := by
    rw [hPn]
    exact cop_pow X.cop n
  refine w_step (fun N hN => ?_)
  try simp only [wSeq, wIfS, wTV, w2, w3, wCall, wCallS, wCons, wNil, wVar, wC, fI, fI0, fLen, fStr, f1I, f2I, wRet, wNext, wSet, wSetO, wAsg, wN, wGNil, wGCons, wGTup, wTup, wLst, wMNil, wMD, wMO, wPar, wPar3, wAug, wISeq, wIR1, wIR2, wApp, wTupOf, wDrop, wNeg, wAnd, wOr, wNot, wAndV, wOrV, wNotV, wIf, wBits, fEq, fNe, fIsN, fNotN, isN, fIsB, frz, wYes, wSlT, wSlL, wNP, wPt, wRevL, wCatL, fCatT, wBor, frzAt, wipeE, List.map_cons, List.map_nil, List.getElem?_cons_zero, List.getElem?_cons_succ, List.set_cons_zero, List.set_cons_succ, Bool.not_true, Bool.not_false]
  refine ⟨B, n, rfl, by omega, by omega, ?_⟩
  try dsimp only
  refine Eq.mpr (hN _) ?_
  clear hN N
  refine w_step (fun N hN => ?_)
  try simp only [wSeq, wIfS, wTV, w2, w3, wCall, wCallS, wCons, wNil, wVar, wC, fI, fI0, fLen, fStr, f1I, f2I, wRet, wNext, wSet, wSetO, wAsg, wN, wGNil, wGCons, wGTup, wTup, wLst, wMNil, wMD, wMO, wPar, wPar3, wAug, wISeq, wIR1, wIR2, wApp, wTupOf, wDrop, wNeg, wAnd, wOr, wNot, wAndV, wOrV, wNotV, wIf, wBits, fEq, fNe, fIsN, fNotN, isN, fIsB, frz, wYes, wSlT, wSlL, wNP, wPt, wRevL, wCatL, fCatT, wBor, frzAt, wipeE, List.map_cons, List.map_nil, List.getElem?_cons_zero, List.getElem?_cons_succ, List.set_cons_zero, List.set_cons_succ, Bool.not_true, Bool.not_false]
  refine ⟨B, x, n, rfl, by omega, hPb, hxs.t, X.cop, ?_⟩
  obtain ⟨r, hr⟩ : ∃ r, r = digN (B ^ n) x := ⟨_, rfl⟩
  have hrP : r < B ^ n := by rw [hr]; exact dig_lt (by omega) hcn
  have hrd : ((B ^ n : Nat) : Int) ∣ x.1 - r * x.2 := by rw [hr]; exact dig_dvd (by omega) hcn
  rw [← hr]
  try dsimp only
  refine Eq.mpr (hN _) ?_
  clear hN N
  have hrb : r ≤ 6 ^ 60 := by omega
  have hrB : r < Big := by omega
  have hr185 : r ≤ 10 ^ 185 := Nat.le_trans hrb (by decide)
  -- not 0 <= rest < power or ..
  refine w_step (fun N hN => ?_)
  try simp only [wSeq, wIfS, wTV, w2, w3, wCall, wCallS, wCons, wNil, wVar, wC, fI, fI0, fLen, fStr, f1I, f2I, wRet, wNext, wSet, wSetO, wAsg, wN, wGNil, wGCons, wGTup, wTup, wLst, wMNil, wMD, wMO, wPar, wPar3, wAug, wISeq, wIR1, wIR2, wApp, wTupOf, wDrop, wNeg, wAnd, wOr, wNot, wAndV, wOrV, wNotV, wIf, wBits, fEq, fNe, fIsN, fNotN, isN, fIsB, frz, wYes, wSlT, wSlL, wNP, wPt, wRevL, wCatL, fCatT, wBor, frzAt, wipeE, List.map_cons, List.map_nil, List.getElem?_cons_zero, List.getElem?_cons_succ, List.set_cons_zero, List.set_cons_succ, Bool.not_true, Bool.not_false, fIx,  encF]
  rw [decide_eq_true (show (0 : Int) ≤ r by omega)]
  dsimp only
  rw [decide_eq_true (show (r : Int) < ((B ^ n : Nat) : Int) by omega)]
  refine ⟨_, rfl, _, rfl, mulOk (by omega) hxs.b, ?_⟩
  try simp only [wSeq, wIfS, wTV, w2, w3, wCall, wCallS, wCons, wNil, wVar, wC, fI, fI0, fLen, fStr, f1I, f2I, wRet, wNext, wSet, wSetO, wAsg, wN, wGNil, wGCons, wGTup, wTup, wLst, wMNil, wMD, wMO, wPar, wPar3, wAug, wISeq, wIR1, wIR2, wApp, wTupOf, wDrop, wNeg, wAnd, wOr, wNot, wAndV, wOrV, wNotV, wIf, wBits, fEq, fNe, fIsN, fNotN, isN, fIsB, frz, wYes, wSlT, wSlL, wNP, wPt, wRevL, wCatL, fCatT, wBor, frzAt, wipeE, List.map_cons, List.map_nil, List.getElem?_cons_zero, List.getElem?_cons_succ, List.set_cons_zero, List.set_cons_succ, Bool.not_true, Bool.not_false]
  refine ⟨by omega, rfl, rfl, ?_⟩
  rw [Int.emod_eq_zero_of_dvd hrd]
  refine ⟨x, B ^ n, rfl, by omega, hPb, hxs.t, hcn, ?_⟩
  rw [← hr]
  refine ⟨shN_int.shp, shN_int.shp, ne_same rfl ?_⟩
  try dsimp only
  refine Eq.mpr (hN _) ?_
  clear hN N
  -- digits_of of the rest
  have hal : digs B ps n x = digs B ps n ((r : Int), 1) := digs_alike G n X (good_int (by omega) _) (by
    rw [← hPn]
    simpa using hrd)
  have Xr := good_int (B := B) (by omega) (r : Int)
  have Zr : Sized B ps ((r : Int), 1) 66 (10 ^ 185) n := sized66 G p (by omega) (Nat.le_refl _) Xr ⟨by show (r : Int).natAbs ≤ 10 ^ 185; omega, by show (1 : Int).natAbs ≤ 10 ^ 185; decide⟩
  refine w_step (fun N hN => ?_)
  try simp only [wSeq, wIfS, wTV, w2, w3, wCall, wCallS, wCons, wNil, wVar, wC, fI, fI0, fLen, fStr, f1I, f2I, wRet, wNext, wSet, wSetO, wAsg, wN, wGNil, wGCons, wGTup, wTup, wLst, wMNil, wMD, wMO, wPar, wPar3, wAug, wISeq, wIR1, wIR2, wApp, wTupOf, wDrop, wNeg, wAnd, wOr, wNot, wAndV, wOrV, wNotV, wIf, wBits, fEq, fNe, fIsN, fNotN, isN, fIsB, frz, wYes, wSlT, wSlL, wNP, wPt, wRevL, wCatL, fCatT, wBor, frzAt, wipeE, List.map_cons, List.map_nil, List.getElem?_cons_zero, List.getElem?_cons_succ, List.set_cons_zero, List.set_cons_succ, Bool.not_true, Bool.not_false, fIx]
  refine ⟨B, ps, ((r : Int), 1), 66, 10 ^ 185, n, rfl, by omega, Zr, _, rfl, ?_⟩
  rw [← hal, ← hds]
  refine ⟨(shN_dInts _).shp, (shN_dInts _).shp, ne_same (shN_dInts _).c ?_⟩
  try dsimp only
  refine Eq.mpr (hN _) ?_
  clear hN N
  -- a, c
  obtain ⟨c1, c2, _⟩ := lin_bd G p ds hdl
  rw [hdn] at c1 c2
  have h60 : 66 ^ n ≤ 66 ^ 60 := Nat.pow_le_pow_right (by decide) hn
  have hn60 : n * 66 ^ n ≤ 60 * 66 ^ 60 := Nat.mul_le_mul hn h60
  obtain ⟨A, hA⟩ : ∃ A, A = (lin B ps ds).1 := ⟨_, rfl⟩
  obtain ⟨C, hC⟩ : ∃ C, C = (lin B ps ds).2.1 := ⟨_, rfl⟩
  rw [← hA] at c1
  rw [← hC] at c2
  have hAb : A.natAbs ≤ 66 ^ 60 := Nat.le_trans c1 h60
  have hCb : C.natAbs ≤ 60 * 66 ^ 60 := Nat.le_trans c2 hn60
  have hA' : A = pA ps ds := by rw [hA, lin_A]
  have big60 : 61 * 66 ^ 60 < Big := by unfold Big; decide +kernel
  have hlsz : (n + 1) * 66 ^ n < Big := Nat.lt_of_le_of_lt (Nat.mul_le_mul (show n + 1 ≤ 61 by omega) h60) big60
  have hAB : A.natAbs < Big := by omega
  have hCB : C.natAbs < Big := by omega
  refine w_step (fun N hN => ?_)
  try simp only [wSeq, wIfS, wTV, w2, w3, wCall, wCallS, wCons, wNil, wVar, wC, fI, fI0, fLen, fStr, f1I, f2I, wRet, wNext, wSet, wSetO, wAsg, wN, wGNil, wGCons, wGTup, wTup, wLst, wMNil, wMD, wMO, wPar, wPar3, wAug, wISeq, wIR1, wIR2, wApp, wTupOf, wDrop, wNeg, wAnd, wOr, wNot, wAndV, wOrV, wNotV, wIf, wBits, fEq, fNe, fIsN, fNotN, isN, fIsB, frz, wYes, wSlT, wSlL, wNP, wPt, wRevL, wCatL, fCatT, wBor, frzAt, wipeE, List.map_cons, List.map_nil, List.getElem?_cons_zero, List.getElem?_cons_succ, List.set_cons_zero, List.set_cons_succ, Bool.not_true, Bool.not_false, encF]
  refine ⟨B, ps, ds, 66, rfl, G, p, hdl, by rw [hdn]; exact hlsz, rfl, ?_⟩
  try simp only [wSeq, wIfS, wTV, w2, w3, wCall, wCallS, wCons, wNil, wVar, wC, fI, fI0, fLen, fStr, f1I, f2I, wRet, wNext, wSet, wSetO, wAsg, wN, wGNil, wGCons, wGTup, wTup, wLst, wMNil, wMD, wMO, wPar, wPar3, wAug, wISeq, wIR1, wIR2, wApp, wTupOf, wDrop, wNeg, wAnd, wOr, wNot, wAndV, wOrV, wNotV, wIf, wBits, fEq, fNe, fIsN, fNotN, isN, fIsB, frz, wYes, wSlT, wSlL, wNP, wPt, wRevL, wCatL, fCatT, wBor, frzAt, wipeE, List.map_cons, List.map_nil, List.getElem?_cons_zero, List.getElem?_cons_succ, List.set_cons_zero, List.set_cons_succ, Bool.not_true, Bool.not_false]
  rw [← hA, ← hC]
  try dsimp only
  refine Eq.mpr (hN _) ?_
  clear hN N
  -- _law_form
  have hred : red (A * x.1 + C * x.2) (((B ^ n : Nat) : Int) * x.2) = y := by
    have := line_to G X n
    rw [← hds, ← hA, ← hC, ← hy] at this
    exact this
  have hs1 : (A * x.1 + C * x.2).natAbs < Big := by
    have q1 : (A * x.1).natAbs ≤ 66 ^ 60 * 10 ^ 185 := by rw [Int.natAbs_mul]; exact Nat.mul_le_mul hAb x1
    have q2 : (C * x.2).natAbs ≤ 60 * 66 ^ 60 * 10 ^ 80 := by rw [Int.natAbs_mul]; exact Nat.mul_le_mul hCb x2
    have q3 := Int.natAbs_add_le (A * x.1) (C * x.2)
    have q4 : 66 ^ 60 * 10 ^ 185 + 60 * 66 ^ 60 * 10 ^ 80 < Big := by unfold Big; decide +kernel
    omega
  have hs2 : (((B ^ n : Nat) : Int) * x.2).natAbs < Big := by
    rw [Int.natAbs_mul, Int.natAbs_natCast]
    exact Nat.lt_of_le_of_lt (Nat.mul_le_mul hP60 x2) (by unfold Big; decide +kernel)
  refine w_step (fun N hN => ?_)
  try simp only [wSeq, wIfS, wTV, w2, w3, wCall, wCallS, wCons, wNil, wVar, wC, fI, fI0, fLen, fStr, f1I, f2I, wRet, wNext, wSet, wSetO, wAsg, wN, wGNil, wGCons, wGTup, wTup, wLst, wMNil, wMD, wMO, wPar, wPar3, wAug, wISeq, wIR1, wIR2, wApp, wTupOf, wDrop, wNeg, wAnd, wOr, wNot, wAndV, wOrV, wNotV, wIf, wBits, fEq, fNe, fIsN, fNotN, isN, fIsB, frz, wYes, wSlT, wSlL, wNP, wPt, wRevL, wCatL, fCatT, wBor, frzAt, wipeE, List.map_cons, List.map_nil, List.getElem?_cons_zero, List.getElem?_cons_succ, List.set_cons_zero, List.set_cons_succ, Bool.not_true, Bool.not_false, fIx,  encF]
  refine ⟨_, rfl, mulOk hAB hxs.t, _, rfl, mulOk hCB hxs.b, _, rfl, mulOk (by omega) hxs.b, _, _, rfl, Int.mul_pos (by omega) X.pos, hs1, hs2, ?_⟩
  rw [hred]
  refine ⟨(shN_encF y).shp, (shN_encF y).shp, ne_same rfl ?_⟩
  try dsimp only
  refine Eq.mpr (hN _) ?_
  clear hN N
  -- (told, s), from_q
  have zc : SizedC B ps r 66 (10 ^ 185) n := ⟨Zr, by omega, hlsz⟩
  refine w_step (fun N hN => ?_)
  try simp only [wSeq, wIfS, wTV, w2, w3, wCall, wCallS, wCons, wNil, wVar, wC, fI, fI0, fLen, fStr, f1I, f2I, wRet, wNext, wSet, wSetO, wAsg, wN, wGNil, wGCons, wGTup, wTup, wLst, wMNil, wMD, wMO, wPar, wPar3, wAug, wISeq, wIR1, wIR2, wApp, wTupOf, wDrop, wNeg, wAnd, wOr, wNot, wAndV, wOrV, wNotV, wIf, wBits, fEq, fNe, fIsN, fNotN, isN, fIsB, frz, wYes, wSlT, wSlL, wNP, wPt, wRevL, wCatL, fCatT, wBor, frzAt, wipeE, List.map_cons, List.map_nil, List.getElem?_cons_zero, List.getElem?_cons_succ, List.set_cons_zero, List.set_cons_succ, Bool.not_true, Bool.not_false]
  refine ⟨B, ps, r, 66, 10 ^ 185, n, rfl, zc, ?_⟩
  try simp only [wSeq, wIfS, wTV, w2, w3, wCall, wCallS, wCons, wNil, wVar, wC, fI, fI0, fLen, fStr, f1I, f2I, wRet, wNext, wSet, wSetO, wAsg, wN, wGNil, wGCons, wGTup, wTup, wLst, wMNil, wMD, wMO, wPar, wPar3, wAug, wISeq, wIR1, wIR2, wApp, wTupOf, wDrop, wNeg, wAnd, wOr, wNot, wAndV, wOrV, wNotV, wIf, wBits, fEq, fNe, fIsN, fNotN, isN, fIsB, frz, wYes, wSlT, wSlL, wNP, wPt, wRevL, wCatL, fCatT, wBor, frzAt, wipeE, List.map_cons, List.map_nil, List.getElem?_cons_zero, List.getElem?_cons_succ, List.set_cons_zero, List.set_cons_succ, Bool.not_true, Bool.not_false]
  refine ⟨rfl, rfl, ?_⟩
  obtain ⟨s0, hs0⟩ : ∃ s0, s0 = (it B ps n ((r : Int), 1)).1 := ⟨_, rfl⟩
  rw [← hal, ← hds, ← hA', ← hs0]
  have hsB : s0.natAbs < Big := by
    rw [hs0]
    exact Nat.lt_of_le_of_lt (it_bd G Xr p Zr.m n).t Zr.big
  try dsimp only
  refine Eq.mpr (hN _) ?_
  clear hN N
  obtain ⟨bg, hbg⟩ : ∃ bg, bg = belowD A s0 r ((B : Int) ^ n) := ⟨_, rfl⟩
  rw [← hbg]
  have hline : A * r + C = s0 * ((B ^ n : Nat) : Int) := by
    have := line_eq G n (r : Int)
    rw [← hal, ← hds, ← hA, ← hC, ← hs0] at this
    rw [hPn]
    exact this
  have hb2 : ∀ h : ¬ ((B ^ n : Nat) : Int) ≤ A, bg = .int (max 0 ((s0 - r) / (((B ^ n : Nat) : Int) - A) + 1)) := fun h => by
    rw [hbg, hPn, belowD, if_neg (by rw [← hPn]; exact h)]
  have hb1 : ∀ h : ((B ^ n : Nat) : Int) ≤ A, bg = .none := fun h => by
    rw [hbg, belowD, if_pos (by rw [← hPn]; exact h)]
  have hisN : isN bg = decide (((B ^ n : Nat) : Int) ≤ A) := by
    by_cases h : ((B ^ n : Nat) : Int) ≤ A
    · rw [hb1 h, decide_eq_true h]
      rfl
    · rw [hb2 h, decide_eq_false h]
      rfl
  have hE : PyData.eqv (.bool (isN bg)) (.bool (decide (((B ^ n : Nat) : Int) ≤ A))) = true := by
    rw [hisN]
    exact eqv_refl _ rfl
  -- told != a or ..
  refine w_step (fun N hN => ?_)
  try simp only [wSeq, wIfS, wTV, w2, w3, wCall, wCallS, wCons, wNil, wVar, wC, fI, fI0, fLen, fStr, f1I, f2I, wRet, wNext, wSet, wSetO, wAsg, wN, wGNil, wGCons, wGTup, wTup, wLst, wMNil, wMD, wMO, wPar, wPar3, wAug, wISeq, wIR1, wIR2, wApp, wTupOf, wDrop, wNeg, wAnd, wOr, wNot, wAndV, wOrV, wNotV, wIf, wBits, fEq, fNe, fIsN, fNotN, isN, fIsB, frz, wYes, wSlT, wSlL, wNP, wPt, wRevL, wCatL, fCatT, wBor, frzAt, wipeE, List.map_cons, List.map_nil, List.getElem?_cons_zero, List.getElem?_cons_succ, List.set_cons_zero, List.set_cons_succ, Bool.not_true, Bool.not_false]
  refine ⟨shN_int.shp, shN_int.shp, ne_same rfl ?_⟩
  refine ⟨mulOk hsB (by omega), mulOk hAB (by omega), ?_⟩
  try simp only [wSeq, wIfS, wTV, w2, w3, wCall, wCallS, wCons, wNil, wVar, wC, fI, fI0, fLen, fStr, f1I, f2I, wRet, wNext, wSet, wSetO, wAsg, wN, wGNil, wGCons, wGTup, wTup, wLst, wMNil, wMD, wMO, wPar, wPar3, wAug, wISeq, wIR1, wIR2, wApp, wTupOf, wDrop, wNeg, wAnd, wOr, wNot, wAndV, wOrV, wNotV, wIf, wBits, fEq, fNe, fIsN, fNotN, isN, fIsB, frz, wYes, wSlT, wSlL, wNP, wPt, wRevL, wCatL, fCatT, wBor, frzAt, wipeE, List.map_cons, List.map_nil, List.getElem?_cons_zero, List.getElem?_cons_succ, List.set_cons_zero, List.set_cons_succ, Bool.not_true, Bool.not_false]
  rw [hline]
  refine ⟨shN_int.shp, shN_int.shp, ne_same rfl ?_⟩
  refine ⟨shN_bool.shp, shN_bool.shp, m_f (c := !PyData.eqv (.bool (isN bg)) (.bool (decide (((B ^ n : Nat) : Int) ≤ A)))) (by rw [hE]; rfl) ?_⟩
  try dsimp only
  refine Eq.mpr (hN _) ?_
  clear hN N
  -- if from_q is not None
  refine w_step (fun N hN => ?_)
  have fin : N [Sl.no, Sl.src, Sl.dat (.int B), Sl.dat (.tuple (ps.map encF)), Sl.dat (.tuple [.int B, .tuple (ps.map encF)]), Sl.dat (.int sg), Sl.dat (.int tp), Sl.dat (.int b), Sl.dat (encF x), Sl.dat (.int n), Sl.dat (.tuple (dInts ds)), Sl.dat (encF y), Sl.dat (.int ((B ^ n : Nat) : Int)), Sl.dat (.int r), Sl.dat (.int A), Sl.dat (.int C), Sl.dat (.int A), Sl.dat (.int s0), Sl.dat bg, Sl.no, Sl.no, Sl.no, Sl.no, Sl.no] := by
    try dsimp only
    refine Eq.mpr (hN _) ?_
    clear hN N
    -- far, often
    refine w_step (fun N hN => ?_)
    try simp only [wSeq, wIfS, wTV, w2, w3, wCall, wCallS, wCons, wNil, wVar, wC, fI, fI0, fLen, fStr, f1I, f2I, wRet, wNext, wSet, wSetO, wAsg, wN, wGNil, wGCons, wGTup, wTup, wLst, wMNil, wMD, wMO, wPar, wPar3, wAug, wISeq, wIR1, wIR2, wApp, wTupOf, wDrop, wNeg, wAnd, wOr, wNot, wAndV, wOrV, wNotV, wIf, wBits, fEq, fNe, fIsN, fNotN, isN, fIsB, frz, wYes, wSlT, wSlL, wNP, wPt, wRevL, wCatL, fCatT, wBor, frzAt, wipeE, List.map_cons, List.map_nil, List.getElem?_cons_zero, List.getElem?_cons_succ, List.set_cons_zero, List.set_cons_succ, Bool.not_true, Bool.not_false]
    refine ⟨1, rfl, by decide, fun fr fr1 fr2 => ?_⟩
    refine ⟨1, rfl, by decide, fun o o1 o2 => ?_⟩
    refine ⟨o, B, rfl, o1, Nat.lt_of_le_of_lt o2 (by decide +kernel), hB, hB6, fun oft oft1 oft2 oftc => ?_⟩
    try simp only [wSeq, wIfS, wTV, w2, w3, wCall, wCallS, wCons, wNil, wVar, wC, fI, fI0, fLen, fStr, f1I, f2I, wRet, wNext, wSet, wSetO, wAsg, wN, wGNil, wGCons, wGTup, wTup, wLst, wMNil, wMD, wMO, wPar, wPar3, wAug, wISeq, wIR1, wIR2, wApp, wTupOf, wDrop, wNeg, wAnd, wOr, wNot, wAndV, wOrV, wNotV, wIf, wBits, fEq, fNe, fIsN, fNotN, isN, fIsB, frz, wYes, wSlT, wSlL, wNP, wPt, wRevL, wCatL, fCatT, wBor, frzAt, wipeE, List.map_cons, List.map_nil, List.getElem?_cons_zero, List.getElem?_cons_succ, List.set_cons_zero, List.set_cons_succ, Bool.not_true, Bool.not_false]
    try dsimp only
    refine Eq.mpr (hN _) ?_
    clear hN N
    have hfr : (fr : Int).natAbs ≤ 10 ^ 45 := by rw [Int.natAbs_natCast]; exact Nat.le_trans fr2 (by decide)
    have hof : (oft : Int).natAbs ≤ 10 ^ 45 := by rw [Int.natAbs_natCast]; exact Nat.le_trans oft2 (Nat.le_trans o2 (by decide))
    have h1b : (1 : Int).natAbs ≤ 1 := by decide
    have smfr : Sm ((fr : Int), 1) := smF (n := 10 ^ 45) hfr (by show (1 : Int).natAbs ≤ 10 ^ 45; decide) (by unfold Big; decide +kernel) (by show (0 : Int) < 1; decide)
    have smof : Sm ((oft : Int), 1) := smF (n := 10 ^ 45) hof (by show (1 : Int).natAbs ≤ 10 ^ 45; decide) (by unfold Big; decide +kernel) (by show (0 : Int) < 1; decide)
    have big240 : 10 ^ 240 < Big := by unfold Big; decide +kernel
    have x185 : x.2.natAbs ≤ 10 ^ 185 := Nat.le_trans x2 (by decide)
    -- here
    have u1 : (x.1 * 1 + fr * x.2).natAbs ≤ 10 ^ 186 := add_sz (mul_sz x1 h1b (Nat.le_refl _)) (mul_sz hfr x2 (Nat.le_refl _)) (by decide +kernel)
    have u1' : (x.1 + fr * x.2).natAbs ≤ 10 ^ 186 := by rw [Int.mul_one] at u1; exact u1
    refine w_step (fun N hN => ?_)
    try simp only [wSeq, wIfS, wTV, w2, w3, wCall, wCallS, wCons, wNil, wVar, wC, fI, fI0, fLen, fStr, f1I, f2I, wRet, wNext, wSet, wSetO, wAsg, wN, wGNil, wGCons, wGTup, wTup, wLst, wMNil, wMD, wMO, wPar, wPar3, wAug, wISeq, wIR1, wIR2, wApp, wTupOf, wDrop, wNeg, wAnd, wOr, wNot, wAndV, wOrV, wNotV, wIf, wBits, fEq, fNe, fIsN, fNotN, isN, fIsB, frz, wYes, wSlT, wSlL, wNP, wPt, wRevL, wCatL, fCatT, wBor, frzAt, wipeE, List.map_cons, List.map_nil, List.getElem?_cons_zero, List.getElem?_cons_succ, List.set_cons_zero, List.set_cons_succ, Bool.not_true, Bool.not_false]
    refine ⟨x, ((fr : Int), 1), rfl, hxs, smfr, Nat.lt_of_le_of_lt u1 (by unfold Big; decide +kernel), Nat.lt_of_le_of_lt (mul_sz x2 h1b (Nat.le_refl _)) (by unfold Big; decide +kernel), ?_⟩
    rw [plus_int X.pos X.red]
    try dsimp only
    refine Eq.mpr (hN _) ?_
    clear hN N
    -- moved
    obtain ⟨nx, hnx⟩ : ∃ nx, nx = nxt B ps x := ⟨_, rfl⟩
    have NX : GoodX B nx := by rw [hnx]; exact nxt_good G X
    have nb : Bd (66 * 10 ^ 185) nx := by rw [hnx]; exact nxt_bd G X p (Z62 1 (by decide)).m
    have smnx : Sm nx := smF nb.t nb.b (by unfold Big; decide +kernel) NX.pos
    have nt1 := nb.t
    have nt2 := nb.b
    have Xm : GoodX B (x.1 + fr * x.2, x.2) := ⟨X.pos, X.cop, by
      have := cop_less (-(fr : Int)) X.red
      rwa [show x.1 - -(fr : Int) * x.2 = x.1 + fr * x.2 by rw [Int.neg_mul]; omega] at this⟩
    refine w_step (fun N hN => ?_)
    try simp only [wSeq, wIfS, wTV, w2, w3, wCall, wCallS, wCons, wNil, wVar, wC, fI, fI0, fLen, fStr, f1I, f2I, wRet, wNext, wSet, wSetO, wAsg, wN, wGNil, wGCons, wGTup, wTup, wLst, wMNil, wMD, wMO, wPar, wPar3, wAug, wISeq, wIR1, wIR2, wApp, wTupOf, wDrop, wNeg, wAnd, wOr, wNot, wAndV, wOrV, wNotV, wIf, wBits, fEq, fNe, fIsN, fNotN, isN, fIsB, frz, wYes, wSlT, wSlL, wNP, wPt, wRevL, wCatL, fCatT, wBor, frzAt, wipeE, List.map_cons, List.map_nil, List.getElem?_cons_zero, List.getElem?_cons_succ, List.set_cons_zero, List.set_cons_succ, Bool.not_true, Bool.not_false]
    refine ⟨B, ps, fr, rfl, G, by omega, Nat.le_trans hfr (by decide), fun q hq => by have := hpsz q hq; exact ⟨Nat.le_trans this.1 (by decide), Nat.le_trans this.2 (by decide)⟩, ?_⟩
    refine ⟨B, movedPs B ps fr, (x.1 + fr * x.2, x.2), 10 ^ 48, 10 ^ 186, rfl, ⟨moved_good G, Xm, moved_pb G p hfr, ⟨u1', Nat.le_trans x2 (by decide)⟩, by unfold Big; decide +kernel⟩, ?_⟩
    refine ⟨B, ps, x, 66, 10 ^ 185, rfl, by omega, Z62 1 (by decide), ?_⟩
    rw [next_moved G X, ← hnx]
    refine ⟨nx, ((fr : Int), 1), rfl, smnx, smfr, Nat.lt_of_le_of_lt (add_sz (mul_sz nt1 h1b (Nat.le_refl _)) (mul_sz hfr nt2 (Nat.le_refl _)) (Nat.le_refl _)) (by unfold Big; decide +kernel), Nat.lt_of_le_of_lt (mul_sz nt2 h1b (Nat.le_refl _)) (by unfold Big; decide +kernel), (shN_encF _).shp, (shN_encF _).shp, ne_same (shN_encF _).c ?_⟩
    try dsimp only
    refine Eq.mpr (hN _) ?_
    clear hN N
    -- times
    have v1' : (x.1 * oft).natAbs ≤ 10 ^ 230 := mul_sz x1 hof (by decide +kernel)
    have v2' : (x.2 * 1).natAbs ≤ 10 ^ 230 := mul_sz x2 h1b (by decide +kernel)
    refine w_step (fun N hN => ?_)
    try simp only [wSeq, wIfS, wTV, w2, w3, wCall, wCallS, wCons, wNil, wVar, wC, fI, fI0, fLen, fStr, f1I, f2I, wRet, wNext, wSet, wSetO, wAsg, wN, wGNil, wGCons, wGTup, wTup, wLst, wMNil, wMD, wMO, wPar, wPar3, wAug, wISeq, wIR1, wIR2, wApp, wTupOf, wDrop, wNeg, wAnd, wOr, wNot, wAndV, wOrV, wNotV, wIf, wBits, fEq, fNe, fIsN, fNotN, isN, fIsB, frz, wYes, wSlT, wSlL, wNP, wPt, wRevL, wCatL, fCatT, wBor, frzAt, wipeE, List.map_cons, List.map_nil, List.getElem?_cons_zero, List.getElem?_cons_succ, List.set_cons_zero, List.set_cons_succ, Bool.not_true, Bool.not_false]
    refine ⟨x, ((oft : Int), 1), rfl, hxs, smof, Nat.lt_of_le_of_lt v1' (by unfold Big; decide +kernel), Nat.lt_of_le_of_lt v2' (by unfold Big; decide +kernel), ?_⟩
    try dsimp only
    refine Eq.mpr (hN _) ?_
    clear hN N
    obtain ⟨tx, _⟩ := times_x X oftc
    have tb : Bd (10 ^ 230) (timesF x ((oft : Int), 1)) := by
      obtain ⟨q1, q2⟩ := natAbs_red_le (t := x.1 * oft) (b := x.2 * 1) (by rw [Int.mul_one]; exact X.pos)
      exact ⟨Nat.le_trans q1 v1', Nat.le_trans q2 v2'⟩
    refine w_step (fun N hN => ?_)
    try simp only [wSeq, wIfS, wTV, w2, w3, wCall, wCallS, wCons, wNil, wVar, wC, fI, fI0, fLen, fStr, f1I, f2I, wRet, wNext, wSet, wSetO, wAsg, wN, wGNil, wGCons, wGTup, wTup, wLst, wMNil, wMD, wMO, wPar, wPar3, wAug, wISeq, wIR1, wIR2, wApp, wTupOf, wDrop, wNeg, wAnd, wOr, wNot, wAndV, wOrV, wNotV, wIf, wBits, fEq, fNe, fIsN, fNotN, isN, fIsB, frz, wYes, wSlT, wSlL, wNP, wPt, wRevL, wCatL, fCatT, wBor, frzAt, wipeE, List.map_cons, List.map_nil, List.getElem?_cons_zero, List.getElem?_cons_succ, List.set_cons_zero, List.set_cons_succ, Bool.not_true, Bool.not_false]
    refine ⟨B, ps, oft, rfl, G, by omega, by omega, Nat.le_trans hof (by decide), oftc, fun q hq => by have := hpsz q hq; exact ⟨Nat.le_trans this.1 (by decide), Nat.le_trans this.2 (by decide)⟩, ?_⟩
    refine ⟨B, timesPs B ps oft, timesF x ((oft : Int), 1), 10 ^ 48, 10 ^ 230, rfl, ⟨times_good G oftc, tx, times_pb G p oftc hof, tb, by unfold Big; decide +kernel⟩, ?_⟩
    refine ⟨B, ps, x, 66, 10 ^ 185, rfl, by omega, Z62 1 (by decide), ?_⟩
    rw [next_times G X oftc, ← hnx]
    refine ⟨nx, ((oft : Int), 1), rfl, smnx, smof, Nat.lt_of_le_of_lt (mul_sz nt1 hof (Nat.le_refl _)) (by unfold Big; decide +kernel), Nat.lt_of_le_of_lt (mul_sz nt2 h1b (Nat.le_refl _)) (by unfold Big; decide +kernel), (shN_encF _).shp, (shN_encF _).shp, ne_same (shN_encF _).c ?_⟩
    try dsimp only
    refine Eq.mpr (hN _) ?_
    clear hN N
    -- plain
    have hdB := dig_lt (B := B) (by omega) X.cop
    refine w_step (fun N hN => ?_)
    try simp only [wSeq, wIfS, wTV, w2, w3, wCall, wCallS, wCons, wNil, wVar, wC, fI, fI0, fLen, fStr, f1I, f2I, wRet, wNext, wSet, wSetO, wAsg, wN, wGNil, wGCons, wGTup, wTup, wLst, wMNil, wMD, wMO, wPar, wPar3, wAug, wISeq, wIR1, wIR2, wApp, wTupOf, wDrop, wNeg, wAnd, wOr, wNot, wAndV, wOrV, wNotV, wIf, wBits, fEq, fNe, fIsN, fNotN, isN, fIsB, frz, wYes, wSlT, wSlL, wNP, wPt, wRevL, wCatL, fCatT, wBor, frzAt, wipeE, List.map_cons, List.map_nil, List.getElem?_cons_zero, List.getElem?_cons_succ, List.set_cons_zero, List.set_cons_succ, Bool.not_true, Bool.not_false]
    refine ⟨B, rfl, by omega, ?_⟩
    refine ⟨B, plainPs B, x, B + 1, 10 ^ 185, rfl, ⟨plain_good hB, X, plain_pb, ⟨x1, x185⟩, Nat.lt_of_le_of_lt (Nat.mul_le_mul_right _ (show (B + 1) ^ 1 ≤ 7 by rw [Nat.pow_one]; omega)) (by unfold Big; decide +kernel)⟩, ?_⟩
    refine ⟨B, x, rfl, by omega, by omega, hxs, X.cop, ?_, Nat.lt_of_le_of_lt (mul_sz x2 (show (B : Int).natAbs ≤ 6 by omega) (Nat.le_refl _)) (by unfold Big; decide +kernel), (shN_encF _).shp, (shN_encF _).shp, ?_⟩
    · have q1 := mul_sz (a := ((digN B x : Nat) : Int)) (m := 6) (show ((digN B x : Nat) : Int).natAbs ≤ 6 by omega) x2 (Nat.le_refl _)
      exact Nat.lt_of_le_of_lt (sub_sz x1 q1 (Nat.le_refl _)) (by unfold Big; decide +kernel)
    rw [next_plain hB X]
    refine ne_same (shN_encF _).c ?_
    try dsimp only
    refine Eq.mpr (hN _) ?_
    clear hN N
    -- size
    refine w_step (fun N hN => ?_)
    try simp only [wSeq, wIfS, wTV, w2, w3, wCall, wCallS, wCons, wNil, wVar, wC, fI, fI0, fLen, fStr, f1I, f2I, wRet, wNext, wSet, wSetO, wAsg, wN, wGNil, wGCons, wGTup, wTup, wLst, wMNil, wMD, wMO, wPar, wPar3, wAug, wISeq, wIR1, wIR2, wApp, wTupOf, wDrop, wNeg, wAnd, wOr, wNot, wAndV, wOrV, wNotV, wIf, wBits, fEq, fNe, fIsN, fNotN, isN, fIsB, frz, wYes, wSlT, wSlL, wNP, wPt, wRevL, wCatL, fCatT, wBor, frzAt, wipeE, List.map_cons, List.map_nil, List.getElem?_cons_zero, List.getElem?_cons_succ, List.set_cons_zero, List.set_cons_succ, Bool.not_true, Bool.not_false]
    refine wlc_fm [.int 1, .int 2, .int 3] (szD B) id (fun Q q => q) (by decide) (fun e he Q q => ?_) ?_
    · have hk : ∃ k : Nat, e = .int k ∧ k ≤ 3 := by
        simp only [List.mem_cons, List.not_mem_nil, or_false] at he
        rcases he with rfl | rfl | rfl
        · exact ⟨1, rfl, by decide⟩
        · exact ⟨2, rfl, by decide⟩
        · exact ⟨3, rfl, by decide⟩
      obtain ⟨k, rfl, hk3⟩ := hk
      try simp only [wSeq, wIfS, wTV, w2, w3, wCall, wCallS, wCons, wNil, wVar, wC, fI, fI0, fLen, fStr, f1I, f2I, wRet, wNext, wSet, wSetO, wAsg, wN, wGNil, wGCons, wGTup, wTup, wLst, wMNil, wMD, wMO, wPar, wPar3, wAug, wISeq, wIR1, wIR2, wApp, wTupOf, wDrop, wNeg, wAnd, wOr, wNot, wAndV, wOrV, wNotV, wIf, wBits, fEq, fNe, fIsN, fNotN, isN, fIsB, frz, wYes, wSlT, wSlL, wNP, wPt, wRevL, wCatL, fCatT, wBor, frzAt, wipeE, List.map_cons, List.map_nil, List.getElem?_cons_zero, List.getElem?_cons_succ, List.set_cons_zero, List.set_cons_succ, Bool.not_true, Bool.not_false]
      refine ⟨B, k, rfl, by omega, by omega, ?_⟩
      dsimp only
      revert q
      show Q (decide (((B ^ k : Nat) : Int) ≤ 64)) (id (PyData.int (k : Int))) → _
      cases decide (((B ^ k : Nat) : Int) ≤ 64) <;> exact fun q => q
    · refine ⟨_, .inl rfl, szL_pos (by omega), szL_len, fun e he => ?_⟩
      obtain ⟨k, rfl, k1, k3, k64⟩ := szL he
      try dsimp only
      refine Eq.mpr (hN _) ?_
      clear hN N
      try simp only [wSeq, wIfS, wTV, w2, w3, wCall, wCallS, wCons, wNil, wVar, wC, fI, fI0, fLen, fStr, f1I, f2I, wRet, wNext, wSet, wSetO, wAsg, wN, wGNil, wGCons, wGTup, wTup, wLst, wMNil, wMD, wMO, wPar, wPar3, wAug, wISeq, wIR1, wIR2, wApp, wTupOf, wDrop, wNeg, wAnd, wOr, wNot, wAndV, wOrV, wNotV, wIf, wBits, fEq, fNe, fIsN, fNotN, isN, fIsB, frz, wYes, wSlT, wSlL, wNP, wPt, wRevL, wCatL, fCatT, wBor, frzAt, wipeE, List.map_cons, List.map_nil, List.getElem?_cons_zero, List.getElem?_cons_succ, List.set_cons_zero, List.set_cons_succ, Bool.not_true, Bool.not_false, fIx]
      have h2 : 2 ≤ B ^ k := Nat.le_trans hB (Nat.le_trans (by rw [Nat.pow_one]; exact Nat.le_refl _) (Nat.pow_le_pow_right (by omega) k1))
      have h663 : 66 ^ k ≤ 66 ^ 3 := Nat.pow_le_pow_right (by decide) k3
      refine ⟨B, ps, 66, k, rfl, by omega, G, p, k64, Nat.lt_of_le_of_lt (Nat.mul_le_mul (show k + 64 ≤ 67 by omega) h663) (by unfold Big; decide +kernel), ?_⟩
      refine ⟨B ^ k, takenPs B ps k, x, 10 ^ 18, 10 ^ 185, rfl, ⟨taken_good G h2, good_pow X, taken_pb66 G p (by omega) k64, ⟨x1, x185⟩, by unfold Big; decide +kernel⟩, ?_⟩
      refine ⟨B, ps, x, 66, 10 ^ 185, k, rfl, by omega, by omega, Z62 k (by omega), _, rfl, (shN_encF _).shp, (shN_encF _).shp, ?_⟩
      rw [next_taken G X h2, eqv_refl _ (shN_encF _).c]
  try simp only [wSeq, wIfS, wTV, w2, w3, wCall, wCallS, wCons, wNil, wVar, wC, fI, fI0, fLen, fStr, f1I, f2I, wRet, wNext, wSet, wSetO, wAsg, wN, wGNil, wGCons, wGTup, wTup, wLst, wMNil, wMD, wMO, wPar, wPar3, wAug, wISeq, wIR1, wIR2, wApp, wTupOf, wDrop, wNeg, wAnd, wOr, wNot, wAndV, wOrV, wNotV, wIf, wBits, fEq, fNe, fIsN, fNotN, isN, fIsB, frz, wYes, wSlT, wSlL, wNP, wPt, wRevL, wCatL, fCatT, wBor, frzAt, wipeE, List.map_cons, List.map_nil, List.getElem?_cons_zero, List.getElem?_cons_succ, List.set_cons_zero, List.set_cons_succ, Bool.not_true, Bool.not_false]
  by_cases hq : ((B ^ n : Nat) : Int) ≤ A
  · have e := hb1 hq
    subst e
    exact fin
  · have e := hb2 hq
    obtain ⟨q, hqd⟩ : ∃ q, q = max 0 ((s0 - r) / (((B ^ n : Nat) : Int) - A) + 1) := ⟨_, rfl⟩
    have hs60 : s0.natAbs ≤ 66 ^ 60 * 10 ^ 185 := by
      rw [hs0]
      exact Nat.le_trans (it_bd G Xr p Zr.m n).t (Nat.mul_le_mul_right _ h60)
    have hqB : q.natAbs < Big := by
      rw [hqd]
      refine begin_big (by omega) ?_
      have : 66 ^ 60 * 10 ^ 185 + 6 ^ 60 + 2 < Big := by unfold Big; decide +kernel
      omega
    rw [← hqd] at e
    subst e
    refine ⟨mulOk hAB hqB, mulOk hqB (by omega), ?_⟩
    have b1 : decide (q * ((B ^ n : Nat) : Int) + r ≤ A * q + s0) = false := decide_eq_false (by
      rw [hqd]
      exact below_on (by omega) (Int.le_refl _))
    have hA2 : PL.MulOk A (q - 1) := mulOk hAB (by omega)
    have hP2 : PL.MulOk (q - 1) ((B ^ n : Nat) : Int) := mulOk (by omega) (by omega)
    have key : 0 < q → decide (A * (q - 1) + s0 < (q - 1) * ((B ^ n : Nat) : Int) + r) = false := fun h => by
      rw [hqd] at h ⊢
      exact decide_eq_false (below_not (by omega) h)
    try simp only [wSeq, wIfS, wTV, w2, w3, wCall, wCallS, wCons, wNil, wVar, wC, fI, fI0, fLen, fStr, f1I, f2I, wRet, wNext, wSet, wSetO, wAsg, wN, wGNil, wGCons, wGTup, wTup, wLst, wMNil, wMD, wMO, wPar, wPar3, wAug, wISeq, wIR1, wIR2, wApp, wTupOf, wDrop, wNeg, wAnd, wOr, wNot, wAndV, wOrV, wNotV, wIf, wBits, fEq, fNe, fIsN, fNotN, isN, fIsB, frz, wYes, wSlT, wSlL, wNP, wPt, wRevL, wCatL, fCatT, wBor, frzAt, wipeE, List.map_cons, List.map_nil, List.getElem?_cons_zero, List.getElem?_cons_succ, List.set_cons_zero, List.set_cons_succ, Bool.not_true, Bool.not_false]
    rw [b1]
    try simp only [wSeq, wIfS, wTV, w2, w3, wCall, wCallS, wCons, wNil, wVar, wC, fI, fI0, fLen, fStr, f1I, f2I, wRet, wNext, wSet, wSetO, wAsg, wN, wGNil, wGCons, wGTup, wTup, wLst, wMNil, wMD, wMO, wPar, wPar3, wAug, wISeq, wIR1, wIR2, wApp, wTupOf, wDrop, wNeg, wAnd, wOr, wNot, wAndV, wOrV, wNotV, wIf, wBits, fEq, fNe, fIsN, fNotN, isN, fIsB, frz, wYes, wSlT, wSlL, wNP, wPt, wRevL, wCatL, fCatT, wBor, frzAt, wipeE, List.map_cons, List.map_nil, List.getElem?_cons_zero, List.getElem?_cons_succ, List.set_cons_zero, List.set_cons_succ, Bool.not_true, Bool.not_false]
    by_cases hb0 : 0 < q
    · rw [decide_eq_true hb0]
      refine ⟨hA2, hP2, ?_⟩
      rw [key hb0]
      exact fin
    · rw [decide_eq_false hb0]
      exact fin
end
theorem all_mk {l : PySem.W.OpenLaw} {w : World} {K : PySem.W.Frag} {h : Heap} {mg : Str → Option Value} {fa : Addr} (X : K.In h) (G : h.Ns mainGlobals mg) (hfa : mg "law" = some (.ref fa))
    {f0 : Addr} {od0 an0 : Option Addr} {sl0 : Array (Option Value)} {oc0 kV0 dc0 pm0 cd0 ct0 : Value}
    (a0 : PySem.W.nsIn K mainGlobals "not_long" = some (some (.ref f0))) (l0 : K.lookup f0 = some ⟨oc0, od0, .func (PySem.W.fnOf "not_long" "not_long" (defArgs s_not_long) (defBody s_not_long) (defScope s_not_long) .none kV0 dc0 pm0 an0 cd0 ct0), sl0⟩) (c0 : PySem.W.codeIn K cd0 "not_long" = true) (k0 : PySem.W.keepIn K (.ref f0) = true)
    {f1 : Addr} {od1 an1 : Option Addr} {sl1 : Array (Option Value)} {oc1 kV1 dc1 pm1 cd1 ct1 : Value}
    (a1 : PySem.W.nsIn K mainGlobals "number_told" = some (some (.ref f1))) (l1 : K.lookup f1 = some ⟨oc1, od1, .func (PySem.W.fnOf "number_told" "number_told" (defArgs s_number_told) (defBody s_number_told) (defScope s_number_told) .none kV1 dc1 pm1 an1 cd1 ct1), sl1⟩) (c1 : PySem.W.codeIn K cd1 "number_told" = true) (k1 : PySem.W.keepIn K (.ref f1) = true)
    {f2 : Addr} {od2 an2 : Option Addr} {sl2 : Array (Option Value)} {oc2 kV2 dc2 pm2 cd2 ct2 : Value}
    (a2 : PySem.W.nsIn K mainGlobals "number_plus" = some (some (.ref f2))) (l2 : K.lookup f2 = some ⟨oc2, od2, .func (PySem.W.fnOf "number_plus" "number_plus" (defArgs s_number_plus) (defBody s_number_plus) (defScope s_number_plus) .none kV2 dc2 pm2 an2 cd2 ct2), sl2⟩) (c2 : PySem.W.codeIn K cd2 "number_plus" = true) (k2 : PySem.W.keepIn K (.ref f2) = true)
    {f3 : Addr} {od3 an3 : Option Addr} {sl3 : Array (Option Value)} {oc3 kV3 dc3 pm3 cd3 ct3 : Value}
    (a3 : PySem.W.nsIn K mainGlobals "number_times" = some (some (.ref f3))) (l3 : K.lookup f3 = some ⟨oc3, od3, .func (PySem.W.fnOf "number_times" "number_times" (defArgs s_number_times) (defBody s_number_times) (defScope s_number_times) .none kV3 dc3 pm3 an3 cd3 ct3), sl3⟩) (c3 : PySem.W.codeIn K cd3 "number_times" = true) (k3 : PySem.W.keepIn K (.ref f3) = true)
    {f4 : Addr} {od4 an4 : Option Addr} {sl4 : Array (Option Value)} {oc4 kV4 dc4 pm4 cd4 ct4 : Value}
    (a4 : PySem.W.nsIn K mainGlobals "shares" = some (some (.ref f4))) (l4 : K.lookup f4 = some ⟨oc4, od4, .func (PySem.W.fnOf "shares" "shares" (defArgs s_shares) (defBody s_shares) (defScope s_shares) .none kV4 dc4 pm4 an4 cd4 ct4), sl4⟩) (c4 : PySem.W.codeIn K cd4 "shares" = true) (k4 : PySem.W.keepIn K (.ref f4) = true)
    {f5 : Addr} {od5 an5 : Option Addr} {sl5 : Array (Option Value)} {oc5 kV5 dc5 pm5 cd5 ct5 : Value}
    (a5 : PySem.W.nsIn K mainGlobals "is_of" = some (some (.ref f5))) (l5 : K.lookup f5 = some ⟨oc5, od5, .func (PySem.W.fnOf "is_of" "is_of" (defArgs s_is_of) (defBody s_is_of) (defScope s_is_of) .none kV5 dc5 pm5 an5 cd5 ct5), sl5⟩) (c5 : PySem.W.codeIn K cd5 "is_of" = true) (k5 : PySem.W.keepIn K (.ref f5) = true)
    {f6 : Addr} {od6 an6 : Option Addr} {sl6 : Array (Option Value)} {oc6 kV6 dc6 pm6 cd6 ct6 : Value}
    (a6 : PySem.W.nsIn K mainGlobals "number_let" = some (some (.ref f6))) (l6 : K.lookup f6 = some ⟨oc6, od6, .func (PySem.W.fnOf "number_let" "number_let" (defArgs s_number_let) (defBody s_number_let) (defScope s_number_let) .none kV6 dc6 pm6 an6 cd6 ct6), sl6⟩) (c6 : PySem.W.codeIn K cd6 "number_let" = true) (k6 : PySem.W.keepIn K (.ref f6) = true)
    {f7 : Addr} {od7 an7 : Option Addr} {sl7 : Array (Option Value)} {oc7 kV7 dc7 pm7 cd7 ct7 : Value}
    (a7 : PySem.W.nsIn K mainGlobals "power_made" = some (some (.ref f7))) (l7 : K.lookup f7 = some ⟨oc7, od7, .func (PySem.W.fnOf "power_made" "power_made" (defArgs s_power_made) (defBody s_power_made) (defScope s_power_made) .none kV7 dc7 pm7 an7 cd7 ct7), sl7⟩) (c7 : PySem.W.codeIn K cd7 "power_made" = true) (k7 : PySem.W.keepIn K (.ref f7) = true)
    {f8 : Addr} {od8 an8 : Option Addr} {sl8 : Array (Option Value)} {oc8 kV8 dc8 pm8 cd8 ct8 : Value}
    (a8 : PySem.W.nsIn K mainGlobals "undone_told" = some (some (.ref f8))) (l8 : K.lookup f8 = some ⟨oc8, od8, .func (PySem.W.fnOf "undone_told" "undone_told" (defArgs s_undone_told) (defBody s_undone_told) (defScope s_undone_told) .none kV8 dc8 pm8 an8 cd8 ct8), sl8⟩) (c8 : PySem.W.codeIn K cd8 "undone_told" = true) (k8 : PySem.W.keepIn K (.ref f8) = true)
    {f9 : Addr} {od9 an9 : Option Addr} {sl9 : Array (Option Value)} {oc9 kV9 dc9 pm9 cd9 ct9 : Value}
    (a9 : PySem.W.nsIn K mainGlobals "rest_by" = some (some (.ref f9))) (l9 : K.lookup f9 = some ⟨oc9, od9, .func (PySem.W.fnOf "rest_by" "rest_by" (defArgs s_rest_by) (defBody s_rest_by) (defScope s_rest_by) .none kV9 dc9 pm9 an9 cd9 ct9), sl9⟩) (c9 : PySem.W.codeIn K cd9 "rest_by" = true) (k9 : PySem.W.keepIn K (.ref f9) = true)
    {f10 : Addr} {od10 an10 : Option Addr} {sl10 : Array (Option Value)} {oc10 kV10 dc10 pm10 cd10 ct10 : Value}
    (a10 : PySem.W.nsIn K mainGlobals "rest_told" = some (some (.ref f10))) (l10 : K.lookup f10 = some ⟨oc10, od10, .func (PySem.W.fnOf "rest_told" "rest_told" (defArgs s_rest_told) (defBody s_rest_told) (defScope s_rest_told) .none kV10 dc10 pm10 an10 cd10 ct10), sl10⟩) (c10 : PySem.W.codeIn K cd10 "rest_told" = true) (k10 : PySem.W.keepIn K (.ref f10) = true)
    {f11 : Addr} {od11 an11 : Option Addr} {sl11 : Array (Option Value)} {oc11 kV11 dc11 pm11 cd11 ct11 : Value}
    (a11 : PySem.W.nsIn K mainGlobals "last_digit" = some (some (.ref f11))) (l11 : K.lookup f11 = some ⟨oc11, od11, .func (PySem.W.fnOf "last_digit" "last_digit" (defArgs s_last_digit) (defBody s_last_digit) (defScope s_last_digit) .none kV11 dc11 pm11 an11 cd11 ct11), sl11⟩) (c11 : PySem.W.codeIn K cd11 "last_digit" = true) (k11 : PySem.W.keepIn K (.ref f11) = true)
    {f12 : Addr} {od12 an12 : Option Addr} {sl12 : Array (Option Value)} {oc12 kV12 dc12 pm12 cd12 ct12 : Value}
    (a12 : PySem.W.nsIn K mainGlobals "number_next" = some (some (.ref f12))) (l12 : K.lookup f12 = some ⟨oc12, od12, .func (PySem.W.fnOf "number_next" "number_next" (defArgs s_number_next) (defBody s_number_next) (defScope s_number_next) .none kV12 dc12 pm12 an12 cd12 ct12), sl12⟩) (c12 : PySem.W.codeIn K cd12 "number_next" = true) (k12 : PySem.W.keepIn K (.ref f12) = true)
    {f13 : Addr} {od13 an13 : Option Addr} {sl13 : Array (Option Value)} {oc13 kV13 dc13 pm13 cd13 ct13 : Value}
    (a13 : PySem.W.nsIn K mainGlobals "rule_told" = some (some (.ref f13))) (l13 : K.lookup f13 = some ⟨oc13, od13, .func (PySem.W.fnOf "rule_told" "rule_told" (defArgs s_rule_told) (defBody s_rule_told) (defScope s_rule_told) .none kV13 dc13 pm13 an13 cd13 ct13), sl13⟩) (c13 : PySem.W.codeIn K cd13 "rule_told" = true) (k13 : PySem.W.keepIn K (.ref f13) = true)
    {f14 : Addr} {od14 an14 : Option Addr} {sl14 : Array (Option Value)} {oc14 kV14 dc14 pm14 cd14 ct14 : Value}
    (a14 : PySem.W.nsIn K mainGlobals "plain_told" = some (some (.ref f14))) (l14 : K.lookup f14 = some ⟨oc14, od14, .func (PySem.W.fnOf "plain_told" "plain_told" (defArgs s_plain_told) (defBody s_plain_told) (defScope s_plain_told) .none kV14 dc14 pm14 an14 cd14 ct14), sl14⟩) (c14 : PySem.W.codeIn K cd14 "plain_told" = true) (k14 : PySem.W.keepIn K (.ref f14) = true)
    {f15 : Addr} {od15 an15 : Option Addr} {sl15 : Array (Option Value)} {oc15 kV15 dc15 pm15 cd15 ct15 : Value}
    (a15 : PySem.W.nsIn K mainGlobals "next_of" = some (some (.ref f15))) (l15 : K.lookup f15 = some ⟨oc15, od15, .func (PySem.W.fnOf "next_of" "next_of" (defArgs s_next_of) (defBody s_next_of) (defScope s_next_of) .none kV15 dc15 pm15 an15 cd15 ct15), sl15⟩) (c15 : PySem.W.codeIn K cd15 "next_of" = true) (k15 : PySem.W.keepIn K (.ref f15) = true)
    {f16 : Addr} {od16 an16 : Option Addr} {sl16 : Array (Option Value)} {oc16 kV16 dc16 pm16 cd16 ct16 : Value}
    (a16 : PySem.W.nsIn K mainGlobals "digits_of" = some (some (.ref f16))) (l16 : K.lookup f16 = some ⟨oc16, od16, .func (PySem.W.fnOf "digits_of" "digits_of" (defArgs s_digits_of) (defBody s_digits_of) (defScope s_digits_of) .none kV16 dc16 pm16 an16 cd16 ct16), sl16⟩) (c16 : PySem.W.codeIn K cd16 "digits_of" = true) (k16 : PySem.W.keepIn K (.ref f16) = true)
    {f17 : Addr} {od17 an17 : Option Addr} {sl17 : Array (Option Value)} {oc17 kV17 dc17 pm17 cd17 ct17 : Value}
    (a17 : PySem.W.nsIn K mainGlobals "before_of" = some (some (.ref f17))) (l17 : K.lookup f17 = some ⟨oc17, od17, .func (PySem.W.fnOf "before_of" "before_of" (defArgs s_before_of) (defBody s_before_of) (defScope s_before_of) .none kV17 dc17 pm17 an17 cd17 ct17), sl17⟩) (c17 : PySem.W.codeIn K cd17 "before_of" = true) (k17 : PySem.W.keepIn K (.ref f17) = true)
    {f18 : Addr} {od18 an18 : Option Addr} {sl18 : Array (Option Value)} {oc18 kV18 dc18 pm18 cd18 ct18 : Value}
    (a18 : PySem.W.nsIn K mainGlobals "behind_of" = some (some (.ref f18))) (l18 : K.lookup f18 = some ⟨oc18, od18, .func (PySem.W.fnOf "behind_of" "behind_of" (defArgs s_behind_of) (defBody s_behind_of) (defScope s_behind_of) .none kV18 dc18 pm18 an18 cd18 ct18), sl18⟩) (c18 : PySem.W.codeIn K cd18 "behind_of" = true) (k18 : PySem.W.keepIn K (.ref f18) = true)
    {f19 : Addr} {od19 an19 : Option Addr} {sl19 : Array (Option Value)} {oc19 kV19 dc19 pm19 cd19 ct19 : Value}
    (a19 : PySem.W.nsIn K mainGlobals "line_of" = some (some (.ref f19))) (l19 : K.lookup f19 = some ⟨oc19, od19, .func (PySem.W.fnOf "line_of" "line_of" (defArgs s_line_of) (defBody s_line_of) (defScope s_line_of) .none kV19 dc19 pm19 an19 cd19 ct19), sl19⟩) (c19 : PySem.W.codeIn K cd19 "line_of" = true) (k19 : PySem.W.keepIn K (.ref f19) = true)
    {f20 : Addr} {od20 an20 : Option Addr} {sl20 : Array (Option Value)} {oc20 kV20 dc20 pm20 cd20 ct20 : Value}
    (a20 : PySem.W.nsIn K mainGlobals "moved_told" = some (some (.ref f20))) (l20 : K.lookup f20 = some ⟨oc20, od20, .func (PySem.W.fnOf "moved_told" "moved_told" (defArgs s_moved_told) (defBody s_moved_told) (defScope s_moved_told) .none kV20 dc20 pm20 an20 cd20 ct20), sl20⟩) (c20 : PySem.W.codeIn K cd20 "moved_told" = true) (k20 : PySem.W.keepIn K (.ref f20) = true)
    {f21 : Addr} {od21 an21 : Option Addr} {sl21 : Array (Option Value)} {oc21 kV21 dc21 pm21 cd21 ct21 : Value}
    (a21 : PySem.W.nsIn K mainGlobals "times_told" = some (some (.ref f21))) (l21 : K.lookup f21 = some ⟨oc21, od21, .func (PySem.W.fnOf "times_told" "times_told" (defArgs s_times_told) (defBody s_times_told) (defScope s_times_told) .none kV21 dc21 pm21 an21 cd21 ct21), sl21⟩) (c21 : PySem.W.codeIn K cd21 "times_told" = true) (k21 : PySem.W.keepIn K (.ref f21) = true)
    {f22 : Addr} {od22 an22 : Option Addr} {sl22 : Array (Option Value)} {oc22 kV22 dc22 pm22 cd22 ct22 : Value}
    (a22 : PySem.W.nsIn K mainGlobals "taken_told" = some (some (.ref f22))) (l22 : K.lookup f22 = some ⟨oc22, od22, .func (PySem.W.fnOf "taken_told" "taken_told" (defArgs s_taken_told) (defBody s_taken_told) (defScope s_taken_told) .none kV22 dc22 pm22 an22 cd22 ct22), sl22⟩) (c22 : PySem.W.codeIn K cd22 "taken_told" = true) (k22 : PySem.W.keepIn K (.ref f22) = true)
    {f23 : Addr} {od23 an23 : Option Addr} {sl23 : Array (Option Value)} {oc23 kV23 dc23 pm23 cd23 ct23 : Value}
    (a23 : PySem.W.nsIn K mainGlobals "class_line" = some (some (.ref f23))) (l23 : K.lookup f23 = some ⟨oc23, od23, .func (PySem.W.fnOf "class_line" "class_line" (defArgs s_class_line) (defBody s_class_line) (defScope s_class_line) .none kV23 dc23 pm23 an23 cd23 ct23), sl23⟩) (c23 : PySem.W.codeIn K cd23 "class_line" = true) (k23 : PySem.W.keepIn K (.ref f23) = true)
    {f24 : Addr} {od24 an24 : Option Addr} {sl24 : Array (Option Value)} {oc24 kV24 dc24 pm24 cd24 ct24 : Value}
    (a24 : PySem.W.nsIn K mainGlobals "below_from" = some (some (.ref f24))) (l24 : K.lookup f24 = some ⟨oc24, od24, .func (PySem.W.fnOf "below_from" "below_from" (defArgs s_below_from) (defBody s_below_from) (defScope s_below_from) .none kV24 dc24 pm24 an24 cd24 ct24), sl24⟩) (c24 : PySem.W.codeIn K cd24 "below_from" = true) (k24 : PySem.W.keepIn K (.ref f24) = true)
    {f25 : Addr} {od25 an25 : Option Addr} {sl25 : Array (Option Value)} {oc25 kV25 dc25 pm25 cd25 ct25 : Value}
    (a25 : PySem.W.nsIn K mainGlobals "class_told" = some (some (.ref f25))) (l25 : K.lookup f25 = some ⟨oc25, od25, .func (PySem.W.fnOf "class_told" "class_told" (defArgs s_class_told) (defBody s_class_told) (defScope s_class_told) .none kV25 dc25 pm25 an25 cd25 ct25), sl25⟩) (c25 : PySem.W.codeIn K cd25 "class_told" = true) (k25 : PySem.W.keepIn K (.ref f25) = true)
    {f26 : Addr} {od26 an26 : Option Addr} {sl26 : Array (Option Value)} {oc26 kV26 dc26 pm26 cd26 ct26 : Value}
    (a26 : PySem.W.nsIn K mainGlobals "_law_source" = some (some (.ref f26))) (l26 : K.lookup f26 = some ⟨oc26, od26, .func (PySem.W.fnOf "_law_source" "_law_source" (defArgs s_law_source) (defBody s_law_source) (defScope s_law_source) .none kV26 dc26 pm26 an26 cd26 ct26), sl26⟩) (c26 : PySem.W.codeIn K cd26 "_law_source" = true) (k26 : PySem.W.keepIn K (.ref f26) = true)
    {f27 : Addr} {od27 an27 : Option Addr} {sl27 : Array (Option Value)} {oc27 kV27 dc27 pm27 cd27 ct27 : Value}
    (a27 : PySem.W.nsIn K mainGlobals "_law_pick" = some (some (.ref f27))) (l27 : K.lookup f27 = some ⟨oc27, od27, .func (PySem.W.fnOf "_law_pick" "_law_pick" (defArgs s_law_pick) (defBody s_law_pick) (defScope s_law_pick) .none kV27 dc27 pm27 an27 cd27 ct27), sl27⟩) (c27 : PySem.W.codeIn K cd27 "_law_pick" = true) (k27 : PySem.W.keepIn K (.ref f27) = true)
    {f28 : Addr} {od28 an28 : Option Addr} {sl28 : Array (Option Value)} {oc28 kV28 dc28 pm28 cd28 ct28 : Value}
    (a28 : PySem.W.nsIn K mainGlobals "_law_of" = some (some (.ref f28))) (l28 : K.lookup f28 = some ⟨oc28, od28, .func (PySem.W.fnOf "_law_of" "_law_of" (defArgs s_law_of) (defBody s_law_of) (defScope s_law_of) .none kV28 dc28 pm28 an28 cd28 ct28), sl28⟩) (c28 : PySem.W.codeIn K cd28 "_law_of" = true) (k28 : PySem.W.keepIn K (.ref f28) = true)
    {f29 : Addr} {od29 an29 : Option Addr} {sl29 : Array (Option Value)} {oc29 kV29 dc29 pm29 cd29 ct29 : Value}
    (a29 : PySem.W.nsIn K mainGlobals "_law_shared" = some (some (.ref f29))) (l29 : K.lookup f29 = some ⟨oc29, od29, .func (PySem.W.fnOf "_law_shared" "_law_shared" (defArgs s_law_shared) (defBody s_law_shared) (defScope s_law_shared) .none kV29 dc29 pm29 an29 cd29 ct29), sl29⟩) (c29 : PySem.W.codeIn K cd29 "_law_shared" = true) (k29 : PySem.W.keepIn K (.ref f29) = true)
    {f30 : Addr} {od30 an30 : Option Addr} {sl30 : Array (Option Value)} {oc30 kV30 dc30 pm30 cd30 ct30 : Value}
    (a30 : PySem.W.nsIn K mainGlobals "_law_form" = some (some (.ref f30))) (l30 : K.lookup f30 = some ⟨oc30, od30, .func (PySem.W.fnOf "_law_form" "_law_form" (defArgs s_law_form) (defBody s_law_form) (defScope s_law_form) .none kV30 dc30 pm30 an30 cd30 ct30), sl30⟩) (c30 : PySem.W.codeIn K cd30 "_law_form" = true) (k30 : PySem.W.keepIn K (.ref f30) = true)
    {f31 : Addr} {od31 an31 : Option Addr} {sl31 : Array (Option Value)} {oc31 kV31 dc31 pm31 cd31 ct31 : Value}
    (a31 : PySem.W.nsIn K mainGlobals "_law_power" = some (some (.ref f31))) (l31 : K.lookup f31 = some ⟨oc31, od31, .func (PySem.W.fnOf "_law_power" "_law_power" (defArgs s_law_power) (defBody s_law_power) (defScope s_law_power) .none kV31 dc31 pm31 an31 cd31 ct31), sl31⟩) (c31 : PySem.W.codeIn K cd31 "_law_power" = true) (k31 : PySem.W.keepIn K (.ref f31) = true)
    {f32 : Addr} {od32 an32 : Option Addr} {sl32 : Array (Option Value)} {oc32 kV32 dc32 pm32 cd32 ct32 : Value}
    (a32 : PySem.W.nsIn K mainGlobals "_law_last" = some (some (.ref f32))) (l32 : K.lookup f32 = some ⟨oc32, od32, .func (PySem.W.fnOf "_law_last" "_law_last" (defArgs s_law_last) (defBody s_law_last) (defScope s_law_last) .none kV32 dc32 pm32 an32 cd32 ct32), sl32⟩) (c32 : PySem.W.codeIn K cd32 "_law_last" = true) (k32 : PySem.W.keepIn K (.ref f32) = true)
    {f33 : Addr} {od33 an33 : Option Addr} {sl33 : Array (Option Value)} {oc33 kV33 dc33 pm33 cd33 ct33 : Value}
    (a33 : PySem.W.nsIn K mainGlobals "_law_next" = some (some (.ref f33))) (l33 : K.lookup f33 = some ⟨oc33, od33, .func (PySem.W.fnOf "_law_next" "_law_next" (defArgs s_law_next) (defBody s_law_next) (defScope s_law_next) .none kV33 dc33 pm33 an33 cd33 ct33), sl33⟩) (c33 : PySem.W.codeIn K cd33 "_law_next" = true) (k33 : PySem.W.keepIn K (.ref f33) = true)
    {f34 : Addr} {od34 an34 : Option Addr} {sl34 : Array (Option Value)} {oc34 kV34 dc34 pm34 cd34 ct34 : Value}
    (a34 : PySem.W.nsIn K mainGlobals "_law_digits" = some (some (.ref f34))) (l34 : K.lookup f34 = some ⟨oc34, od34, .func (PySem.W.fnOf "_law_digits" "_law_digits" (defArgs s_law_digits) (defBody s_law_digits) (defScope s_law_digits) .none kV34 dc34 pm34 an34 cd34 ct34), sl34⟩) (c34 : PySem.W.codeIn K cd34 "_law_digits" = true) (k34 : PySem.W.keepIn K (.ref f34) = true)
    {f35 : Addr} {od35 an35 : Option Addr} {sl35 : Array (Option Value)} {oc35 kV35 dc35 pm35 cd35 ct35 : Value}
    (a35 : PySem.W.nsIn K mainGlobals "_law_rule" = some (some (.ref f35))) (l35 : K.lookup f35 = some ⟨oc35, od35, .func (PySem.W.fnOf "_law_rule" "_law_rule" (defArgs s_law_rule) (defBody s_law_rule) (defScope s_law_rule) .none kV35 dc35 pm35 an35 cd35 ct35), sl35⟩) (c35 : PySem.W.codeIn K cd35 "_law_rule" = true) (k35 : PySem.W.keepIn K (.ref f35) = true)
    {f36 : Addr} {od36 an36 : Option Addr} {sl36 : Array (Option Value)} {oc36 kV36 dc36 pm36 cd36 ct36 : Value}
    (a36 : PySem.W.nsIn K mainGlobals "_law_far" = some (some (.ref f36))) (l36 : K.lookup f36 = some ⟨oc36, od36, .func (PySem.W.fnOf "_law_far" "_law_far" (defArgs s_law_far) (defBody s_law_far) (defScope s_law_far) .none kV36 dc36 pm36 an36 cd36 ct36), sl36⟩) (c36 : PySem.W.codeIn K cd36 "_law_far" = true) (k36 : PySem.W.keepIn K (.ref f36) = true)
    {f37 : Addr} {od37 an37 : Option Addr} {sl37 : Array (Option Value)} {oc37 kV37 dc37 pm37 cd37 ct37 : Value}
    (a37 : PySem.W.nsIn K mainGlobals "_law_free" = some (some (.ref f37))) (l37 : K.lookup f37 = some ⟨oc37, od37, .func (PySem.W.fnOf "_law_free" "_law_free" (defArgs s_law_free) (defBody s_law_free) (defScope s_law_free) .none kV37 dc37 pm37 an37 cd37 ct37), sl37⟩) (c37 : PySem.W.codeIn K cd37 "_law_free" = true) (k37 : PySem.W.keepIn K (.ref f37) = true)
    {f38 : Addr} {od38 an38 : Option Addr} {sl38 : Array (Option Value)} {oc38 kV38 dc38 pm38 cd38 ct38 : Value}
    (a38 : PySem.W.nsIn K mainGlobals "law" = some (some (.ref f38))) (l38 : K.lookup f38 = some ⟨oc38, od38, .func (PySem.W.fnOf "law" "law" (defArgs s_law) (defBody s_law) (defScope s_law) .none kV38 dc38 pm38 an38 cd38 ct38), sl38⟩) (c38 : PySem.W.codeIn K cd38 "law" = true) (k38 : PySem.W.keepIn K (.ref f38) = true)
    (z0 : PySem.W.nsIn K mainGlobals "abs" = some none)
    (z1 : PySem.W.nsIn K mainGlobals "enumerate" = some none)
    (z2 : PySem.W.nsIn K mainGlobals "int" = some none)
    (z3 : PySem.W.nsIn K mainGlobals "len" = some none)
    (z4 : PySem.W.nsIn K mainGlobals "max" = some none)
    (z5 : PySem.W.nsIn K mainGlobals "range" = some none)
    (z6 : PySem.W.nsIn K mainGlobals "str" = some none)
    (z7 : PySem.W.nsIn K mainGlobals "tuple" = some none)
    (z8 : PySem.W.nsIn K mainGlobals "gcd" = some (some (.builtin "math.gcd")))
    {t9 : Tok} (z9 : PySem.W.nsIn K mainGlobals "MOST_BASE" = some (some (.int 64 t9)))
    {t10 : Tok} (z10 : PySem.W.nsIn K mainGlobals "MOST_FIGURES" = some (some (.int 300 t10))) :
    ∃ fd : FuncData, (∀ (s : Shared) (v : Value), BindsTo s fd ⟨[v], []⟩ [("script", v)]) ∧ ∀ base : Heap, K.In base → base.Ns mainGlobals mg → FnOk l.prog w K mg base CX0 10 fa fd ["script"] (spLaw K) := by
  have e := hfa.symm.trans (PySem.W.mg_of X G a38)
  cases e
  have T : Tx K mg := ⟨PySem.W.mg_none_of X G z0,
    PySem.W.mg_none_of X G z1,
    PySem.W.mg_none_of X G z2,
    PySem.W.mg_none_of X G z3,
    PySem.W.mg_none_of X G z4,
    PySem.W.mg_none_of X G z5,
    PySem.W.mg_none_of X G z6,
    PySem.W.mg_none_of X G z7,
    PySem.W.mg_of X G z8,
    ⟨_, PySem.W.mg_of X G z9, ⟨_, rfl⟩, fun _ => .int _⟩,
    ⟨_, PySem.W.mg_of X G z10, ⟨_, rfl⟩, fun _ => .int _⟩,
    ⟨_, _, fun_mk (st := s_not_long) l0 c0 k0, PySem.W.mg_of X G a0⟩,
    ⟨_, _, fun_mk (st := s_number_told) l1 c1 k1, PySem.W.mg_of X G a1⟩,
    ⟨_, _, fun_mk (st := s_number_plus) l2 c2 k2, PySem.W.mg_of X G a2⟩,
    ⟨_, _, fun_mk (st := s_number_times) l3 c3 k3, PySem.W.mg_of X G a3⟩,
    ⟨_, _, fun_mk (st := s_shares) l4 c4 k4, PySem.W.mg_of X G a4⟩,
    ⟨_, _, fun_mk (st := s_is_of) l5 c5 k5, PySem.W.mg_of X G a5⟩,
    ⟨_, _, fun_mk (st := s_number_let) l6 c6 k6, PySem.W.mg_of X G a6⟩,
    ⟨_, _, fun_mk (st := s_power_made) l7 c7 k7, PySem.W.mg_of X G a7⟩,
    ⟨_, _, fun_mk (st := s_undone_told) l8 c8 k8, PySem.W.mg_of X G a8⟩,
    ⟨_, _, fun_mk (st := s_rest_by) l9 c9 k9, PySem.W.mg_of X G a9⟩,
    ⟨_, _, fun_mk (st := s_rest_told) l10 c10 k10, PySem.W.mg_of X G a10⟩,
    ⟨_, _, fun_mk (st := s_last_digit) l11 c11 k11, PySem.W.mg_of X G a11⟩,
    ⟨_, _, fun_mk (st := s_number_next) l12 c12 k12, PySem.W.mg_of X G a12⟩,
    ⟨_, _, fun_mk (st := s_rule_told) l13 c13 k13, PySem.W.mg_of X G a13⟩,
    ⟨_, _, fun_mk (st := s_plain_told) l14 c14 k14, PySem.W.mg_of X G a14⟩,
    ⟨_, _, fun_mk (st := s_next_of) l15 c15 k15, PySem.W.mg_of X G a15⟩,
    ⟨_, _, fun_mk (st := s_digits_of) l16 c16 k16, PySem.W.mg_of X G a16⟩,
    ⟨_, _, fun_mk (st := s_before_of) l17 c17 k17, PySem.W.mg_of X G a17⟩,
    ⟨_, _, fun_mk (st := s_behind_of) l18 c18 k18, PySem.W.mg_of X G a18⟩,
    ⟨_, _, fun_mk (st := s_line_of) l19 c19 k19, PySem.W.mg_of X G a19⟩,
    ⟨_, _, fun_mk (st := s_moved_told) l20 c20 k20, PySem.W.mg_of X G a20⟩,
    ⟨_, _, fun_mk (st := s_times_told) l21 c21 k21, PySem.W.mg_of X G a21⟩,
    ⟨_, _, fun_mk (st := s_taken_told) l22 c22 k22, PySem.W.mg_of X G a22⟩,
    ⟨_, _, fun_mk (st := s_class_line) l23 c23 k23, PySem.W.mg_of X G a23⟩,
    ⟨_, _, fun_mk (st := s_below_from) l24 c24 k24, PySem.W.mg_of X G a24⟩,
    ⟨_, _, fun_mk (st := s_class_told) l25 c25 k25, PySem.W.mg_of X G a25⟩,
    ⟨_, _, fun_mk (st := s_law_source) l26 c26 k26, PySem.W.mg_of X G a26⟩,
    ⟨_, _, fun_mk (st := s_law_pick) l27 c27 k27, PySem.W.mg_of X G a27⟩,
    ⟨_, _, fun_mk (st := s_law_of) l28 c28 k28, PySem.W.mg_of X G a28⟩,
    ⟨_, _, fun_mk (st := s_law_shared) l29 c29 k29, PySem.W.mg_of X G a29⟩,
    ⟨_, _, fun_mk (st := s_law_form) l30 c30 k30, PySem.W.mg_of X G a30⟩,
    ⟨_, _, fun_mk (st := s_law_power) l31 c31 k31, PySem.W.mg_of X G a31⟩,
    ⟨_, _, fun_mk (st := s_law_last) l32 c32 k32, PySem.W.mg_of X G a32⟩,
    ⟨_, _, fun_mk (st := s_law_next) l33 c33 k33, PySem.W.mg_of X G a33⟩,
    ⟨_, _, fun_mk (st := s_law_digits) l34 c34 k34, PySem.W.mg_of X G a34⟩,
    ⟨_, _, fun_mk (st := s_law_rule) l35 c35 k35, PySem.W.mg_of X G a35⟩,
    ⟨_, _, fun_mk (st := s_law_far) l36 c36 k36, PySem.W.mg_of X G a36⟩,
    ⟨_, _, fun_mk (st := s_law_free) l37 c37 k37, PySem.W.mg_of X G a37⟩,
    ⟨_, _, fun_mk (st := s_law) l38 c38 k38, PySem.W.mg_of X G a38⟩⟩
  have F := fun_mk (st := s_law) l38 c38 k38
  exact ⟨PySem.W.fnOf "law" "law" (defArgs s_law) (defBody s_law) (defScope s_law) .none kV38 dc38 pm38 an38 cd38 ct38, fun s v => .of_eq rfl, fun base _ _ => d_law T F⟩
theorem walk {l : PySem.W.OpenLaw} {q : Program} {loose : List Str} {XP : (Str → Option Value) → Heap → Prop} {YP : World → Heap → Prop} {d : DefRec} {K : Params → PySem.W.Frag} (hn : l.most = some 63) (hdf : d.params.defaults = [])
    (hY : ∀ (w : World) (h : Heap), YP w h → (K w.params).In h)
    (F : ∀ (w : World) (mg : Str → Option Value) (fa : Addr) (h : Heap), (K w.params).In h → h.Ns mainGlobals mg → mg d.name = some (.ref fa) →
      ∃ fd : FuncData, (∀ (s : Shared) (u : Value), BindsTo s fd ⟨[u], []⟩ [("script", u)]) ∧ ∀ base : Heap, (K w.params).In base → base.Ns mainGlobals mg → FnOk l.prog w (K w.params) mg base CX0 10 fa fd ["script"] (spLaw (K w.params))) :
    PySem.W.WalkO q loose XP YP l.row.toRowW d [] (fun f vs => PySem.call f vs) :=
  L2.walk_of (n := 63) (k := 10) (x := "script") (CX := fun _ => CX0) (sp := fun w => spLaw (K w.params)) hn (by decide) hdf ⟨rfl, by decide, by decide⟩ hY F (fun _ _ a ns hl _ hS => ⟨a, ns, rfl, hS, hl, fun _ => rfl⟩) fun _ _ _ _ _ z => z
end K66
open PySem PySem.W PyProof.Rows
set_option maxRecDepth 100000 in
set_option maxHeartbeats 0 in
theorem PySem.Challenge.cw_lastdigitwalks_k66_whole_far_numbers_holds : PySem.Challenge.rw_lastdigitwalks_k66_whole_far_numbers.Holds := by
  w_on; o_law; k_head; (case hw => w_witness2)
  k_fill
  refine K66.walk (l := PySem.Challenge.rw_lastdigitwalks_k66_whole_far_numbers) rfl rfl (fun w h Y => PySem.W.kIn_of Y) ?F
  case F =>
    intro w mg fa h KX G hmg
    refine' K66.all_mk KX G hmg ?a0 ?l0 ?c0 ?k0 ?a1 ?l1 ?c1 ?k1 ?a2 ?l2 ?c2 ?k2 ?a3 ?l3 ?c3 ?k3 ?a4 ?l4 ?c4 ?k4 ?a5 ?l5 ?c5 ?k5 ?a6 ?l6 ?c6 ?k6 ?a7 ?l7 ?c7 ?k7 ?a8 ?l8 ?c8 ?k8 ?a9 ?l9 ?c9 ?k9 ?a10 ?l10 ?c10 ?k10 ?a11 ?l11 ?c11 ?k11 ?a12 ?l12 ?c12 ?k12 ?a13 ?l13 ?c13 ?k13 ?a14 ?l14 ?c14 ?k14 ?a15 ?l15 ?c15 ?k15 ?a16 ?l16 ?c16 ?k16 ?a17 ?l17 ?c17 ?k17 ?a18 ?l18 ?c18 ?k18 ?a19 ?l19 ?c19 ?k19 ?a20 ?l20 ?c20 ?k20 ?a21 ?l21 ?c21 ?k21 ?a22 ?l22 ?c22 ?k22 ?a23 ?l23 ?c23 ?k23 ?a24 ?l24 ?c24 ?k24 ?a25 ?l25 ?c25 ?k25 ?a26 ?l26 ?c26 ?k26 ?a27 ?l27 ?c27 ?k27 ?a28 ?l28 ?c28 ?k28 ?a29 ?l29 ?c29 ?k29 ?a30 ?l30 ?c30 ?k30 ?a31 ?l31 ?c31 ?k31 ?a32 ?l32 ?c32 ?k32 ?a33 ?l33 ?c33 ?k33 ?a34 ?l34 ?c34 ?k34 ?a35 ?l35 ?c35 ?k35 ?a36 ?l36 ?c36 ?k36 ?a37 ?l37 ?c37 ?k37 ?a38 ?l38 ?c38 ?k38 ?z0 ?z1 ?z2 ?z3 ?z4 ?z5 ?z6 ?z7 ?z8 ?z9 ?z10
    (case a0 => k_is); (case l0 => k_is); (case c0 => k_is); (case k0 => k_is); (case a1 => k_is); (case l1 => k_is)
    (case c1 => k_is); (case k1 => k_is); (case a2 => k_is); (case l2 => k_is); (case c2 => k_is); (case k2 => k_is)
    (case a3 => k_is); (case l3 => k_is); (case c3 => k_is); (case k3 => k_is); (case a4 => k_is); (case l4 => k_is)
    (case c4 => k_is); (case k4 => k_is); (case a5 => k_is); (case l5 => k_is); (case c5 => k_is); (case k5 => k_is)
    (case a6 => k_is); (case l6 => k_is); (case c6 => k_is); (case k6 => k_is); (case a7 => k_is); (case l7 => k_is)
    (case c7 => k_is); (case k7 => k_is); (case a8 => k_is); (case l8 => k_is); (case c8 => k_is); (case k8 => k_is)
    (case a9 => k_is); (case l9 => k_is); (case c9 => k_is); (case k9 => k_is); (case a10 => k_is); (case l10 => k_is)
    (case c10 => k_is); (case k10 => k_is); (case a11 => k_is); (case l11 => k_is); (case c11 => k_is); (case k11 => k_is)
    (case a12 => k_is); (case l12 => k_is); (case c12 => k_is); (case k12 => k_is); (case a13 => k_is); (case l13 => k_is)
    (case c13 => k_is); (case k13 => k_is); (case a14 => k_is); (case l14 => k_is); (case c14 => k_is); (case k14 => k_is)
    (case a15 => k_is); (case l15 => k_is); (case c15 => k_is); (case k15 => k_is); (case a16 => k_is); (case l16 => k_is)
    (case c16 => k_is); (case k16 => k_is); (case a17 => k_is); (case l17 => k_is); (case c17 => k_is); (case k17 => k_is)
    (case a18 => k_is); (case l18 => k_is); (case c18 => k_is); (case k18 => k_is); (case a19 => k_is); (case l19 => k_is)
    (case c19 => k_is); (case k19 => k_is); (case a20 => k_is); (case l20 => k_is); (case c20 => k_is); (case k20 => k_is)
    (case a21 => k_is); (case l21 => k_is); (case c21 => k_is); (case k21 => k_is); (case a22 => k_is); (case l22 => k_is)
    (case c22 => k_is); (case k22 => k_is); (case a23 => k_is); (case l23 => k_is); (case c23 => k_is); (case k23 => k_is)
    (case a24 => k_is); (case l24 => k_is); (case c24 => k_is); (case k24 => k_is); (case a25 => k_is); (case l25 => k_is)
    (case c25 => k_is); (case k25 => k_is); (case a26 => k_is); (case l26 => k_is); (case c26 => k_is); (case k26 => k_is)
    (case a27 => k_is); (case l27 => k_is); (case c27 => k_is); (case k27 => k_is); (case a28 => k_is); (case l28 => k_is)
    (case c28 => k_is); (case k28 => k_is); (case a29 => k_is); (case l29 => k_is); (case c29 => k_is); (case k29 => k_is)
    (case a30 => k_is); (case l30 => k_is); (case c30 => k_is); (case k30 => k_is); (case a31 => k_is); (case l31 => k_is)
    (case c31 => k_is); (case k31 => k_is); (case a32 => k_is); (case l32 => k_is); (case c32 => k_is); (case k32 => k_is)
    (case a33 => k_is); (case l33 => k_is); (case c33 => k_is); (case k33 => k_is); (case a34 => k_is); (case l34 => k_is)
    (case c34 => k_is); (case k34 => k_is); (case a35 => k_is); (case l35 => k_is); (case c35 => k_is); (case k35 => k_is)
    (case a36 => k_is); (case l36 => k_is); (case c36 => k_is); (case k36 => k_is); (case a37 => k_is); (case l37 => k_is)
    (case c37 => k_is); (case k37 => k_is); (case a38 => k_is); (case l38 => k_is); (case c38 => k_is); (case k38 => k_is)
    (case z0 => k_is); (case z1 => k_is); (case z2 => k_is); (case z3 => k_is); (case z4 => k_is); (case z5 => k_is)
    (case z6 => k_is); (case z7 => k_is); (case z8 => k_is); (case z9 => k_is); (case z10 => k_is)
