import PyProof.Rows.All
import Wide.All
import OpenK.AllK
import Wide.FinOn
import HandS.ForMost
import HandS.Wide
import HandS.Deep
import HandS.DeepEq
import HandS.Conv
import HandS.TupAny
import HandS.Style
import HandS.Gcd
import HandS.Sort
import HandS.TupMul
import KE.DataCmp
import KE.DataMinMax
import KE.SortData
import KE.DataIsa
import KE.DataFind
import PyProof.ReprRoads
import PyProof.P3In
import KE.GoesEnum
import KE.GoesMore
import KE.GoesZip
import HandS.Zip
import HandS.Iter
import HandS.Ends
import HandS.EndBits
import HandS.Words
import HandS.Star
import HandS.Dict
import PyProof.FitsInt
import KE.KRevSl
import HandS.WordsDict
import KE.SortKeyHeap
import KE.KSortKey
import HandS.SortKw
import PyProof.ListRange
import PySem.Challenge.RW_beforeitcomes_k58_whole_spans_in_one_roo
set_option Elab.async false
set_option linter.all false
set_option maxRecDepth 100000
set_option maxHeartbeats 4000000
set_option autoImplicit false
namespace VL
open PySem PySem.Spec PyProof.Rows L2

/-! ### data in the abstract heap -/
abbrev D := PyData
abbrev ZS := Addr → Prop
def keyD : Key → D
  | .inl i => .int i
  | .inr x => .str x
/-- a dict object: its keys as data, its values -/
def DicO (o : HO) (ks : List D) (vs : List V) : Prop :=
  (∃ kvs : List (Key × V), o = .dK kvs ∧ ks = kvs.map (fun p => keyD p.1) ∧ vs = kvs.map (·.2)) ∨
  (∃ kvs : List (List Key × V), o = .dT kvs ∧ ks = kvs.map (fun p => .tuple (p.1.map keyD)) ∧ vs = kvs.map (·.2))
mutual
inductive Rp (Z : ZS) (H : Hp) : V → D → Prop
  | non : Rp Z H .non .none
  | bl (b : Bool) : Rp Z H (.bl b) (.bool b)
  | int (i : Int) : Rp Z H (.int i) (.int i)
  | str (x : Str) : Rp Z H (.str x) (.str x)
  | lst {a : Addr} {vs : List V} {ds : List D} : Z a → H a = some (.lst vs) → RpL Z H vs ds → Rp Z H (.ref a) (.list ds)
  | tup {a : Addr} {vs : List V} {ds : List D} : Z a → H a = some (.tup vs) → RpL Z H vs ds → Rp Z H (.ref a) (.tuple ds)
  | dic {a : Addr} {o : HO} {ks : List D} {vs : List V} {ds : List D} : Z a → H a = some o → DicO o ks vs → RpL Z H vs ds → Rp Z H (.ref a) (.dict (ks.zip ds))
inductive RpL (Z : ZS) (H : Hp) : List V → List D → Prop
  | nil : RpL Z H [] []
  | cons {v : V} {vs : List V} {d : D} {ds : List D} : Rp Z H v d → RpL Z H vs ds → RpL Z H (v :: vs) (d :: ds)
end
/-- the heap went on: what is fixed stays -/
structure Ext (Z : ZS) (H : Hp) (Z' : ZS) (H' : Hp) : Prop where
  z : ∀ a, Z a → Z' a
  h : ∀ a, Z a → H' a = H a
theorem Ext.refl (Z : ZS) (H : Hp) : Ext Z H Z H := ⟨fun _ h => h, fun _ _ => rfl⟩
theorem Ext.trans {Z Z1 Z2 : ZS} {H H1 H2 : Hp} (a : Ext Z H Z1 H1) (b : Ext Z1 H1 Z2 H2) : Ext Z H Z2 H2 :=
  ⟨fun x h => b.z x (a.z x h), fun x h => (b.h x (a.z x h)).trans (a.h x h)⟩
mutual
theorem Rp.ext {Z Z' : ZS} {H H' : Hp} (e : Ext Z H Z' H') : ∀ {v : V} {d : D}, Rp Z H v d → Rp Z' H' v d
  | _, _, .non => .non
  | _, _, .bl b => .bl b
  | _, _, .int i => .int i
  | _, _, .str x => .str x
  | _, _, .lst z h l => .lst (e.z _ z) ((e.h _ z).trans h) (RpL.ext e l)
  | _, _, .tup z h l => .tup (e.z _ z) ((e.h _ z).trans h) (RpL.ext e l)
  | _, _, .dic z h o l => .dic (e.z _ z) ((e.h _ z).trans h) o (RpL.ext e l)
theorem RpL.ext {Z Z' : ZS} {H H' : Hp} (e : Ext Z H Z' H') : ∀ {vs : List V} {ds : List D}, RpL Z H vs ds → RpL Z' H' vs ds
  | _, _, .nil => .nil
  | _, _, .cons r l => .cons (Rp.ext e r) (RpL.ext e l)
end
section
variable {Z : ZS} {H : Hp} {v : V} {vs ws : List V} {d : D} {ds es : List D}
theorem RpL.length : ∀ {vs : List V} {ds : List D}, RpL Z H vs ds → vs.length = ds.length
  | _, _, .nil => rfl
  | _, _, .cons _ l => by simp [RpL.length l]
theorem RpL.append : ∀ {vs ws : List V} {ds es : List D}, RpL Z H vs ds → RpL Z H ws es → RpL Z H (vs ++ ws) (ds ++ es)
  | _, _, _, _, .nil, q => q
  | _, _, _, _, .cons r l, q => .cons r (RpL.append l q)
theorem RpL.get : ∀ {vs : List V} {ds : List D} {i : Nat} {d : D}, RpL Z H vs ds → ds[i]? = some d → ∃ v, vs[i]? = some v ∧ Rp Z H v d
  | _, _, _, _, .nil, e => by simp at e
  | _, _, 0, _, .cons r _, e => by simp at e; subst e; exact ⟨_, rfl, r⟩
  | _, _, i + 1, _, .cons _ l, e => by
    obtain ⟨v, h1, h2⟩ := RpL.get (i := i) l (by simpa using e)
    exact ⟨v, by simpa using h1, h2⟩
theorem RpL.getV : ∀ {vs : List V} {ds : List D} {i : Nat} {v : V}, RpL Z H vs ds → vs[i]? = some v → ∃ d, ds[i]? = some d ∧ Rp Z H v d
  | _, _, _, _, .nil, e => by simp at e
  | _, _, 0, _, .cons r _, e => by simp at e; subst e; exact ⟨_, rfl, r⟩
  | _, _, i + 1, _, .cons _ l, e => by
    obtain ⟨v, h1, h2⟩ := RpL.getV (i := i) l (by simpa using e)
    exact ⟨v, by simpa using h1, h2⟩
theorem RpL.take (n : Nat) : ∀ {vs : List V} {ds : List D}, RpL Z H vs ds → RpL Z H (vs.take n) (ds.take n) := by
  induction n with
  | zero => intro vs ds _; simp; exact .nil
  | succ n ih => intro vs ds h; cases h with
    | nil => exact .nil
    | cons r l => exact .cons r (ih l)
theorem RpL.drop (n : Nat) : ∀ {vs : List V} {ds : List D}, RpL Z H vs ds → RpL Z H (vs.drop n) (ds.drop n) := by
  induction n with
  | zero => intro vs ds h; exact h
  | succ n ih => intro vs ds h; cases h with
    | nil => exact .nil
    | cons r l => exact ih l
theorem RpL.dropLast : ∀ {vs : List V} {ds : List D}, RpL Z H vs ds → RpL Z H vs.dropLast ds.dropLast
  | _, _, .nil => .nil
  | _, _, .cons r .nil => .nil
  | _, _, .cons r (.cons r' l) => .cons r (RpL.dropLast (.cons r' l))
theorem RpL.eraseIdx : ∀ {vs : List V} {ds : List D} (i : Nat), RpL Z H vs ds → RpL Z H (vs.eraseIdx i) (ds.eraseIdx i)
  | _, _, _, .nil => .nil
  | _, _, 0, .cons _ l => l
  | _, _, i + 1, .cons r l => .cons r (RpL.eraseIdx i l)
theorem RpL.reverse : ∀ {vs : List V} {ds : List D}, RpL Z H vs ds → RpL Z H vs.reverse ds.reverse
  | _, _, .nil => .nil
  | _, _, .cons r l => by simpa using RpL.append (RpL.reverse l) (.cons r .nil)
theorem RpL.set {v : V} {d : D} (q : Rp Z H v d) : ∀ {vs : List V} {ds : List D} (i : Nat), RpL Z H vs ds → RpL Z H (vs.set i v) (ds.set i d)
  | _, _, _, .nil => .nil
  | _, _, 0, .cons _ l => .cons q l
  | _, _, i + 1, .cons r l => .cons r (RpL.set q i l)
theorem RpL.rep (h : RpL Z H vs ds) : ∀ k : Nat, RpL Z H (List.replicate k vs).flatten (List.replicate k ds).flatten
  | 0 => .nil
  | k + 1 => by simpa [List.replicate_succ] using RpL.append h (RpL.rep h k)
theorem RpL.ints : ∀ {vs : List V} {ns : List Int}, RpL Z H vs (ns.map PyData.int) → vs = ns.map V.int
  | _, [], .nil => rfl
  | _, n :: r, .cons q l => by cases q; simp [RpL.ints l]
theorem RpL.ofInts : ∀ ns : List Int, RpL Z H (ns.map V.int) (ns.map PyData.int)
  | [] => .nil
  | n :: r => .cons (.int n) (RpL.ofInts r)
theorem RpL.bools : ∀ {vs : List V} {ns : List Bool}, RpL Z H vs (ns.map PyData.bool) → vs = ns.map V.bl
  | _, [], .nil => rfl
  | _, n :: r, .cons q l => by cases q; simp [RpL.bools l]
end
mutual
theorem Rp.dp {K : PySem.W.Frag} {Z : ZS} {H : Hp} : ∀ {v : V} {d : D}, Rp Z H v d → d.canLay0 = true → Dp K H v d
  | _, _, .non, _ => .non
  | _, _, .bl b, _ => .bl b
  | _, _, .int i, _ => .int i
  | _, _, .str x, _ => .str x
  | _, _, .lst z h l, c => .lst (SqL.of h) (RpL.dp l (by simpa [PyData.canLay0] using c))
  | _, _, .tup z h l, c => .tup (SqT.of h) (RpL.dp l (by simpa [PyData.canLay0] using c))
  | _, _, .dic z h o l, c => absurd c (by simp [PyData.canLay0])
theorem RpL.dp {K : PySem.W.Frag} {Z : ZS} {H : Hp} : ∀ {vs : List V} {ds : List D}, RpL Z H vs ds → PyData.canLayAll0 ds = true → DpAll K H vs ds
  | _, _, .nil, _ => .nil
  | _, _, .cons r l, c => by
    simp only [PyData.canLayAll0, Bool.and_eq_true] at c
    exact .cons (Rp.dp r c.1) (RpL.dp l c.2)
end

/-! ### slots, frames -/
inductive Sl where
  | emp
  /-- a datum that nobody changes any more -/
  | val (d : D)
  /-- a list or a dict that this name alone holds -/
  | own (d : D)
  /-- the law's source -/
  | src
abbrev VE := List Sl
/-- the top object of an owned list or dict -/
def Ow (Z : ZS) (H : Hp) (a : Addr) : D → Prop
  | .list ds => ∃ vs, H a = some (.lst vs) ∧ RpL Z H vs ds
  | .dict kds => ∃ o ks vs ds, H a = some o ∧ DicO o ks vs ∧ RpL Z H vs ds ∧ kds = ks.zip ds
  | _ => False
structure Frm where
  H0 : Hp
  Z0 : ZS
  sa : Addr
  ca : Addr
def IsSrc (H : Hp) (sa ca : Addr) : Prop := sa ≠ ca ∧ ∃ (cs : List Int) (l m t : Int), cs.length ≤ 63 ∧ H ca = some (.lst (cs.map V.int)) ∧
  H sa = some (.dK [(.inr "cells", .ref ca), (.inr "left", .int l), (.inr "mixed", .int m), (.inr "turn", .int t)])
structure Cf (F : Frm) (Z : ZS) (env : VE) (σ : L2.St) (H : Hp) : Prop where
  len : σ.length = env.length
  val : ∀ (i : Nat) d, env[i]? = some (.val d) → ∃ v, σ[i]? = some (some v) ∧ Rp Z H v d
  own : ∀ (i : Nat) d, env[i]? = some (.own d) → ∃ a, σ[i]? = some (some (.ref a)) ∧ Ow Z H a d ∧ ¬ Z a ∧ F.H0 a = none ∧ a ≠ F.sa ∧ a ≠ F.ca
  uniq : ∀ (i j : Nat) d e a, env[i]? = some (.own d) → env[j]? = some (.own e) → σ[i]? = some (some (.ref a)) → σ[j]? = some (some (.ref a)) → i = j
  srcs : ∀ i : Nat, env[i]? = some .src → σ[i]? = some (some (.ref F.sa))
  srcH : IsSrc H F.sa F.ca
  zs : ¬ Z F.sa
  zc : ¬ Z F.ca
  zdom : ∀ a, Z a → H a ≠ none
  zold : ∀ a, Z a → F.Z0 a ∨ F.H0 a = none
  z0d : ∀ a, F.Z0 a → F.H0 a ≠ none
  pres : ∀ a o, F.H0 a = some o → a ≠ F.sa → a ≠ F.ca → H a = some o

/-- what an expression gives -/
inductive Rs where
  | val (d : D)
  /-- a new list or dict -/
  | new (d : D)
  /-- the owned object of a slot -/
  | bor (i : Nat)
  | src
def RpR (F : Frm) (Z : ZS) (env : VE) (σ : L2.St) (H : Hp) (v : V) : Rs → Prop
  | .val d => Rp Z H v d
  | .new d => ∃ a, v = .ref a ∧ Ow Z H a d ∧ ¬ Z a ∧ F.H0 a = none ∧ a ≠ F.sa ∧ a ≠ F.ca ∧ ∀ (i : Nat) d', env[i]? = some (.own d') → σ[i]? ≠ some (some (.ref a))
  | .bor i => (∃ d, env[i]? = some (.own d)) ∧ σ[i]? = some (some v)
  | .src => v = .ref F.sa

abbrev WE := VE → (Rs → VE → Prop) → Prop
abbrev WEs := VE → (List Rs → VE → Prop) → Prop
abbrev WT := VE → (Bool → VE → Prop) → Prop
/-- an expression's reading over data -/
def tV (w : WE) : TE := fun σ H Q => ∃ F Z env Q0, Cf F Z env σ H ∧ w env Q0 ∧ ∀ r env', Q0 r env' → ∀ Z' v H', Ext Z H Z' H' → Cf F Z' env' σ H' → RpR F Z' env' σ H' v r → Q v H'
def tVT (w : WT) : TT := fun σ H Q => ∃ F Z env Q0, Cf F Z env σ H ∧ w env Q0 ∧ ∀ b env', Q0 b env' → ∀ Z' H', Ext Z H Z' H' → Cf F Z' env' σ H' → Q b H'

/-! ### frames go on -/
section
variable {F : Frm} {Z Z' : ZS} {env : VE} {σ : L2.St} {H H' : Hp} {a p : Addr} {v : V} {d : D} {o : HO}
theorem Ow.ext (e : Ext Z H Z' H') (ha : H' a = H a) : ∀ {d : D}, Ow Z H a d → Ow Z' H' a d
  | .list ds, ⟨vs, h, l⟩ => ⟨vs, ha.trans h, l.ext e⟩
  | .dict kds, ⟨o, ks, vs, ds, h, q, l, e'⟩ => ⟨o, ks, vs, ds, ha.trans h, q, l.ext e, e'⟩
  | .none, h => h
  | .bool _, h => h
  | .int _, h => h
  | .str _, h => h
  | .tuple _, h => h
theorem Ow.some : ∀ {d : D}, Ow Z H a d → H a ≠ none
  | .list ds, ⟨vs, h, l⟩ => by rw [h]; exact fun q => by cases q
  | .dict kds, ⟨o, ks, vs, ds, h, q, l, e'⟩ => by rw [h]; exact fun q => by cases q
  | .none, h => h.elim
  | .bool _, h => h.elim
  | .int _, h => h.elim
  | .str _, h => h.elim
  | .tuple _, h => h.elim
/-- from owned to fixed -/
theorem Ow.fix (e : Ext Z H Z' H') (ha : H' a = H a) (hz : Z' a) : ∀ {d : D}, Ow Z H a d → Rp Z' H' (.ref a) d
  | .list ds, ⟨vs, h, l⟩ => .lst hz (ha.trans h) (l.ext e)
  | .dict kds, ⟨o, ks, vs, ds, h, q, l, e'⟩ => by rw [e']; exact .dic hz (ha.trans h) q (l.ext e)
  | .none, h => h.elim
  | .bool _, h => h.elim
  | .int _, h => h.elim
  | .str _, h => h.elim
  | .tuple _, h => h.elim
def zadd (Z : ZS) (a : Addr) : ZS := fun b => Z b ∨ b = a
theorem ext_zadd : Ext Z H (zadd Z a) H := ⟨fun _ h => .inl h, fun _ _ => rfl⟩
/-- an object that is fixed from here on -/
theorem Cf.fix (c : Cf F Z env σ H) (h1 : H a ≠ none) (h2 : F.H0 a = none) (h3 : a ≠ F.sa) (h4 : a ≠ F.ca) (h5 : ∀ (i : Nat) d', env[i]? = some (.own d') → σ[i]? ≠ some (some (.ref a))) : Cf F (zadd Z a) env σ H where
  len := c.len
  val := fun i d e => let ⟨v, q, r⟩ := c.val i d e; ⟨v, q, r.ext ext_zadd⟩
  own := fun i d e => by
    obtain ⟨b, q, r, n, rest⟩ := c.own i d e
    refine ⟨b, q, r.ext ext_zadd rfl, fun z => ?_, rest⟩
    rcases z with z | z
    · exact n z
    · subst z; exact h5 i d e q
  uniq := c.uniq
  srcs := c.srcs
  srcH := c.srcH
  zs := fun z => z.elim c.zs fun e => h3 e.symm
  zc := fun z => z.elim c.zc fun e => h4 e.symm
  zdom := fun b z => z.elim (c.zdom b) fun e => by subst e; exact h1
  zold := fun b z => z.elim (c.zold b) fun e => by subst e; exact .inr h2
  z0d := c.z0d
  pres := c.pres
theorem Cf.old_none (c : Cf F Z env σ H) (h : H a = none) : F.H0 a = none ∧ a ≠ F.sa ∧ a ≠ F.ca ∧ ¬ Z a ∧ ∀ (i : Nat) d', env[i]? = some (.own d') → σ[i]? ≠ some (some (.ref a)) := by
  obtain ⟨hne, cs, l, m, t, hcs, h1, h2⟩ := c.srcH
  have n1 : a ≠ F.sa := by rintro rfl; rw [h] at h2; cases h2
  have n2 : a ≠ F.ca := by rintro rfl; rw [h] at h1; cases h1
  refine ⟨?_, n1, n2, fun z => c.zdom a z h, fun i d' e q => ?_⟩
  · cases q : F.H0 a with
    | none => rfl
    | some o => have := c.pres a o q n1 n2; rw [h] at this; cases this
  · obtain ⟨b, q', r, _⟩ := c.own i d' e
    rw [q] at q'
    cases q'
    exact r.some h
/-- a new object laid, not fixed -/
theorem Cf.lay (c : Cf F Z env σ H) (hp : H p = none) : Cf F Z env σ (upd H p o) ∧ Ext Z H Z (upd H p o) := by
  obtain ⟨h0, n1, n2, nz, no⟩ := c.old_none hp
  have e : Ext Z H Z (upd H p o) := ⟨fun _ h => h, fun a z => upd_ne (by rintro rfl; exact nz z)⟩
  refine ⟨⟨c.len, fun i d q => let ⟨v, q', r⟩ := c.val i d q; ⟨v, q', r.ext e⟩, fun i d q => ?_, c.uniq, c.srcs, ?_, c.zs, c.zc, fun b z => ?_, c.zold, c.z0d, fun b u q m1 m2 => ?_⟩, e⟩
  · obtain ⟨b, q', r, n⟩ := c.own i d q
    refine ⟨b, q', r.ext e (upd_ne ?_), n⟩
    rintro rfl
    exact r.some hp
  · obtain ⟨hne, cs, l, m, t, hcs, h1, h2⟩ := c.srcH
    exact ⟨hne, cs, l, m, t, hcs, by rw [upd_ne (Ne.symm n2)]; exact h1, by rw [upd_ne (Ne.symm n1)]; exact h2⟩
  · rw [e.h b z]; exact c.zdom b z
  · rw [upd_ne (by rintro rfl; rw [h0] at q; cases q)]
    exact c.pres b u q m1 m2
end

/-! ### what an operation makes -/
inductive Made (Z : ZS) (H : Hp) : V → Rs → Hp → Prop
  | old {v : V} {d : D} : Rp Z H v d → Made Z H v (.val d) H
  | tup {p : Addr} {vs : List V} {ds : List D} : H p = none → RpL Z H vs ds → Made Z H (.ref p) (.val (.tuple ds)) (upd H p (.tup vs))
  | lst {p : Addr} {vs : List V} {ds : List D} : H p = none → RpL Z H vs ds → Made Z H (.ref p) (.new (.list ds)) (upd H p (.lst vs))
  | dic {p : Addr} {o : HO} {ks : List D} {vs : List V} {ds : List D} : H p = none → DicO o ks vs → RpL Z H vs ds → Made Z H (.ref p) (.new (.dict (ks.zip ds))) (upd H p o)
section
variable {F : Frm} {Z Z' : ZS} {env : VE} {σ : L2.St} {H H' : Hp} {a p : Addr} {v : V} {d : D} {o : HO}
theorem Made.cf {r : Rs} (c : Cf F Z env σ H) (m : Made Z H v r H') : ∃ Z', Ext Z H Z' H' ∧ Cf F Z' env σ H' ∧ RpR F Z' env σ H' v r := by
  cases m with
  | old r => exact ⟨Z, .refl Z H, c, r⟩
  | @tup p vs ds hp l =>
    obtain ⟨h0, n1, n2, nz, no⟩ := c.old_none hp
    obtain ⟨c1, e⟩ := c.lay (o := .tup vs) hp
    have c2 := c1.fix (a := p) (by rw [upd_same]; exact fun q => by cases q) h0 n1 n2 no
    refine ⟨_, e.trans ext_zadd, c2, .tup (.inr rfl) upd_same (l.ext (e.trans ext_zadd))⟩
  | @lst p vs ds hp l =>
    obtain ⟨h0, n1, n2, nz, no⟩ := c.old_none hp
    obtain ⟨c1, e⟩ := c.lay (o := .lst vs) hp
    exact ⟨_, e, c1, p, rfl, ⟨vs, upd_same, l.ext e⟩, nz, h0, n1, n2, no⟩
  | @dic p o ks vs ds hp q l =>
    obtain ⟨h0, n1, n2, nz, no⟩ := c.old_none hp
    obtain ⟨c1, e⟩ := c.lay (o := o) hp
    exact ⟨_, e, c1, p, rfl, ⟨o, ks, vs, ds, upd_same, q, l.ext e, rfl⟩, nz, h0, n1, n2, no⟩
/-- held while others are evaluated -/
def hold : Rs → Rs
  | .new d => .val d
  | r => r
/-- a held operand -/
def Hd (F : Frm) (Z : ZS) (σ : L2.St) (H : Hp) (v : V) : Rs → Prop
  | .val d => Rp Z H v d
  | .new _ => False
  | .bor i => σ[i]? = some (some v)
  | .src => v = .ref F.sa
theorem Hd.ext {r : Rs} (e : Ext Z H Z' H') (h : Hd F Z σ H v r) : Hd F Z' σ H' v r := by
  cases r with
  | val d => exact Rp.ext e h
  | new d => exact h
  | bor i => exact h
  | src => exact h
theorem RpR.hold {r : Rs} (c : Cf F Z env σ H) (h : RpR F Z env σ H v r) : ∃ Z', Ext Z H Z' H ∧ Cf F Z' env σ H ∧ Hd F Z' σ H v (hold r) := by
  cases r with
  | val d => exact ⟨Z, .refl Z H, c, h⟩
  | new d =>
    obtain ⟨a, rfl, o, nz, h0, n1, n2, no⟩ := h
    exact ⟨_, ext_zadd, c.fix (a := a) o.some h0 n1 n2 no, o.fix ext_zadd rfl (.inr rfl)⟩
  | bor i => exact ⟨Z, .refl Z H, c, h.2⟩
  | src => exact ⟨Z, .refl Z H, c, h⟩
/-- a value that may be read -/
def Rd' (Z : ZS) (H : Hp) (v : V) (d : D) : Prop := Rp Z H v d ∨ ∃ a, v = .ref a ∧ Ow Z H a d
def opd (env : VE) : Rs → Option D
  | .val d => some d
  | .new d => some d
  | .bor i => match env[i]? with
    | some (.own d) => some d
    | some (.val d) => some d
    | _ => none
  | .src => none
theorem Hd.opd {r : Rs} (c : Cf F Z env σ H) (h : Hd F Z σ H v r) (e : opd env r = some d) : Rd' Z H v d := by
  cases r with
  | val d' => simp [VL.opd] at e; subst e; exact .inl h
  | new d' => exact h.elim
  | src => simp [VL.opd] at e
  | bor i =>
    have h : σ[i]? = some (some v) := h
    have e : (match env[i]? with | some (.own d) => some d | some (.val d) => some d | _ => none) = some d := e
    cases q : env[i]? with
    | none => rw [q] at e; cases e
    | some sl =>
      rw [q] at e
      cases sl with
      | emp => cases e
      | src => cases e
      | own d' =>
        cases e
        obtain ⟨a, q', o, _⟩ := c.own i _ q
        rw [h] at q'
        cases q'
        exact .inr ⟨a, rfl, o⟩
      | val d' =>
        cases e
        obtain ⟨w, q', r⟩ := c.val i _ q
        rw [h] at q'
        cases q'
        exact .inl r
end
def onS {α : Type} (o : Option α) (Q : α → Prop) : Prop := match o with
  | some a => Q a
  | none => False
theorem onS_some {α : Type} {o : Option α} {Q : α → Prop} (h : onS o Q) : ∃ a, o = some a ∧ Q a := by
  cases o with
  | none => exact h.elim
  | some a => exact ⟨a, rfl, h⟩
@[simp] theorem onS_s {α : Type} {a : α} {Q : α → Prop} : onS (some a) Q = Q a := rfl
@[simp] theorem onS_n {α : Type} {Q : α → Prop} : onS none Q = False := rfl
end VL

namespace VL
open PySem PySem.Spec PyProof.Rows L2

theorem _root_.L2.PE.imp {X : Cx} {e : Expr} {t t' : TE} (h : PE X e t) (i : ∀ σ H Q, t' σ H Q → t σ H Q) : PE X e t' := ⟨fun pins s σ H Q I q => h.run pins s σ H Q I (i σ H Q q)⟩
theorem _root_.L2.PT.imp {X : Cx} {e : Expr} {t t' : TT} (h : PT X e t) (i : ∀ σ H Q, t' σ H Q → t σ H Q) : PT X e t' := ⟨fun pins s σ H Q I q => h.run pins s σ H Q I (i σ H Q q)⟩
theorem _root_.L2.PW.imp {X : Cx} {e : Expr} {t t' : TT} (h : PW X e t) (i : ∀ σ H Q, t' σ H Q → t σ H Q) : PW X e t' := ⟨fun wh pins s σ H Q I q => h.run wh pins s σ H Q I (i σ H Q q)⟩
theorem _root_.L2.PA.imp {X : Cx} {e : List Expr} {t t' : TA} (h : PA X e t) (i : ∀ σ H Q, t' σ H Q → t σ H Q) : PA X e t' := ⟨fun pos pins s σ H Q I q => h.run pos pins s σ H Q I (i σ H Q q)⟩
theorem OpR.or {X : Cx} {f : Value → Value → Sem Value} {r r' : R2} (h : OpR X f r) (h' : OpR X f r') : OpR X f (fun x y H Q => r x y H Q ∨ r' x y H Q) := by
  intro pins s σ H x y v u Q I rx ry q
  rcases q with q | q
  · exact h pins s σ H x y v u Q I rx ry q
  · exact h' pins s σ H x y v u Q I rx ry q

theorem opd_hold (env : VE) (r : Rs) : opd env (hold r) = opd env r := by cases r <;> rfl

/-! ### names, constants -/
def wVar (i : Nat) : WE := fun env Q => match env[i]? with
  | some (.val d) => Q (.val d) env
  | some (.own _) => Q (.bor i) env
  | some .src => Q .src env
  | _ => False
def wC (d : D) : WE := fun env Q => Q (.val d) env
theorem tV_var {i : Nat} {σ : L2.St} {H : Hp} {Q : VK} (h : tV (wVar i) σ H Q) : tVar i σ H Q := by
  obtain ⟨F, Z, env, Q0, c, h, k⟩ := h
  unfold wVar at h
  split at h
  · rename_i d e
    obtain ⟨v, q, r⟩ := c.val i d e
    exact ⟨v, q, k _ _ h Z v H (.refl Z H) c r⟩
  · rename_i d e
    obtain ⟨a, q, r⟩ := c.own i d e
    exact ⟨_, q, k _ _ h Z _ H (.refl Z H) c ⟨⟨d, e⟩, q⟩⟩
  · rename_i e
    exact ⟨_, c.srcs i e, k _ _ h Z _ H (.refl Z H) c rfl⟩
  · exact h.elim
theorem tV_c {v : V} {d : D} (hv : ∀ Z H, Rp Z H v d) {σ : L2.St} {H : Hp} {Q : VK} (h : tV (wC d) σ H Q) : tC v σ H Q := by
  obtain ⟨F, Z, env, Q0, c, h, k⟩ := h
  exact k _ _ h Z v H (.refl Z H) c (hv Z H)

/-! ### two operands -/
abbrev F2 := D → D → (Rs → Prop) → Prop
def wOp2 (f : F2) (wa wb : WE) : WE := fun env Q => wa env fun r1 e1 => wb e1 fun r2 e2 => onS (opd e2 r1) fun d1 => onS (opd e2 r2) fun d2 => f d1 d2 fun r => Q r e2
def OpSpec (r : R2) (f : F2) : Prop := ∀ (Z : ZS) (H : Hp) (x y : V) (a b : D) (Q0 : Rs → Prop) (Q : VK), Rd' Z H x a → Rd' Z H y b → f a b Q0 → (∀ rs v H', Q0 rs → Made Z H v rs H' → Q v H') → r x y H Q
theorem tV_op2 {f : F2} {r : R2} (hs : OpSpec r f) {wa wb : WE} {σ : L2.St} {H : Hp} {Q : VK} (h : tV (wOp2 f wa wb) σ H Q) : tOp r (tV wa) (tV wb) σ H Q := by
  obtain ⟨F, Z, env, Q0, c, h, k⟩ := h
  refine ⟨F, Z, env, _, c, h, fun r1 e1 q1 Z1 x H1 x1 c1 rr1 => ?_⟩
  obtain ⟨Z1', x1', c1', hd1⟩ := rr1.hold c1
  refine ⟨F, Z1', e1, _, c1', q1, fun r2 e2 q2 Z2 y H2 x2 c2 rr2 => ?_⟩
  obtain ⟨Z2', x2', c2', hd2⟩ := rr2.hold c2
  obtain ⟨d1, o1, q2⟩ := onS_some q2
  obtain ⟨d2, o2, q2⟩ := onS_some q2
  have p1 := (hd1.ext (x2.trans x2')).opd c2' (by rw [opd_hold]; exact o1)
  have p2 := hd2.opd c2' (by rw [opd_hold]; exact o2)
  refine hs Z2' H2 x y d1 d2 _ Q p1 p2 q2 fun rs v H' q m => ?_
  obtain ⟨Z3, x3, c3, rr3⟩ := m.cf c2'
  exact k _ _ q Z3 v H' ((((x1.trans x1').trans x2).trans x2').trans x3) c3 rr3
/-- one operand -/
abbrev F1 := D → (Rs → Prop) → Prop
def wOp1 (f : F1) (wa : WE) : WE := fun env Q => wa env fun r1 e1 => onS (opd e1 r1) fun d1 => f d1 fun r => Q r e1
def UnSpec (r : V → Hp → VK → Prop) (f : F1) : Prop := ∀ (Z : ZS) (H : Hp) (x : V) (a : D) (Q0 : Rs → Prop) (Q : VK), Rd' Z H x a → f a Q0 → (∀ rs v H', Q0 rs → Made Z H v rs H' → Q v H') → r x H Q
theorem tV_op1 {f : F1} {r : V → Hp → VK → Prop} (hs : UnSpec r f) {wa : WE} {σ : L2.St} {H : Hp} {Q : VK} (h : tV (wOp1 f wa) σ H Q) : tUn r (tV wa) σ H Q := by
  obtain ⟨F, Z, env, Q0, c, h, k⟩ := h
  refine ⟨F, Z, env, _, c, h, fun r1 e1 q1 Z1 x H1 x1 c1 rr1 => ?_⟩
  obtain ⟨Z1', x1', c1', hd1⟩ := rr1.hold c1
  obtain ⟨d1, o1, q1⟩ := onS_some q1
  have p1 := hd1.opd c1' (by rw [opd_hold]; exact o1)
  refine hs Z1' H1 x d1 _ Q p1 q1 fun rs v H' q m => ?_
  obtain ⟨Z3, x3, c3, rr3⟩ := m.cf c1'
  exact k _ _ q Z3 v H' ((x1.trans x1').trans x3) c3 rr3

/-! ### arguments -/
def wNil : WEs := fun env Q => Q [] env
def wCons (w : WE) (ws : WEs) : WEs := fun env Q => w env fun r e1 => ws e1 fun rs e2 => Q (r :: rs) e2
inductive HdL (F : Frm) (Z : ZS) (σ : L2.St) (H : Hp) : List V → List Rs → Prop
  | nil : HdL F Z σ H [] []
  | cons {v : V} {vs : List V} {r : Rs} {rs : List Rs} : Hd F Z σ H v (hold r) → HdL F Z σ H vs rs → HdL F Z σ H (v :: vs) (r :: rs)
def tVs (ws : WEs) : TA := fun σ H Q => ∃ F Z env Q0, Cf F Z env σ H ∧ ws env Q0 ∧ ∀ rs env', Q0 rs env' → ∀ Z' vs H', Ext Z H Z' H' → Cf F Z' env' σ H' → HdL F Z' σ H' vs rs → Q vs H'
theorem tVs_nil {σ : L2.St} {H : Hp} {Q : List V → Hp → Prop} (h : tVs wNil σ H Q) : tNil σ H Q := by
  obtain ⟨F, Z, env, Q0, c, h, k⟩ := h
  exact k _ _ h Z [] H (.refl Z H) c .nil
theorem tVs_cons {w : WE} {ws : WEs} {σ : L2.St} {H : Hp} {Q : List V → Hp → Prop} (h : tVs (wCons w ws) σ H Q) : tCons (tV w) (tVs ws) σ H Q := by
  obtain ⟨F, Z, env, Q0, c, h, k⟩ := h
  refine ⟨F, Z, env, _, c, h, fun r1 e1 q1 Z1 x H1 x1 c1 rr1 => ?_⟩
  obtain ⟨Z1', x1', c1', hd1⟩ := rr1.hold c1
  refine ⟨F, Z1', e1, _, c1', q1, fun rs e2 q2 Z2 vs H2 x2 c2 hd2 => ?_⟩
  exact k _ _ q2 Z2 _ H2 ((x1.trans x1').trans x2) c2 (.cons (hd1.ext x2) hd2)
theorem va_nil {X : Cx} : PA X [] (tVs wNil) := pa_nil.imp fun _ _ _ h => tVs_nil h
theorem va_cons {X : Cx} {e : Expr} {es : List Expr} {w : WE} {ws : WEs} (h : PE X e (tV w)) (hr : PA X es (tVs ws)) (hs : starEach (e :: es) X.env = (false, eval e X.env) :: starEach es X.env) : PA X (e :: es) (tVs (wCons w ws)) :=
  (pa_cons h hr hs).imp fun _ _ _ h => tVs_cons h
/-- the data of held operands -/
def opds (env : VE) : List Rs → Option (List D)
  | [] => some []
  | r :: rs => match opd env r, opds env rs with
    | some d, some ds => some (d :: ds)
    | _, _ => none
inductive RdL (Z : ZS) (H : Hp) : List V → List D → Prop
  | nil : RdL Z H [] []
  | cons {v : V} {vs : List V} {d : D} {ds : List D} : Rd' Z H v d → RdL Z H vs ds → RdL Z H (v :: vs) (d :: ds)
theorem HdL.opds {F : Frm} {Z : ZS} {env : VE} {σ : L2.St} {H : Hp} (c : Cf F Z env σ H) : ∀ {vs : List V} {rs : List Rs} {ds : List D}, HdL F Z σ H vs rs → opds env rs = some ds → RdL Z H vs ds
  | _, _, ds, .nil, e => by
    cases e; exact .nil
  | _, _, ds, .cons (r := r) (rs := rs) h l, e => by
    unfold VL.opds at e
    cases q : opd env r with
    | none => rw [q] at e; cases e
    | some d =>
      cases q2 : VL.opds env rs with
      | none => rw [q, q2] at e; cases e
      | some ds' =>
        rw [q, q2] at e
        cases e
        exact .cons (h.opd c (by rw [opd_hold]; exact q)) (HdL.opds c l q2)
/-- a built-in called -/
abbrev FL := List D → (Rs → Prop) → Prop
def wCB (f : FL) (ws : WEs) : WE := fun env Q => ws env fun rs e => onS (opds e rs) fun ds => f ds fun r => Q r e
def CSpec (r : List V → Hp → VK → Prop) (f : FL) : Prop := ∀ (Z : ZS) (H : Hp) (xs : List V) (as : List D) (Q0 : Rs → Prop) (Q : VK), RdL Z H xs as → f as Q0 → (∀ rs v H', Q0 rs → Made Z H v rs H' → Q v H') → r xs H Q
theorem tV_cb {f : FL} {r : List V → Hp → VK → Prop} (hs : CSpec r f) {ws : WEs} {σ : L2.St} {H : Hp} {Q : VK} (h : tV (wCB f ws) σ H Q) : tCB r (tVs ws) σ H Q := by
  obtain ⟨F, Z, env, Q0, c, h, k⟩ := h
  refine ⟨F, Z, env, _, c, h, fun rs e1 q1 Z1 xs H1 x1 c1 hd => ?_⟩
  obtain ⟨ds, o, q1⟩ := onS_some q1
  refine hs Z1 H1 xs ds _ Q (hd.opds c1 o) q1 fun r v H' q m => ?_
  obtain ⟨Z3, x3, c3, rr3⟩ := m.cf c1
  exact k _ _ q Z3 v H' (x1.trans x3) c3 rr3

/-! ### what is kept in a display is fixed -/
def setV (env : VE) (i : Nat) (s : Sl) : VE := env.set i s
def frz1 (env : VE) : Rs → Option (D × VE)
  | .val d => some (d, env)
  | .new d => some (d, env)
  | .bor i => match env[i]? with
    | some (.own d) => some (d, env.set i (.val d))
    | some (.val d) => some (d, env)
    | _ => none
  | .src => none
def frz (env : VE) : List Rs → Option (List D × VE)
  | [] => some ([], env)
  | r :: rs => match frz1 env r with
    | some (d, e1) => match frz e1 rs with
      | some (ds, e2) => some (d :: ds, e2)
      | none => none
    | none => none
section
variable {F : Frm} {Z Z' : ZS} {env env' : VE} {σ : L2.St} {H H' : Hp} {a p : Addr} {v : V} {d : D}
theorem Cf.getσ (c : Cf F Z env σ H) {i : Nat} {s : Sl} (h : env[i]? = some s) : i < σ.length := by
  rw [c.len]; exact (List.getElem?_eq_some_iff.mp h).1
/-- a slot's owned object is fixed -/
theorem Cf.fixSlot (c : Cf F Z env σ H) {i : Nat} (h : env[i]? = some (.own d)) (hv : σ[i]? = some (some v)) : ∃ Z', Ext Z H Z' H ∧ Cf F Z' (env.set i (.val d)) σ H ∧ Rp Z' H v d := by
  obtain ⟨a, q, o, nz, h0, n1, n2⟩ := c.own i d h
  rw [hv] at q
  cases q
  have hi : i < env.length := (List.getElem?_eq_some_iff.mp h).1
  have r : Rp (zadd Z a) H (.ref a) d := o.fix ext_zadd rfl (.inr rfl)
  refine ⟨zadd Z a, ext_zadd, ⟨by simpa using c.len, fun j e hj => ?_, fun j e hj => ?_, fun j k d1 e b h1 h2 => ?_, fun j hj => ?_, c.srcH, fun z => z.elim c.zs fun e => n1 e.symm, fun z => z.elim c.zc fun e => n2 e.symm, fun b z => z.elim (c.zdom b) fun e => by subst e; exact o.some,
    fun b z => z.elim (c.zold b) fun e => by subst e; exact .inr h0, c.z0d, c.pres⟩, r⟩
  · by_cases hij : i = j
    · subst hij
      rw [List.getElem?_set_self hi] at hj
      cases hj
      exact ⟨_, hv, r⟩
    · rw [List.getElem?_set_ne hij] at hj
      obtain ⟨w, q, r⟩ := c.val j e hj
      exact ⟨w, q, r.ext ext_zadd⟩
  · by_cases hij : i = j
    · subst hij
      rw [List.getElem?_set_self hi] at hj
      cases hj
    · rw [List.getElem?_set_ne hij] at hj
      obtain ⟨b, q, ob, nb, rest⟩ := c.own j e hj
      refine ⟨b, q, ob.ext ext_zadd rfl, fun z => ?_, rest⟩
      rcases z with z | z
      · exact nb z
      · subst z
        exact hij (c.uniq i j d e _ h hj hv q)
  · have g : ∀ {j : Nat} {d' : D}, (env.set i (.val d))[j]? = some (.own d') → env[j]? = some (.own d') := fun {j d'} hj => by
      by_cases hij : i = j
      · subst hij
        rw [List.getElem?_set_self hi] at hj
        cases hj
      · rwa [List.getElem?_set_ne hij] at hj
    exact c.uniq j k _ _ b (g h1) (g h2)
  · by_cases hij : i = j
    · subst hij
      rw [List.getElem?_set_self hi] at hj
      cases hj
    · rw [List.getElem?_set_ne hij] at hj
      exact c.srcs j hj
theorem Hd.frz1 {r : Rs} {e1 : VE} (c : Cf F Z env σ H) (h : Hd F Z σ H v (hold r)) (e : frz1 env r = some (d, e1)) : ∃ Z', Ext Z H Z' H ∧ Cf F Z' e1 σ H ∧ Rp Z' H v d := by
  cases r with
  | val d' => cases e; exact ⟨Z, .refl Z H, c, h⟩
  | new d' => cases e; exact ⟨Z, .refl Z H, c, h⟩
  | src => cases e
  | bor i =>
    have h : σ[i]? = some (some v) := h
    have e : (match env[i]? with | some (.own d) => some (d, env.set i (.val d)) | some (.val d) => some (d, env) | _ => none) = some (d, e1) := e
    cases q : env[i]? with
    | none => rw [q] at e; cases e
    | some sl =>
      rw [q] at e
      cases sl with
      | emp => cases e
      | src => cases e
      | own d' => cases e; exact c.fixSlot q h
      | val d' =>
        cases e
        obtain ⟨w, q', r⟩ := c.val i _ q
        rw [h] at q'
        cases q'
        exact ⟨Z, .refl Z H, c, r⟩
theorem HdL.ext {vs : List V} {rs : List Rs} (e : Ext Z H Z' H') (h : HdL F Z σ H vs rs) : HdL F Z' σ H' vs rs := by
  induction h with
  | nil => exact .nil
  | cons h _ ih => exact .cons (h.ext e) ih
theorem HdL.frz : ∀ {rs : List Rs} {vs : List V} {ds : List D} {env e1 : VE} {Z : ZS}, Cf F Z env σ H → HdL F Z σ H vs rs → frz env rs = some (ds, e1) → ∃ Z', Ext Z H Z' H ∧ Cf F Z' e1 σ H ∧ RpL Z' H vs ds
  | [], _, ds, env, e1, Z, c, .nil, e => by
    cases e; exact ⟨Z, .refl Z H, c, .nil⟩
  | r :: rs, _, ds, env, e1, Z, c, .cons h l, e => by
    unfold VL.frz at e
    cases q : VL.frz1 env r with
    | none => rw [q] at e; cases e
    | some p =>
      obtain ⟨d, e2⟩ := p
      rw [q] at e
      simp only at e
      cases q2 : VL.frz e2 rs with
      | none => rw [q2] at e; cases e
      | some p2 =>
        obtain ⟨ds', e3⟩ := p2
        rw [q2] at e
        cases e
        obtain ⟨Z1, x1, c1, r1⟩ := h.frz1 c q
        obtain ⟨Z2, x2, c2, r2⟩ := HdL.frz c1 (l.ext x1) q2
        exact ⟨Z2, x1.trans x2, c2, .cons (r1.ext x2) r2⟩
end
def LIM : Nat := 1000000
theorem lim_le {n : Nat} (h : n ≤ LIM) : n ≤ sizeLine := Nat.le_trans h (by rw [sizeLine_eq]; decide)
theorem lim_lt {n : Nat} (h : n < LIM) : n < sizeLine := Nat.lt_of_lt_of_le h (by rw [sizeLine_eq]; decide)
def wTup (ws : WEs) : WE := fun env Q => ws env fun rs e => onS (frz e rs) fun p => p.1.length ≤ LIM ∧ Q (.val (.tuple p.1)) p.2
def wLst (ws : WEs) : WE := fun env Q => ws env fun rs e => onS (frz e rs) fun p => p.1.length ≤ LIM ∧ Q (.new (.list p.1)) p.2
theorem tV_tup {ws : WEs} {σ : L2.St} {H : Hp} {Q : VK} (h : tV (wTup ws) σ H Q) : tTup (tVs ws) σ H Q := by
  obtain ⟨F, Z, env, Q0, c, h, k⟩ := h
  refine ⟨F, Z, env, _, c, h, fun rs e1 q1 Z1 xs H1 x1 c1 hd => ?_⟩
  obtain ⟨⟨ds, e2⟩, o, hl, q1⟩ := onS_some q1
  obtain ⟨Z2, x2, c2, r2⟩ := hd.frz c1 o
  refine ⟨by rw [r2.length]; exact lim_le hl, fun p hp => ?_⟩
  obtain ⟨Z3, x3, c3, rr3⟩ := (Made.tup hp r2).cf c2
  exact k _ _ q1 Z3 _ _ ((x1.trans x2).trans x3) c3 rr3
theorem tV_lst {ws : WEs} {σ : L2.St} {H : Hp} {Q : VK} (h : tV (wLst ws) σ H Q) : tLst (tVs ws) σ H Q := by
  obtain ⟨F, Z, env, Q0, c, h, k⟩ := h
  refine ⟨F, Z, env, _, c, h, fun rs e1 q1 Z1 xs H1 x1 c1 hd => ?_⟩
  obtain ⟨⟨ds, e2⟩, o, hl, q1⟩ := onS_some q1
  obtain ⟨Z2, x2, c2, r2⟩ := hd.frz c1 o
  refine ⟨by rw [r2.length]; exact lim_le hl, fun p hp => ?_⟩
  obtain ⟨Z3, x3, c3, rr3⟩ := (Made.lst hp r2).cf c2
  exact k _ _ q1 Z3 _ _ ((x1.trans x2).trans x3) c3 rr3

/-! ### tests -/
def truD : D → Option Bool
  | .none => some false
  | .bool b => some b
  | .int i => some (i != 0)
  | .list xs => some (!xs.isEmpty)
  | .tuple xs => some (!xs.isEmpty)
  | _ => none
def wTest (w : WE) : WT := fun env Q => w env fun r e => onS (opd e r) fun d => onS (truD d) fun b => Q b e
theorem rd_int {Z : ZS} {H : Hp} {v : V} {i : Int} (h : Rd' Z H v (.int i)) : v = .int i := by
  rcases h with h | ⟨a, _, h⟩
  · cases h; rfl
  · exact h.elim
theorem rd_bool {Z : ZS} {H : Hp} {v : V} {i : Bool} (h : Rd' Z H v (.bool i)) : v = .bl i := by
  rcases h with h | ⟨a, _, h⟩
  · cases h; rfl
  · exact h.elim
theorem rd_none {Z : ZS} {H : Hp} {v : V} (h : Rd' Z H v .none) : v = .non := by
  rcases h with h | ⟨a, _, h⟩
  · cases h; rfl
  · exact h.elim
theorem rd_str {Z : ZS} {H : Hp} {v : V} {i : Str} (h : Rd' Z H v (.str i)) : v = .str i := by
  rcases h with h | ⟨a, _, h⟩
  · cases h; rfl
  · exact h.elim
theorem rd_list {Z : ZS} {H : Hp} {v : V} {ds : List D} (h : Rd' Z H v (.list ds)) : ∃ a vs, v = .ref a ∧ H a = some (.lst vs) ∧ RpL Z H vs ds := by
  rcases h with h | ⟨a, rfl, h⟩
  · cases h with
    | lst z h l => exact ⟨_, _, rfl, h, l⟩
  · obtain ⟨vs, h, l⟩ := h
    exact ⟨a, vs, rfl, h, l⟩
theorem rd_tuple {Z : ZS} {H : Hp} {v : V} {ds : List D} (h : Rd' Z H v (.tuple ds)) : ∃ a vs, v = .ref a ∧ Z a ∧ H a = some (.tup vs) ∧ RpL Z H vs ds := by
  rcases h with h | ⟨a, rfl, h⟩
  · cases h with
    | tup z h l => exact ⟨_, _, rfl, z, h, l⟩
  · exact h.elim
theorem rd_dict {Z : ZS} {H : Hp} {v : V} {kds : List (D × D)} (h : Rd' Z H v (.dict kds)) : ∃ a o ks vs ds, v = .ref a ∧ H a = some o ∧ DicO o ks vs ∧ RpL Z H vs ds ∧ kds = ks.zip ds := by
  rcases h with h | ⟨a, rfl, h⟩
  · cases h with
    | dic z h o l => exact ⟨_, _, _, _, _, rfl, h, o, l, rfl⟩
  · obtain ⟨o, ks, vs, ds, h, q, l, e⟩ := h
    exact ⟨a, o, ks, vs, ds, rfl, h, q, l, e⟩
theorem rpl_empty {Z : ZS} {H : Hp} {vs : List V} {ds : List D} (h : RpL Z H vs ds) : vs.isEmpty = ds.isEmpty := by
  cases h <;> rfl
theorem tru_of {K : PySem.W.Frag} {Z : ZS} {H : Hp} {v : V} {d : D} {b : Bool} (h : Rd' Z H v d) (e : truD d = some b) : TruV K v H b := by
  cases d with
  | none => cases e; rw [rd_none h]; rfl
  | bool b => cases e; rw [rd_bool h]; rfl
  | int i => cases e; rw [rd_int h]; rfl
  | str x => cases e
  | dict x => cases e
  | list ds =>
    cases e
    obtain ⟨a, vs, rfl, ha, l⟩ := rd_list h
    exact .inl ⟨vs, SqL.of ha, by rw [rpl_empty l]⟩
  | tuple ds =>
    cases e
    obtain ⟨a, vs, rfl, _, ha, l⟩ := rd_tuple h
    exact .inr (.inl ⟨vs, SqT.of ha, by rw [rpl_empty l]⟩)
theorem tVT_tru {K : PySem.W.Frag} {w : WE} {σ : L2.St} {H : Hp} {Q : Bool → Hp → Prop} (h : tVT (wTest w) σ H Q) : tV w σ H fun x H' => ∃ k, TruV K x H' k ∧ Q k H' := by
  obtain ⟨F, Z, env, Q0, c, h, k⟩ := h
  refine ⟨F, Z, env, _, c, h, fun r1 e1 q1 Z1 x H1 x1 c1 rr1 => ?_⟩
  obtain ⟨Z1', x1', c1', hd1⟩ := rr1.hold c1
  obtain ⟨d1, o1, q1⟩ := onS_some q1
  obtain ⟨b, o2, q1⟩ := onS_some q1
  have p1 := hd1.opd c1' (by rw [opd_hold]; exact o1)
  exact ⟨b, tru_of p1 o2, k _ _ q1 Z1' H1 (x1.trans x1') c1'⟩
/-- a comparison's value as a test -/
def wTestB (w : WE) : WT := fun env Q => w env fun r e => match r with
  | .val (.bool b) => Q b e
  | _ => False
theorem tVT_test {w : WE} {σ : L2.St} {H : Hp} {Q : Bool → Hp → Prop} (h : tVT (wTestB w) σ H Q) : tTest (tV w) σ H Q := by
  obtain ⟨F, Z, env, Q0, c, h, k⟩ := h
  refine ⟨F, Z, env, _, c, h, fun r1 e1 q1 Z1 x H1 x1 c1 rr1 => ?_⟩
  split at q1
  · rename_i b
    have e : x = .bl b := by
      have rr1 : Rp Z1 H1 x (.bool b) := rr1
      cases rr1
      rfl
    exact ⟨b, e, k _ _ q1 Z1 H1 x1 c1⟩
  · exact q1.elim
def wTAnd (a b : WT) : WT := fun env Q => a env fun x e => (x = true → b e Q) ∧ (x = false → Q false e)
def wTOr (a b : WT) : WT := fun env Q => a env fun x e => (x = true → Q true e) ∧ (x = false → b e Q)
def wTNot (a : WT) : WT := fun env Q => a env fun x e => Q (!x) e
theorem tVT_and {a b : WT} {σ : L2.St} {H : Hp} {Q : Bool → Hp → Prop} (h : tVT (wTAnd a b) σ H Q) : tAnd (tVT a) (tVT b) σ H Q := by
  obtain ⟨F, Z, env, Q0, c, h, k⟩ := h
  refine ⟨F, Z, env, _, c, h, fun x e1 q1 Z1 H1 x1 c1 => ?_⟩
  cases x with
  | true =>
    rw [if_pos rfl]
    exact ⟨F, Z1, e1, Q0, c1, q1.1 rfl, fun b e2 q2 Z2 H2 x2 c2 => k _ _ q2 Z2 H2 (x1.trans x2) c2⟩
  | false =>
    rw [if_neg Bool.false_ne_true]
    exact k _ _ (q1.2 rfl) Z1 H1 x1 c1
theorem tVT_or {a b : WT} {σ : L2.St} {H : Hp} {Q : Bool → Hp → Prop} (h : tVT (wTOr a b) σ H Q) : tOr (tVT a) (tVT b) σ H Q := by
  obtain ⟨F, Z, env, Q0, c, h, k⟩ := h
  refine ⟨F, Z, env, _, c, h, fun x e1 q1 Z1 H1 x1 c1 => ?_⟩
  cases x with
  | false =>
    rw [if_neg Bool.false_ne_true]
    exact ⟨F, Z1, e1, Q0, c1, q1.2 rfl, fun b e2 q2 Z2 H2 x2 c2 => k _ _ q2 Z2 H2 (x1.trans x2) c2⟩
  | true =>
    rw [if_pos rfl]
    exact k _ _ (q1.1 rfl) Z1 H1 x1 c1
theorem tVT_not {a : WT} {σ : L2.St} {H : Hp} {Q : Bool → Hp → Prop} (h : tVT (wTNot a) σ H Q) : tNot (tVT a) σ H Q := by
  obtain ⟨F, Z, env, Q0, c, h, k⟩ := h
  exact ⟨F, Z, env, _, c, h, fun x e1 q1 Z1 H1 x1 c1 => k _ _ q1 Z1 H1 x1 c1⟩
/-- and, or, not as values: bools -/
def wAndV (a b : WE) : WE := fun env Q => a env fun r e => match r with
  | .val (.bool x) => (x = true → b e Q) ∧ (x = false → Q (.val (.bool false)) e)
  | _ => False
def wOrV (a b : WE) : WE := fun env Q => a env fun r e => match r with
  | .val (.bool x) => (x = true → Q (.val (.bool true)) e) ∧ (x = false → b e Q)
  | _ => False
theorem tV_and {a b : WE} {σ : L2.St} {H : Hp} {Q : VK} (h : tV (wAndV a b) σ H Q) : tAndV (tV a) (tV b) σ H Q := by
  obtain ⟨F, Z, env, Q0, c, h, k⟩ := h
  refine ⟨F, Z, env, _, c, h, fun r1 e1 q1 Z1 x H1 x1 c1 rr1 => ?_⟩
  split at q1
  · rename_i b
    have e : x = .bl b := by
      have rr1 : Rp Z1 H1 x (.bool b) := rr1
      cases rr1
      rfl
    refine ⟨b, e, ?_⟩
    cases b with
    | true =>
      rw [if_pos rfl]
      exact ⟨F, Z1, e1, Q0, c1, q1.1 rfl, fun b e2 q2 Z2 v H2 x2 c2 r2 => k _ _ q2 Z2 v H2 (x1.trans x2) c2 r2⟩
    | false =>
      rw [if_neg Bool.false_ne_true]
      exact k _ _ (q1.2 rfl) Z1 _ H1 x1 c1 (Rp.bl false)
  · exact q1.elim
theorem tV_or {a b : WE} {σ : L2.St} {H : Hp} {Q : VK} (h : tV (wOrV a b) σ H Q) : tOrV (tV a) (tV b) σ H Q := by
  obtain ⟨F, Z, env, Q0, c, h, k⟩ := h
  refine ⟨F, Z, env, _, c, h, fun r1 e1 q1 Z1 x H1 x1 c1 rr1 => ?_⟩
  split at q1
  · rename_i b
    have e : x = .bl b := by
      have rr1 : Rp Z1 H1 x (.bool b) := rr1
      cases rr1
      rfl
    refine ⟨b, e, ?_⟩
    cases b with
    | false =>
      rw [if_neg Bool.false_ne_true]
      exact ⟨F, Z1, e1, Q0, c1, q1.2 rfl, fun b e2 q2 Z2 v H2 x2 c2 r2 => k _ _ q2 Z2 v H2 (x1.trans x2) c2 r2⟩
    | true =>
      rw [if_pos rfl]
      exact k _ _ (q1.1 rfl) Z1 _ H1 x1 c1 (Rp.bl true)
  · exact q1.elim
def fNot : F1 := fun d Q => onS (truD d) fun b => Q (.val (.bool (!b)))
def wIf (t : WT) (a b : WE) : WE := fun env Q => t env fun x e => (x = true → a e Q) ∧ (x = false → b e Q)
theorem tV_if {t : WT} {a b : WE} {σ : L2.St} {H : Hp} {Q : VK} (h : tV (wIf t a b) σ H Q) : tIf (tVT t) (tV a) (tV b) σ H Q := by
  obtain ⟨F, Z, env, Q0, c, h, k⟩ := h
  refine ⟨F, Z, env, _, c, h, fun x e1 q1 Z1 H1 x1 c1 => ?_⟩
  cases x with
  | true =>
    rw [if_pos rfl]
    exact ⟨F, Z1, e1, Q0, c1, q1.1 rfl, fun b e2 q2 Z2 v H2 x2 c2 r2 => k _ _ q2 Z2 v H2 (x1.trans x2) c2 r2⟩
  | false =>
    rw [if_neg Bool.false_ne_true]
    exact ⟨F, Z1, e1, Q0, c1, q1.2 rfl, fun b e2 q2 Z2 v H2 x2 c2 r2 => k _ _ q2 Z2 v H2 (x1.trans x2) c2 r2⟩
end VL

namespace VL
open PySem PySem.Spec PyProof.Rows L2

/-! ### reading as data -/
theorem rd_dp {K : PySem.W.Frag} {Z : ZS} {H : Hp} {v : V} {d : D} (h : Rd' Z H v d) (c : d.canLay0 = true) : Dp K H v d := by
  rcases h with h | ⟨a, rfl, h⟩
  · exact h.dp c
  · cases d with
    | list ds =>
      obtain ⟨vs, h, l⟩ := h
      exact .lst (SqL.of h) (l.dp (by simpa [PyData.canLay0] using c))
    | dict ds => exact absurd c (by simp [PyData.canLay0])
    | _ => exact h.elim
/-- what Python's rules take: no dict within, not deep -/
def okD (d : D) : Bool := d.canLay0 && decide (d.depth ≤ 60)
theorem okD_lay {d : D} (h : okD d = true) : d.canLay0 = true := (Bool.and_eq_true_iff.mp h).1
theorem okD_depth {d : D} (h : okD d = true) : d.depth ≤ 60 := of_decide_eq_true (Bool.and_eq_true_iff.mp h).2
theorem okD_shaped {d : D} (h : okD d = true) : SeqAt.shaped d = true := by
  show (d.canLay0 && decide (d.depth ≤ 64)) = true
  rw [Bool.and_eq_true]
  exact ⟨okD_lay h, decide_eq_true (Nat.le_trans (okD_depth h) (by decide))⟩
/-- room for what a built-in does -/
structure Rm (X : Cx) : Prop where
  calm : X.calm = true
  un : X.A.units + 100 < cLine
  gd : X.A.guards = some []

/-! ### two operands -/
def mulOk (i j : Int) : Prop := CMul i j ∨ CMulW i j
def divOk (j : Int) : Prop := 0 < j ∧ (j < 1073741824 ∨ j.natAbs.log2 < 9000)
def fAdd : F2 := fun a b Q => match a, b with
  | .int i, .int j => Q (.val (.int (i + j)))
  | .list xs, .list ys => xs.length + ys.length ≤ LIM ∧ Q (.new (.list (xs ++ ys)))
  | .tuple xs, .tuple ys => xs.length + ys.length ≤ LIM ∧ Q (.val (.tuple (xs ++ ys)))
  | _, _ => False
def fSub : F2 := fun a b Q => match a, b with
  | .int i, .int j => Q (.val (.int (i - j)))
  | _, _ => False
def repD (xs : List D) (k : Int) : List D := (List.replicate k.toNat xs).flatten
def fMul : F2 := fun a b Q => match a, b with
  | .int i, .int j => mulOk i j ∧ Q (.val (.int (i * j)))
  | .list xs, .int k => -1000000 ≤ k ∧ k ≤ 1000000 ∧ xs.length * k.toNat ≤ LIM ∧ Q (.new (.list (repD xs k)))
  | .tuple xs, .int k => xs ≠ [] ∧ 2 ≤ k ∧ k ≤ 1000 ∧ xs.length ≤ 1000 ∧ Q (.val (.tuple (repD xs k)))
  | _, _ => False
def fDiv : F2 := fun a b Q => match a, b with
  | .int i, .int j => divOk j ∧ Q (.val (.int (i / j)))
  | _, _ => False
def fMod : F2 := fun a b Q => match a, b with
  | .int i, .int j => 0 < j ∧ Q (.val (.int (i % j)))
  | _, _ => False
def fPow : F2 := fun a b Q => match a, b with
  | .int i, .int j => CPow i j ∧ Q (.val (.int (i ^ j.toNat)))
  | _, _ => False
def fShl : F2 := fun a b Q => match a, b with
  | .int i, .int j => CPow i j ∧ Q (.val (.int (i * 2 ^ j.toNat)))
  | _, _ => False
def fEq : F2 := fun a b Q => match a, b with
  | .str x, .str y => Q (.val (.bool (decide (x = y))))
  | _, _ => okD a = true ∧ okD b = true ∧ Q (.val (.bool (PyData.eqv a b)))
def fNe : F2 := fun a b Q => match a, b with
  | .str x, .str y => Q (.val (.bool (!decide (x = y))))
  | _, _ => okD a = true ∧ okD b = true ∧ Q (.val (.bool (!PyData.eqv a b)))
def cmpOk (a b : D) : Prop := okD a = true ∧ okD b = true ∧ PySem.W.alike a b = true ∧ a ≠ .none
def fLt : F2 := fun a b Q => match a, b with
  | .int i, .int j => Q (.val (.bool (decide (i < j))))
  | _, _ => cmpOk a b ∧ Q (.val (.bool (PySem.W.dataLt a b)))
def fGt : F2 := fun a b Q => match a, b with
  | .int i, .int j => Q (.val (.bool (decide (j < i))))
  | _, _ => cmpOk a b ∧ Q (.val (.bool (PySem.W.dataLt b a)))
def fLe : F2 := fun a b Q => match a, b with
  | .int i, .int j => Q (.val (.bool (decide (i ≤ j))))
  | _, _ => cmpOk a b ∧ Q (.val (.bool (!PySem.W.dataLt b a)))
def fGe : F2 := fun a b Q => match a, b with
  | .int i, .int j => Q (.val (.bool (decide (j ≤ i))))
  | _, _ => cmpOk a b ∧ Q (.val (.bool (!PySem.W.dataLt a b)))
def isNoneD : D → Bool
  | .none => true
  | _ => false
def fIsN : F1 := fun a Q => Q (.val (.bool (isNoneD a)))
def fNotN : F1 := fun a Q => Q (.val (.bool (!isNoneD a)))
def fIsB (c : Bool) : F1 := fun a Q => match a with
  | .bool b => Q (.val (.bool (decide (b = c))))
  | _ => False
def fNotB (c : Bool) : F1 := fun a Q => match a with
  | .bool b => Q (.val (.bool (!decide (b = c))))
  | _ => False
def anyEq (x : D) (ys : List D) : Bool := ys.any fun z => PyData.eqv z x
def fIn : F2 := fun a b Q => match b with
  | .list ys => okD a = true ∧ okD b = true ∧ Q (.val (.bool (anyEq a ys)))
  | .tuple ys => okD a = true ∧ okD b = true ∧ Q (.val (.bool (anyEq a ys)))
  | _ => False
def fNotIn : F2 := fun a b Q => match b with
  | .list ys => okD a = true ∧ okD b = true ∧ Q (.val (.bool (!anyEq a ys)))
  | .tuple ys => okD a = true ∧ okD b = true ∧ Q (.val (.bool (!anyEq a ys)))
  | _ => False
def fIx : F2 := fun a b Q => match a, b with
  | .list xs, .int i => onS (atI xs i) fun d => Q (.val d)
  | .tuple xs, .int i => onS (atI xs i) fun d => Q (.val d)
  | _, _ => False
section
variable {X : Cx}
theorem Rm.hu (m : Rm X) : X.A.units < cLine := by have := m.un; omega

/-! rules over data -/
def rAll2 (K : PySem.W.Frag) (f : D → D → Bool) (C : D → D → Prop) : R2 := fun x y H Q => ∃ d e, Dp K H x d ∧ Dp K H y e ∧ C d e ∧ Q (.bl (f d e)) H
theorem op_cmpD {op : CmpOp} {f : D → D → Bool} (m : Rm X)
    (rule : ∀ (s : Shared) (a b : Value) (da db : D) (as bs : List Addr) (Q : Value → Shared → Prop) (E : Value → Shared → Prop), Reads s.heap a da as → Reads s.heap b db bs → PySem.W.alike da db = true → da ≠ .none → X.A.units + min da.depth db.depth < cLine → Q (.bool (f da db)) s → wpAny (model X.prog X.w) X.A (compareOp op a b) Q E s) :
    OpR X (compareOp op) (rAll2 X.K f cmpOk) := by
  intro pins s σ H x y v u Q I rx ry h
  obtain ⟨d, e, hd, he, ⟨c1, c2, c3, c4⟩, q⟩ := h
  obtain ⟨as, r1⟩ := Dp.reads I d x v hd rx
  obtain ⟨bs, r2⟩ := Dp.reads I e y u he ry
  have := okD_depth c1
  have := m.un
  exact rule s v u d e as bs _ _ r1 r2 c3 c4 (by omega) ⟨.bl _, H, I, rfl, q⟩
theorem op_ltD (m : Rm X) : OpR X (compareOp .Lt) (rAll2 X.K PySem.W.dataLt cmpOk) := op_cmpD m fun _ _ _ _ _ _ _ _ _ r1 r2 a n u q => PySem.W.lt_data r1 r2 a n u q
theorem op_gtD (m : Rm X) : OpR X (compareOp .Gt) (rAll2 X.K (fun a b => PySem.W.dataLt b a) cmpOk) := op_cmpD m fun _ _ _ _ _ _ _ _ _ r1 r2 a n u q => PySem.W.gt_data r1 r2 a n u q
theorem op_leD (m : Rm X) : OpR X (compareOp .LtE) (rAll2 X.K (fun a b => !PySem.W.dataLt b a) cmpOk) := op_cmpD m fun _ _ _ _ _ _ _ _ _ r1 r2 a n u q => PySem.W.le_data r1 r2 a n u q
theorem op_geD (m : Rm X) : OpR X (compareOp .GtE) (rAll2 X.K (fun a b => !PySem.W.dataLt a b) cmpOk) := op_cmpD m fun _ _ _ _ _ _ _ _ _ r1 r2 a n u q => PySem.W.ge_data r1 r2 a n u q
def rInTD (K : PySem.W.Frag) (g : Bool → Bool) : R2 := fun x y H Q => ∃ d ds, Dp K H x d ∧ Dp K H y (.tuple ds) ∧ okD d = true ∧ okD (.tuple ds) = true ∧ Q (.bl (g (anyEq d ds))) H
theorem depth_tuple {ds : List D} (h : okD (.tuple ds) = true) : PyData.depthAll ds ≤ 60 := by
  have := okD_depth h
  simp only [PyData.depth] at this
  omega
theorem op_inTD (m : Rm X) : OpR X (compareOp .In) (rInTD X.K id) := by
  intro pins s σ H x y v u Q I rx ry h
  obtain ⟨d, ds, hd, he, sd, se, q⟩ := h
  obtain ⟨as, r1⟩ := Dp.reads I d x v hd rx
  obtain ⟨bs, r2⟩ := Dp.reads I (.tuple ds) y u he ry
  have l2 : PyData.canLayAll0 ds = true := by simpa [PyData.canLay0] using okD_lay se
  have := okD_depth sd
  have := m.un
  exact SeqAt.in_tuple_reads r2 r1 l2 (okD_lay sd) (by omega) ⟨.bl _, H, I, rfl, q⟩
theorem op_notInTD (m : Rm X) : OpR X (compareOp .NotIn) (rInTD X.K not) := by
  intro pins s σ H x y v u Q I rx ry h
  obtain ⟨d, ds, hd, he, sd, se, q⟩ := h
  obtain ⟨as, r1⟩ := Dp.reads I d x v hd rx
  obtain ⟨bs, r2⟩ := Dp.reads I (.tuple ds) y u he ry
  have l2 : PyData.canLayAll0 ds = true := by simpa [PyData.canLay0] using okD_lay se
  have := okD_depth sd
  have := m.un
  exact SeqAt.notIn_tuple_reads r2 r1 l2 (okD_lay sd) (by omega) ⟨.bl _, H, I, rfl, q⟩

/-! the specs -/
def rAddV (K : PySem.W.Frag) : R2 := fun x y H Q => rI0 (fun i j => .int (i + j)) x y H Q ∨ rCat x y H Q ∨ rCatA K x y H Q
theorem op_addV : OpR X (binaryOp .Add) (rAddV X.K) := OpR.or op_add (OpR.or op_cat op_catA)
theorem sp_add {K : PySem.W.Frag} : OpSpec (rAddV K) fAdd := by
  intro Z H x y a b Q0 Q ha hb h k
  unfold fAdd at h
  split at h
  · rw [rd_int ha, rd_int hb]
    exact .inl ⟨_, _, rfl, rfl, k _ _ _ h (.old (.int _))⟩
  · obtain ⟨p, vs, rfl, hp, l⟩ := rd_list ha
    obtain ⟨q, ws, rfl, hq, l2⟩ := rd_list hb
    exact .inr (.inl ⟨p, q, vs, ws, rfl, rfl, hp, hq, by rw [l.length, l2.length]; exact lim_le h.1, fun r hr => k _ _ _ h.2 (.lst hr (l.append l2))⟩)
  · obtain ⟨p, vs, rfl, zp, hp, l⟩ := rd_tuple ha
    obtain ⟨q, ws, rfl, zq, hq, l2⟩ := rd_tuple hb
    refine .inr (.inr ⟨p, q, vs, ws, rfl, rfl, SqT.of hp, SqT.of hq, by rw [l.length, l2.length]; exact lim_le h.1, fun e => ?_, fun e1 e2 => ?_, fun e1 e2 r hr => k _ _ _ h.2 (.tup hr (l.append l2))⟩)
    · subst e
      cases l
      exact k _ _ _ h.2 (.old (.tup zq hq l2))
    · subst e2
      cases l2
      rw [List.append_nil] at h
      exact k _ _ _ h.2 (.old (.tup zp hp l))
  · exact h.elim
theorem sp_sub : OpSpec (rI0 fun i j => .int (i - j)) fSub := by
  intro Z H x y a b Q0 Q ha hb h k
  unfold fSub at h
  split at h
  · rw [rd_int ha, rd_int hb]
    exact ⟨_, _, rfl, rfl, k _ _ _ h (.old (.int _))⟩
  · exact h.elim
def rMulV (K : PySem.W.Frag) : R2 := fun x y H Q => rI CMul (fun i j => .int (i * j)) x y H Q ∨ rI CMulW (fun i j => .int (i * j)) x y H Q ∨ rRep x y H Q ∨ rRepT K x y H Q
theorem op_mulV : OpR X (binaryOp .Mult) (rMulV X.K) := OpR.or op_mul (OpR.or op_mulW (OpR.or op_rep op_repT))
theorem sp_mul {K : PySem.W.Frag} : OpSpec (rMulV K) fMul := by
  intro Z H x y a b Q0 Q ha hb h k
  unfold fMul at h
  split at h
  · rw [rd_int ha, rd_int hb]
    rcases h.1 with c | c
    · exact .inl ⟨_, _, rfl, rfl, c, k _ _ _ h.2 (.old (.int _))⟩
    · exact .inr (.inl ⟨_, _, rfl, rfl, c, k _ _ _ h.2 (.old (.int _))⟩)
  · obtain ⟨p, vs, rfl, hp, l⟩ := rd_list ha
    rw [rd_int hb]
    obtain ⟨h1, h2, h3, h4⟩ := h
    exact .inr (.inr (.inl ⟨p, _, vs, rfl, rfl, hp, by omega, by omega, by rw [l.length]; exact lim_le h3, fun r hr => k _ _ _ h4 (.lst hr (l.rep _))⟩))
  · obtain ⟨p, vs, rfl, zp, hp, l⟩ := rd_tuple ha
    rw [rd_int hb]
    obtain ⟨h0, h1, h2, h3, h4⟩ := h
    exact .inr (.inr (.inr ⟨p, _, vs, rfl, rfl, SqT.of hp, (by rintro rfl; cases l; exact h0 rfl), h1, h2, by rw [l.length]; exact h3, fun r hr => k _ _ _ h4 (.tup hr (l.rep _))⟩))
  · exact h.elim
def rDivV : R2 := fun x y H Q => rI CDiv (fun i j => .int (i / j)) x y H Q ∨ rI CDivW (fun i j => .int (i / j)) x y H Q
theorem op_divV : OpR X (binaryOp .FloorDiv) rDivV := OpR.or op_fdiv op_fdivW
theorem sp_div : OpSpec rDivV fDiv := by
  intro Z H x y a b Q0 Q ha hb h k
  unfold fDiv at h
  split at h
  · rw [rd_int ha, rd_int hb]
    obtain ⟨⟨h0, h1⟩, h2⟩ := h
    rcases h1 with c | c
    · exact .inl ⟨_, _, rfl, rfl, ⟨h0, c⟩, k _ _ _ h2 (.old (.int _))⟩
    · exact .inr ⟨_, _, rfl, rfl, ⟨h0, c⟩, k _ _ _ h2 (.old (.int _))⟩
  · exact h.elim
theorem sp_mod : OpSpec (rI (fun _ j => 0 < j) fun i j => .int (i % j)) fMod := by
  intro Z H x y a b Q0 Q ha hb h k
  unfold fMod at h
  split at h
  · rw [rd_int ha, rd_int hb]
    exact ⟨_, _, rfl, rfl, h.1, k _ _ _ h.2 (.old (.int _))⟩
  · exact h.elim
theorem sp_pow : OpSpec (rI CPow fun i j => .int (i ^ j.toNat)) fPow := by
  intro Z H x y a b Q0 Q ha hb h k
  unfold fPow at h
  split at h
  · rw [rd_int ha, rd_int hb]
    exact ⟨_, _, rfl, rfl, h.1, k _ _ _ h.2 (.old (.int _))⟩
  · exact h.elim
theorem sp_shl : OpSpec (rI CPow fun i j => .int (i * 2 ^ j.toNat)) fShl := by
  intro Z H x y a b Q0 Q ha hb h k
  unfold fShl at h
  split at h
  · rw [rd_int ha, rd_int hb]
    exact ⟨_, _, rfl, rfl, h.1, k _ _ _ h.2 (.old (.int _))⟩
  · exact h.elim
def rEqV' (K : PySem.W.Frag) : R2 := fun x y H Q => rEq x y H Q ∨ rEqD K x y H Q
theorem op_eqV' (m : Rm X) : OpR X (compareOp .Eq) (rEqV' X.K) := OpR.or op_eq (op_eqD (by have := m.un; omega))
theorem sp_eq {K : PySem.W.Frag} : OpSpec (rEqV' K) fEq := by
  intro Z H x y a b Q0 Q ha hb h k
  unfold fEq at h
  split at h
  · rw [rd_str ha, rd_str hb]
    exact .inl ⟨rfl, by
      have := k _ _ _ h (.old (.bl _))
      simpa using this⟩
  · obtain ⟨c1, c2, h⟩ := h
    exact .inr ⟨a, b, rd_dp ha (okD_lay c1), rd_dp hb (okD_lay c2), okD_shaped c1, okD_shaped c2, k _ _ _ h (.old (.bl _))⟩
def rNeV' (K : PySem.W.Frag) : R2 := fun x y H Q => rNe x y H Q ∨ rNeD K x y H Q
theorem op_neV' (m : Rm X) : OpR X (compareOp .NotEq) (rNeV' X.K) := OpR.or op_ne (op_neD (by have := m.un; omega))
theorem sp_ne {K : PySem.W.Frag} : OpSpec (rNeV' K) fNe := by
  intro Z H x y a b Q0 Q ha hb h k
  unfold fNe at h
  split at h
  · rw [rd_str ha, rd_str hb]
    exact .inl ⟨rfl, by
      have := k _ _ _ h (.old (.bl _))
      simpa using this⟩
  · obtain ⟨c1, c2, h⟩ := h
    exact .inr ⟨a, b, rd_dp ha (okD_lay c1), rd_dp hb (okD_lay c2), okD_shaped c1, okD_shaped c2, k _ _ _ h (.old (.bl _))⟩
theorem sp_cmp {K : PySem.W.Frag} {f : D → D → Bool} {g : Int → Int → Bool} {F : F2} (hF : ∀ a b Q, F a b Q → (∃ i j, a = .int i ∧ b = .int j ∧ Q (.val (.bool (g i j)))) ∨ (cmpOk a b ∧ Q (.val (.bool (f a b))))) :
    OpSpec (fun x y H Q => rI0 (fun i j => .bl (g i j)) x y H Q ∨ rAll2 K f cmpOk x y H Q) F := by
  intro Z H x y a b Q0 Q ha hb h k
  rcases hF a b Q0 h with ⟨i, j, rfl, rfl, q⟩ | ⟨c, q⟩
  · rw [rd_int ha, rd_int hb]
    exact .inl ⟨_, _, rfl, rfl, k _ _ _ q (.old (.bl _))⟩
  · exact .inr ⟨a, b, rd_dp ha (okD_lay c.1), rd_dp hb (okD_lay c.2.1), c, k _ _ _ q (.old (.bl _))⟩
def rLtV (K : PySem.W.Frag) : R2 := fun x y H Q => rI0 (fun i j => .bl (decide (i < j))) x y H Q ∨ rAll2 K PySem.W.dataLt cmpOk x y H Q
def rGtV (K : PySem.W.Frag) : R2 := fun x y H Q => rI0 (fun i j => .bl (decide (j < i))) x y H Q ∨ rAll2 K (fun a b => PySem.W.dataLt b a) cmpOk x y H Q
def rLeV (K : PySem.W.Frag) : R2 := fun x y H Q => rI0 (fun i j => .bl (decide (i ≤ j))) x y H Q ∨ rAll2 K (fun a b => !PySem.W.dataLt b a) cmpOk x y H Q
def rGeV (K : PySem.W.Frag) : R2 := fun x y H Q => rI0 (fun i j => .bl (decide (j ≤ i))) x y H Q ∨ rAll2 K (fun a b => !PySem.W.dataLt a b) cmpOk x y H Q
theorem op_ltV (m : Rm X) : OpR X (compareOp .Lt) (rLtV X.K) := OpR.or (opB0 fun _ _ _ _ _ _ _ h => lt_int h) (op_ltD m)
theorem op_gtV (m : Rm X) : OpR X (compareOp .Gt) (rGtV X.K) := OpR.or (opB0 fun _ _ _ _ _ _ _ h => gt_int h) (op_gtD m)
theorem op_leV (m : Rm X) : OpR X (compareOp .LtE) (rLeV X.K) := OpR.or (opB0 fun _ _ _ _ _ _ _ h => le_int h) (op_leD m)
theorem op_geV (m : Rm X) : OpR X (compareOp .GtE) (rGeV X.K) := OpR.or (opB0 fun _ _ _ _ _ _ _ h => ge_int h) (op_geD m)
theorem sp_lt {K : PySem.W.Frag} : OpSpec (rLtV K) fLt := sp_cmp fun a b Q h => by
  unfold fLt at h; split at h
  · exact .inl ⟨_, _, rfl, rfl, h⟩
  · exact .inr h
theorem sp_gt {K : PySem.W.Frag} : OpSpec (rGtV K) fGt := sp_cmp fun a b Q h => by
  unfold fGt at h; split at h
  · exact .inl ⟨_, _, rfl, rfl, h⟩
  · exact .inr h
theorem sp_le {K : PySem.W.Frag} : OpSpec (rLeV K) fLe := sp_cmp fun a b Q h => by
  unfold fLe at h; split at h
  · exact .inl ⟨_, _, rfl, rfl, h⟩
  · exact .inr h
theorem sp_ge {K : PySem.W.Frag} : OpSpec (rGeV K) fGe := sp_cmp fun a b Q h => by
  unfold fGe at h; split at h
  · exact .inl ⟨_, _, rfl, rfl, h⟩
  · exact .inr h
theorem rd_nonDec {Z : ZS} {H : Hp} {v : V} {d : D} (h : Rd' Z H v d) : decide (v = .non) = isNoneD d := by
  rcases h with h | ⟨a, rfl, h⟩
  · cases h <;> rfl
  · cases d <;> first | exact h.elim | rfl
theorem sp_isN : UnSpec (fun x H Q => Q (.bl (decide (x = .non))) H) fIsN := by
  intro Z H x a Q0 Q ha h k
  rw [rd_nonDec ha]
  exact k _ _ _ h (.old (.bl _))
theorem sp_notN : UnSpec (fun x H Q => Q (.bl (!decide (x = .non))) H) fNotN := by
  intro Z H x a Q0 Q ha h k
  rw [rd_nonDec ha]
  exact k _ _ _ h (.old (.bl _))
def rInV (K : PySem.W.Frag) : R2 := fun x y H Q => rInD K x y H Q ∨ rInTD K id x y H Q
def rNotInV (K : PySem.W.Frag) : R2 := fun x y H Q => rNotInD K x y H Q ∨ rInTD K not x y H Q
theorem op_inV (m : Rm X) : OpR X (compareOp .In) (rInV X.K) := OpR.or (op_inD (by have := m.un; omega)) (op_inTD m)
theorem op_notInV (m : Rm X) : OpR X (compareOp .NotIn) (rNotInV X.K) := OpR.or (op_notInD (by have := m.un; omega)) (op_notInTD m)
theorem sp_in {K : PySem.W.Frag} : OpSpec (rInV K) fIn := by
  intro Z H x y a b Q0 Q ha hb h k
  unfold fIn at h
  split at h
  · obtain ⟨c1, c2, h⟩ := h
    exact .inl ⟨a, _, rd_dp ha (okD_lay c1), rd_dp hb (okD_lay c2), okD_shaped c1, okD_shaped c2, k _ _ _ h (.old (.bl _))⟩
  · obtain ⟨c1, c2, h⟩ := h
    exact .inr ⟨a, _, rd_dp ha (okD_lay c1), rd_dp hb (okD_lay c2), c1, c2, k _ _ _ h (.old (.bl _))⟩
  · exact h.elim
theorem sp_notIn {K : PySem.W.Frag} : OpSpec (rNotInV K) fNotIn := by
  intro Z H x y a b Q0 Q ha hb h k
  unfold fNotIn at h
  split at h
  · obtain ⟨c1, c2, h⟩ := h
    exact .inl ⟨a, _, rd_dp ha (okD_lay c1), rd_dp hb (okD_lay c2), okD_shaped c1, okD_shaped c2, k _ _ _ h (.old (.bl _))⟩
  · obtain ⟨c1, c2, h⟩ := h
    exact .inr ⟨a, _, rd_dp ha (okD_lay c1), rd_dp hb (okD_lay c2), c1, c2, k _ _ _ h (.old (.bl _))⟩
  · exact h.elim
theorem RpL.atI {Z : ZS} {H : Hp} {vs : List V} {ds : List D} {i : Int} {d : D} (l : RpL Z H vs ds) (h : atI ds i = some d) : ∃ v, L2.atI vs i = some v ∧ Rp Z H v d := by
  unfold L2.atI at h
  obtain ⟨j, hj, h⟩ := Option.bind_eq_some_iff.mp h
  obtain ⟨v, h1, h2⟩ := l.get h
  refine ⟨v, ?_, h2⟩
  unfold L2.atI
  rw [l.length, hj]
  exact h1
def rIxV (K : PySem.W.Frag) : R2 := fun x y H Q => rIxL K x y H Q ∨ rIxT K x y H Q
theorem ix_v : IxR X (rIxV X.K) := ix_list.or ix_tup
theorem sp_ix {K : PySem.W.Frag} : OpSpec (rIxV K) fIx := by
  intro Z H x y a b Q0 Q ha hb h k
  unfold fIx at h
  split at h
  · obtain ⟨p, vs, rfl, hp, l⟩ := rd_list ha
    rw [rd_int hb]
    obtain ⟨d, e, h⟩ := onS_some h
    obtain ⟨v, e', r⟩ := l.atI e
    exact .inl ⟨p, vs, _, v, rfl, rfl, SqL.of hp, e', k _ _ _ h (.old r)⟩
  · obtain ⟨p, vs, rfl, zp, hp, l⟩ := rd_tuple ha
    rw [rd_int hb]
    obtain ⟨d, e, h⟩ := onS_some h
    obtain ⟨v, e', r⟩ := l.atI e
    exact .inr ⟨p, vs, _, v, rfl, rfl, SqT.of hp, e', k _ _ _ h (.old r)⟩
  · exact h.elim
/-! one operand -/
def fNeg : F1 := fun a Q => match a with
  | .int i => Q (.val (.int (-i)))
  | _ => False
theorem sp_neg : UnSpec (rU fun i => .int (-i)) fNeg := by
  intro Z H x a Q0 Q ha h k
  unfold fNeg at h
  split at h
  · rw [rd_int ha]
    exact ⟨_, rfl, k _ _ _ h (.old (.int _))⟩
  · exact h.elim

/-! built-ins -/
theorem rdl1 {Z : ZS} {H : Hp} {xs : List V} {a : D} (h : RdL Z H xs [a]) : ∃ x, xs = [x] ∧ Rd' Z H x a := by
  cases h with
  | cons r l => cases l; exact ⟨_, rfl, r⟩
theorem rdl2 {Z : ZS} {H : Hp} {xs : List V} {a b : D} (h : RdL Z H xs [a, b]) : ∃ x y, xs = [x, y] ∧ Rd' Z H x a ∧ Rd' Z H y b := by
  cases h with
  | cons r l => cases l with
    | cons r' l => cases l; exact ⟨_, _, rfl, r, r'⟩
def cLen : FL := fun as Q => match as with
  | [.list xs] => Q (.val (.int xs.length))
  | [.tuple xs] => Q (.val (.int xs.length))
  | _ => False
theorem sp_len {K : PySem.W.Frag} : CSpec (fun xs H Q => ∃ p ys, xs = [.ref p] ∧ (SqL K H p ys ∨ SqT K H p ys) ∧ Q (.int ys.length) H) cLen := by
  intro Z H xs as Q0 Q ha h k
  unfold cLen at h
  split at h
  · obtain ⟨x, rfl, r⟩ := rdl1 ha
    obtain ⟨p, vs, rfl, hp, l⟩ := rd_list r
    exact ⟨p, vs, rfl, .inl (SqL.of hp), by rw [l.length]; exact k _ _ _ h (.old (.int _))⟩
  · obtain ⟨x, rfl, r⟩ := rdl1 ha
    obtain ⟨p, vs, rfl, _, hp, l⟩ := rd_tuple r
    exact ⟨p, vs, rfl, .inr (SqT.of hp), by rw [l.length]; exact k _ _ _ h (.old (.int _))⟩
  · exact h.elim
def cAbs : FL := fun as Q => match as with
  | [.int i] => Q (.val (.int (if i < 0 then -i else i)))
  | _ => False
theorem sp_abs : CSpec (fun xs H Q => ∃ i, xs = [.int i] ∧ Q (.int (if i < 0 then -i else i)) H) cAbs := by
  intro Z H xs as Q0 Q ha h k
  unfold cAbs at h
  split at h
  · obtain ⟨x, rfl, r⟩ := rdl1 ha
    rw [rd_int r]
    exact ⟨_, rfl, k _ _ _ h (.old (.int _))⟩
  · exact h.elim
def cInt : FL := fun as Q => match as with
  | [.int i] => Q (.val (.int i))
  | [.bool b] => Q (.val (.int (if b then 1 else 0)))
  | _ => False
theorem sp_int : CSpec (fun xs H Q => (∃ i, xs = [.int i] ∧ Q (.int i) H) ∨ ∃ k, xs = [.bl k] ∧ Q (.int (if k then 1 else 0)) H) cInt := by
  intro Z H xs as Q0 Q ha h k
  unfold cInt at h
  split at h
  · obtain ⟨x, rfl, r⟩ := rdl1 ha
    rw [rd_int r]
    exact .inl ⟨_, rfl, k _ _ _ h (.old (.int _))⟩
  · obtain ⟨x, rfl, r⟩ := rdl1 ha
    rw [rd_bool r]
    exact .inr ⟨_, rfl, k _ _ _ h (.old (.int _))⟩
  · exact h.elim
def cList : FL := fun as Q => match as with
  | [.list xs] => Q (.new (.list xs))
  | [.tuple xs] => Q (.new (.list xs))
  | _ => False
theorem sp_list {K : PySem.W.Frag} : CSpec (fun xs H Q => ∃ p ys, xs = [.ref p] ∧ (SqL K H p ys ∨ SqT K H p ys) ∧ ∀ l, H l = none → Q (.ref l) (upd H l (.lst ys))) cList := by
  intro Z H xs as Q0 Q ha h k
  unfold cList at h
  split at h
  · obtain ⟨x, rfl, r⟩ := rdl1 ha
    obtain ⟨p, vs, rfl, hp, l⟩ := rd_list r
    exact ⟨p, vs, rfl, .inl (SqL.of hp), fun q hq => k _ _ _ h (.lst hq l)⟩
  · obtain ⟨x, rfl, r⟩ := rdl1 ha
    obtain ⟨p, vs, rfl, _, hp, l⟩ := rd_tuple r
    exact ⟨p, vs, rfl, .inr (SqT.of hp), fun q hq => k _ _ _ h (.lst hq l)⟩
  · exact h.elim
def cTuple : FL := fun as Q => match as with
  | [.list xs] => Q (.val (.tuple xs))
  | [.tuple xs] => Q (.val (.tuple xs))
  | _ => False
theorem sp_tuple {K : PySem.W.Frag} : CSpec (fun xs H Q => ∃ p ys, xs = [.ref p] ∧ ((SqL K H p ys ∧ ∀ l, H l = none → Q (.ref l) (upd H l (.tup ys))) ∨ (SqT K H p ys ∧ Q (.ref p) H))) cTuple := by
  intro Z H xs as Q0 Q ha h k
  unfold cTuple at h
  split at h
  · obtain ⟨x, rfl, r⟩ := rdl1 ha
    obtain ⟨p, vs, rfl, hp, l⟩ := rd_list r
    exact ⟨p, vs, rfl, .inl ⟨SqL.of hp, fun q hq => k _ _ _ h (.tup hq l)⟩⟩
  · obtain ⟨x, rfl, r⟩ := rdl1 ha
    obtain ⟨p, vs, rfl, zp, hp, l⟩ := rd_tuple r
    exact ⟨p, vs, rfl, .inr ⟨SqT.of hp, k _ _ _ h (.old (.tup zp hp l))⟩⟩
  · exact h.elim
def intsOf : List D → Option (List Int)
  | [] => some []
  | .int i :: r => (intsOf r).map (i :: ·)
  | _ :: _ => none
theorem intsOf_map : ∀ {ds : List D} {ns : List Int}, intsOf ds = some ns → ds = ns.map PyData.int
  | [], ns, e => by cases e; rfl
  | d :: r, ns, e => by
    cases d with
    | int i =>
      simp only [intsOf, Option.map_eq_some_iff] at e
      obtain ⟨m, e1, rfl⟩ := e
      rw [intsOf_map e1]; rfl
    | _ => simp [intsOf] at e
def boolsOf : List D → Option (List Bool)
  | [] => some []
  | .bool i :: r => (boolsOf r).map (i :: ·)
  | _ :: _ => none
theorem boolsOf_map : ∀ {ds : List D} {ns : List Bool}, boolsOf ds = some ns → ds = ns.map PyData.bool
  | [], ns, e => by cases e; rfl
  | d :: r, ns, e => by
    cases d with
    | bool i =>
      simp only [boolsOf, Option.map_eq_some_iff] at e
      obtain ⟨m, e1, rfl⟩ := e
      rw [boolsOf_map e1]; rfl
    | _ => simp [boolsOf] at e
def cSum : FL := fun as Q => match as with
  | [.list xs] => onS (intsOf xs) fun ns => Q (.val (.int ns.sum))
  | _ => False
theorem sp_sum {K : PySem.W.Frag} : CSpec (rSum K) cSum := by
  intro Z H xs as Q0 Q ha h k
  unfold cSum at h
  split at h
  · obtain ⟨ns, e, h⟩ := onS_some h
    obtain ⟨x, rfl, r⟩ := rdl1 ha
    obtain ⟨p, vs, rfl, hp, l⟩ := rd_list r
    rw [intsOf_map e] at l
    have e2 := l.ints
    subst e2
    exact ⟨p, ns, rfl, SqL.of hp, k _ _ _ h (.old (.int _))⟩
  · exact h.elim
def cAny : FL := fun as Q => match as with
  | [.list xs] => onS (boolsOf xs) fun ns => Q (.val (.bool (ns.any id)))
  | _ => False
def cAll : FL := fun as Q => match as with
  | [.list xs] => onS (boolsOf xs) fun ns => Q (.val (.bool (ns.all id)))
  | _ => False
theorem sp_any {K : PySem.W.Frag} : CSpec (rAny K) cAny := by
  intro Z H xs as Q0 Q ha h k
  unfold cAny at h
  split at h
  · obtain ⟨ns, e, h⟩ := onS_some h
    obtain ⟨x, rfl, r⟩ := rdl1 ha
    obtain ⟨p, vs, rfl, hp, l⟩ := rd_list r
    rw [boolsOf_map e] at l
    have e2 := l.bools
    subst e2
    exact ⟨p, ns, rfl, SqL.of hp, k _ _ _ h (.old (.bl _))⟩
  · exact h.elim
theorem sp_all {K : PySem.W.Frag} : CSpec (rAll K) cAll := by
  intro Z H xs as Q0 Q ha h k
  unfold cAll at h
  split at h
  · obtain ⟨ns, e, h⟩ := onS_some h
    obtain ⟨x, rfl, r⟩ := rdl1 ha
    obtain ⟨p, vs, rfl, hp, l⟩ := rd_list r
    rw [boolsOf_map e] at l
    have e2 := l.bools
    subst e2
    exact ⟨p, ns, rfl, SqL.of hp, k _ _ _ h (.old (.bl _))⟩
  · exact h.elim
end
end VL

namespace VL
open PySem PySem.Spec PyProof.Rows L2
section
variable {X : Cx}
theorem dpAll_at {K : PySem.W.Frag} {H : Hp} : ∀ {vs : List V} {ds : List D} {i : Nat} {v : V}, DpAll K H vs ds → vs[i]? = some v → ∃ d, ds[i]? = some d ∧ Dp K H v d
  | _, _, _, _, .nil, e => by simp at e
  | _, _, 0, _, .cons r _, e => by simp at e; subst e; exact ⟨_, rfl, r⟩
  | _, _, i + 1, _, .cons _ l, e => by
    obtain ⟨v, h1, h2⟩ := dpAll_at (i := i) l (by simpa using e)
    exact ⟨v, by simpa using h1, h2⟩
theorem Vals.getU : ∀ {xs : List V} {us : List Value} {i : Nat} {u : Value}, Vals xs us → us[i]? = some u → ∃ x, xs[i]? = some x ∧ RelV x u
  | _, _, _, _, .nil, e => by simp at e
  | _, _, 0, _, .cons r _, e => by simp at e; subst e; exact ⟨_, rfl, r⟩
  | _, _, i + 1, x, .cons _ t, e => by
    obtain ⟨u, h1, h2⟩ := Vals.getU (i := i) t (by simpa using e)
    exact ⟨u, by simpa using h1, h2⟩
/-- the least, the greatest of a list or tuple -/
def rBest (K : PySem.W.Frag) (f : D → List D → D) : List V → Hp → VK → Prop := fun xs H Q => ∃ a vs x ds, xs = [V.ref a] ∧ (SqL K H a vs ∨ SqT K H a vs) ∧ DpAll K H vs (x :: ds) ∧ PySem.W.AlikeAll (x :: ds) ∧ okD (.list (x :: ds)) = true ∧
  ∀ (i : Nat) (v : V), vs[i]? = some v → (x :: ds)[i]? = some (f x ds) → Q v H
theorem depth_list {ds : List D} (h : okD (.list ds) = true) : PyData.depthAll ds ≤ 60 := by
  have := okD_depth h
  simp only [PyData.depth] at this
  omega
theorem best_fin {pins : List (Addr × Obj)} {σ : L2.St} {H : Hp} {s : Shared} {Q : VK} {its : List Value} {vs : List V} {ds : List D} {as bs : List Addr} {i : Nat} {u : Value} {d : D} {h' : Heap} {tk : Nat} (I : Inv X pins σ H s) (rv : Vals vs its)
    (ra : ReadsAll s.heap its ds as) (hi : its[i]? = some u) (r : Reads h' u d bs) (k : ∀ b o, s.heap.get? b = some o → h'.get? b = some o) (q : ∀ (i : Nat) (v : V), vs[i]? = some v → ds[i]? = some d → Q v H) : EP X pins σ Q u { s with heap := h', toks := tk } := by
  obtain ⟨v, hv, rl⟩ := Vals.getU rv hi
  obtain ⟨cs, r2, hlt, _, _⟩ := PySem.W.readsAll_at ra i u hi
  have e := (PyProof.Rows.reads_det (fun _ _ e _ => e) r (PyProof.Rows.Reads.keeps k r2)).1
  have hd : ds[i]? = some d := by
    rw [List.getElem?_eq_getElem hlt]
    rw [List.getD_eq_getElem?_getD, List.getElem?_eq_getElem hlt] at e
    exact congrArg some e
  exact ⟨v, H, I.kept k, rl, q i v hv hd⟩
theorem cr_minD (m : Rm X) : CallR X (.builtin "min") (rBest X.K PySem.W.minD) := by
  intro pins s σ H xs us Q I r h
  obtain ⟨a, vs, x, ds, rfl, hs, dp, al, ok, q⟩ := h
  rw [Vals.ref1 r]
  have := depth_list ok
  have := m.un
  rcases hs with hs | hs
  · obtain ⟨its, rv, hl, _⟩ := I.list hs
    obtain ⟨as, ra⟩ := Dp.readsAll I _ _ _ dp rv
    exact PySem.W.min_list_data (I.ok.hd m.calm) hl.isList (by simpa using ra) al (by omega) fun i v h' tk bs hi r k => best_fin I rv ra (by simpa using hi) r k q
  · obtain ⟨its, rv, hl, _⟩ := I.tuple hs
    obtain ⟨as, ra⟩ := Dp.readsAll I _ _ _ dp rv
    exact PySem.W.min_tuple_data (I.ok.hd m.calm) hl (by simpa using ra) al (by omega) fun i v h' tk bs hi r k => best_fin I rv ra (by simpa using hi) r k q
theorem cr_maxD (m : Rm X) : CallR X (.builtin "max") (rBest X.K PySem.W.maxD) := by
  intro pins s σ H xs us Q I r h
  obtain ⟨a, vs, x, ds, rfl, hs, dp, al, ok, q⟩ := h
  rw [Vals.ref1 r]
  have := depth_list ok
  have := m.un
  rcases hs with hs | hs
  · obtain ⟨its, rv, hl, _⟩ := I.list hs
    obtain ⟨as, ra⟩ := Dp.readsAll I _ _ _ dp rv
    exact PySem.W.max_list_data (I.ok.hd m.calm) hl.isList (by simpa using ra) al (by omega) fun i v h' tk bs hi r k => best_fin I rv ra (by simpa using hi) r k q
  · obtain ⟨its, rv, hl, _⟩ := I.tuple hs
    obtain ⟨as, ra⟩ := Dp.readsAll I _ _ _ dp rv
    exact PySem.W.max_tuple_data (I.ok.hd m.calm) hl (by simpa using ra) al (by omega) fun i v h' tk bs hi r k => best_fin I rv ra (by simpa using hi) r k q
def bestW (f : D → List D → D) (xs : List D) (Q : Rs → Prop) : Prop := match xs with
  | [] => False
  | x :: ds => PySem.W.AlikeAll (x :: ds) ∧ okD (.list (x :: ds)) = true ∧ Q (.val (f x ds))
def cMin : FL := fun as Q => match as with
  | [.int i, .int j] => Q (.val (.int (if j < i then j else i)))
  | [.list xs] => bestW PySem.W.minD xs Q
  | [.tuple xs] => bestW PySem.W.minD xs Q
  | _ => False
def cMax : FL := fun as Q => match as with
  | [.int i, .int j] => Q (.val (.int (if j > i then j else i)))
  | [.list xs] => bestW PySem.W.maxD xs Q
  | [.tuple xs] => bestW PySem.W.maxD xs Q
  | _ => False
theorem okD_list {ds : List D} (h : okD (.list ds) = true) : PyData.canLayAll0 ds = true := by
  simpa [PyData.canLay0] using okD_lay h
theorem sp_best {K : PySem.W.Frag} {f : D → List D → D} {Z : ZS} {H : Hp} {a : Addr} {vs : List V} {xs : List D} {Q0 : Rs → Prop} {Q : VK} (hs : SqL K H a vs ∨ SqT K H a vs) (l : RpL Z H vs xs) (h : bestW f xs Q0) (k : ∀ rs v H', Q0 rs → Made Z H v rs H' → Q v H') : rBest K f [V.ref a] H Q := by
  unfold bestW at h
  split at h
  · exact h.elim
  · rename_i x ds
    obtain ⟨al, ok, h⟩ := h
    refine ⟨a, vs, x, ds, rfl, hs, l.dp (okD_list ok), al, ok, fun i v hv hd => ?_⟩
    obtain ⟨w, hw, r⟩ := l.get hd
    have e : v = w := Option.some.inj (hv.symm.trans hw)
    rw [e]
    exact k _ _ _ h (.old r)
theorem sp_min {K : PySem.W.Frag} : CSpec (fun xs H Q => (∃ i j, xs = [.int i, .int j] ∧ Q (.int (if j < i then j else i)) H) ∨ rBest K PySem.W.minD xs H Q) cMin := by
  intro Z H xs as Q0 Q ha h k
  unfold cMin at h
  split at h
  · obtain ⟨x, y, rfl, r1, r2⟩ := rdl2 ha
    rw [rd_int r1, rd_int r2]
    exact .inl ⟨_, _, rfl, k _ _ _ h (.old (.int _))⟩
  · obtain ⟨x, rfl, r⟩ := rdl1 ha
    obtain ⟨p, vs, rfl, hp, l⟩ := rd_list r
    exact .inr (sp_best (.inl (SqL.of hp)) l h k)
  · obtain ⟨x, rfl, r⟩ := rdl1 ha
    obtain ⟨p, vs, rfl, _, hp, l⟩ := rd_tuple r
    exact .inr (sp_best (.inr (SqT.of hp)) l h k)
  · exact h.elim
theorem sp_max {K : PySem.W.Frag} : CSpec (fun xs H Q => (∃ i j, xs = [.int i, .int j] ∧ Q (.int (if j > i then j else i)) H) ∨ rBest K PySem.W.maxD xs H Q) cMax := by
  intro Z H xs as Q0 Q ha h k
  unfold cMax at h
  split at h
  · obtain ⟨x, y, rfl, r1, r2⟩ := rdl2 ha
    rw [rd_int r1, rd_int r2]
    exact .inl ⟨_, _, rfl, k _ _ _ h (.old (.int _))⟩
  · obtain ⟨x, rfl, r⟩ := rdl1 ha
    obtain ⟨p, vs, rfl, hp, l⟩ := rd_list r
    exact .inr (sp_best (.inl (SqL.of hp)) l h k)
  · obtain ⟨x, rfl, r⟩ := rdl1 ha
    obtain ⟨p, vs, rfl, _, hp, l⟩ := rd_tuple r
    exact .inr (sp_best (.inr (SqT.of hp)) l h k)
  · exact h.elim
/-! sorted -/
theorem each_rpl {Z : ZS} {H : Hp} : ∀ {vs : List V} {ds : List D}, PySem.W.EachIs (Rp Z H) vs ds → RpL Z H vs ds
  | _, _, .nil => .nil
  | _, _, .cons r l => .cons r (each_rpl l)
theorem rpl_each {Z : ZS} {H : Hp} : ∀ {vs : List V} {ds : List D}, RpL Z H vs ds → PySem.W.EachIs (Rp Z H) vs ds
  | _, _, .nil => .nil
  | _, _, .cons r l => .cons r (rpl_each l)
def sortD (ds : List D) : List D := ds.mergeSort (PySem.W.dataLe false id)
def rSortD (K : PySem.W.Frag) : List V → Hp → VK → Prop := fun xs H Q => ∃ (Rel : V → D → Prop) (a : Addr) (vs : List V) (ds : List D), xs = [V.ref a] ∧ SqL K H a vs ∧ DpAll K H vs ds ∧ PySem.W.EachIs Rel vs ds ∧ PySem.W.AllAlike ds ∧ PySem.W.Sortable ds ∧ okD (.list ds) = true ∧
  ∀ p ws, H p = none → PySem.W.EachIs Rel ws (sortD ds) → Q (.ref p) (upd H p (.lst ws))
theorem each_vals {Rel : V → D → Prop} : ∀ {vs : List V} {us : List Value} {ds : List D}, Vals vs us → PySem.W.EachIs Rel vs ds → PySem.W.EachIs (fun u d => ∃ v, RelV v u ∧ Rel v d) us ds
  | _, _, _, .nil, .nil => .nil
  | _, _, _, .cons r l, .cons q t => .cons ⟨_, r, q⟩ (each_vals l t)
theorem each_split {Rel : V → D → Prop} : ∀ {us : List Value} {ds : List D}, PySem.W.EachIs (fun u d => ∃ v, RelV v u ∧ Rel v d) us ds → ∃ ws, Vals ws us ∧ PySem.W.EachIs Rel ws ds
  | _, _, .nil => ⟨[], .nil, .nil⟩
  | _, _, .cons ⟨v, r, q⟩ t => by
    obtain ⟨ws, h1, h2⟩ := each_split t
    exact ⟨v :: ws, .cons r h1, .cons q h2⟩
theorem depth_mem {ds : List D} {d : D} (h : d ∈ ds) : d.depth ≤ PyData.depthAll ds := by
  induction ds with
  | nil => cases h
  | cons x r ih =>
    simp only [PyData.depthAll]
    rcases List.mem_cons.mp h with e | h
    · subst e; omega
    · have := ih h; omega
theorem cr_sortD (m : Rm X) : CallR X (.builtin "sorted") (rSortD X.K) := by
  intro pins s σ H xs us Q I r h
  obtain ⟨Rel, a, vs, ds, rfl, hs, dp, ea, al, so, ok, q⟩ := h
  rw [Vals.ref1 r]
  have hd := depth_list ok
  have := m.un
  obtain ⟨its, rv, hl, hz⟩ := I.list hs
  obtain ⟨as, ra⟩ := Dp.readsAll I _ _ _ dp rv
  have ra' : ReadsAll s.heap its (ds.map id) as := by rw [List.map_id]; exact ra
  have hle : ds.length = vs.length := by
    have : ∀ {vs : List V} {ds : List D}, DpAll X.K H vs ds → ds.length = vs.length := by
      intro vs ds h
      induction ds generalizing vs with
      | nil => cases h; rfl
      | cons d r ih => cases h with
        | cons _ l => simp [ih l]
    exact this dp
  refine PySem.W.sorted_data (vs := its) (bs := ds) (enc := id) hl.isList (each_vals rv ea) (PySem.W.readsAll_each id ra') (by rw [List.map_id]; exact al) (by rw [List.map_id]; exact so) (by rw [hle]; exact hz) (fun b hb => ?_) fun out hlo e => ?_
  · have := depth_mem hb
    show X.A.units + 2 + b.depth < cLine
    omega
  · obtain ⟨ws, v2, e2⟩ := each_split e
    obtain ⟨ep, he'⟩ := PyProof.Rows.sortedAll_at s.heap its out.toArray
    have hlen : ws.length ≤ sizeLine := by
      rw [v2.length, hlo, hle]; exact hz
    exact ⟨.ref _, upd H (s.heap.objs.size + 1) (.lst ws), I.laid (t' := s.toks) (fun _ _ => PyProof.Rows.sortedAll_old) (Nat.le_succ _) ⟨hlen, out, ep, v2, he'⟩, rfl, q _ _ (I.hok.fresh (Nat.le_succ _)) e2⟩
def cSorted : FL := fun as Q => match as with
  | [.list ds] => PySem.W.AllAlike ds ∧ PySem.W.Sortable ds ∧ okD (.list ds) = true ∧ Q (.new (.list (sortD ds)))
  | _ => False
theorem sp_sorted {K : PySem.W.Frag} : CSpec (rSortD K) cSorted := by
  intro Z H xs as Q0 Q ha h k
  unfold cSorted at h
  split at h
  · obtain ⟨al, so, ok, h⟩ := h
    obtain ⟨x, rfl, r⟩ := rdl1 ha
    obtain ⟨p, vs, rfl, hp, l⟩ := rd_list r
    exact ⟨Rp Z H, p, vs, _, rfl, SqL.of hp, l.dp (okD_list ok), rpl_each l, al, so, ok, fun q ws hq e => k _ _ _ h (.lst hq (each_rpl e))⟩
  · exact h.elim
/-! repr -/
def okR (d : D) : Prop := okD d = true ∧ d.showable = true ∧ d.shown.length ≤ sizeLine
def rRepr (K : PySem.W.Frag) : List V → Hp → VK → Prop := fun xs H Q => ∃ x d, xs = [x] ∧ Dp K H x d ∧ okR d ∧ Q (.str d.shown) H
theorem cr_repr (m : Rm X) : CallR X (.builtin "repr") (rRepr X.K) := by
  intro pins s σ H xs us Q I r h
  obtain ⟨x, d, rfl, dp, ⟨ok, sh, sz⟩, q⟩ := h
  obtain ⟨u, rfl, ru⟩ := Vals.one r
  obtain ⟨as, ra⟩ := Dp.reads I d x u dp ru
  have hd := okD_depth ok
  have := m.un
  have nd := PyData.hasDict_of_canLay d (okD_lay ok)
  cases ra with
  | none => exact PySem.P.repr_of_none ⟨.str _, H, I.tok _, ⟨_, rfl⟩, q⟩
  | bool b => exact PySem.P.repr_of_bool ⟨.str _, H, I.tok _, ⟨_, rfl⟩, q⟩
  | int i t => exact PySem.P.repr_of_int (by simpa [PyData.showable] using sh) ⟨.str _, H, I.tok _, ⟨_, rfl⟩, q⟩
  | str y t => exact PySem.P.repr_of_str ⟨.str _, H, I.tok _, ⟨_, rfl⟩, q⟩ sz
  | list h1 h2 h3 h4 => exact repr_of_reads' (.list h1 h2 h3 h4) sh (PyData.noDict_hsm nd) m.gd (by omega) (fun _ _ e => e) (fun h' u tk k => ⟨.str _, H, I.kept k, ⟨_, rfl⟩, q⟩) sz
  | tuple h1 h2 h3 h4 => exact repr_of_reads' (.tuple h1 h2 h3 h4) sh (PyData.noDict_hsm nd) m.gd (by omega) (fun _ _ e => e) (fun h' u tk k => ⟨.str _, H, I.kept k, ⟨_, rfl⟩, q⟩) sz
  | dict h1 h2 h3 h4 h5 => exact absurd (okD_lay ok) (by simp [PyData.canLay0])
def cRepr : FL := fun as Q => match as with
  | [d] => okR d ∧ Q (.val (.str d.shown))
  | _ => False
theorem sp_repr {K : PySem.W.Frag} : CSpec (rRepr K) cRepr := by
  intro Z H xs as Q0 Q ha h k
  unfold cRepr at h
  split at h
  · obtain ⟨x, rfl, r⟩ := rdl1 ha
    exact ⟨x, _, rfl, rd_dp r (okD_lay h.1.1), h.1, k _ _ _ h.2 (.old (.str _))⟩
  · exact h.elim
/-! isinstance -/
inductive Ty where
  | tuple | list | int | bool | str | dict
def Ty.nm : Ty → String
  | .tuple => "tuple" | .list => "list" | .int => "int" | .bool => "bool" | .str => "str" | .dict => "dict"
def Ty.is : Ty → D → Bool
  | .tuple, d => d.isTuple | .list, d => d.isList | .int, d => d.isInt | .bool, d => d.isBool | .str, d => d.isStr | .dict, d => d.isDict
def rIsa (K : PySem.W.Frag) (t : Ty) : List V → Hp → VK → Prop := fun xs H Q => ∃ x d, xs = [x, .ty t.nm] ∧ Dp K H x d ∧ Q (.bl (t.is d)) H
theorem cr_isa {t : Ty} : CallR X (.builtin "isinstance") (rIsa X.K t) := by
  intro pins s σ H xs us Q I r h
  obtain ⟨x, d, rfl, dp, q⟩ := h
  obtain ⟨u, v, rfl, ru, rv⟩ := Vals.two r
  have e : v = .type t.nm := rv
  subst e
  obtain ⟨as, ra⟩ := Dp.reads I d x u dp ru
  cases t with
  | tuple => exact PySem.W.isinstance_tuple_data ra fun tk _ => ⟨.bl _, H, I.tok _, rfl, q⟩
  | list => exact PySem.W.isinstance_list_data ra fun tk _ => ⟨.bl _, H, I.tok _, rfl, q⟩
  | int => exact PySem.W.isinstance_int_data ra fun tk _ => ⟨.bl _, H, I.tok _, rfl, q⟩
  | bool => exact PySem.W.isinstance_bool_data ra fun tk _ => ⟨.bl _, H, I.tok _, rfl, q⟩
  | str => exact PySem.W.isinstance_str_data ra fun tk _ => ⟨.bl _, H, I.tok _, rfl, q⟩
  | dict => exact PySem.W.isinstance_dict_data ra fun tk _ => ⟨.bl _, H, I.tok _, rfl, q⟩
def fIsa (t : Ty) : F1 := fun d Q => d.canLay0 = true ∧ Q (.val (.bool (t.is d)))
theorem tV_isa {t : Ty} {w : WE} {σ : L2.St} {H : Hp} {Q : VK} {K : PySem.W.Frag} (h : tV (wOp1 (fIsa t) w) σ H Q) : tCB (rIsa K t) (tCons (tV w) (tCons (tC (.ty t.nm)) tNil)) σ H Q := by
  have := tV_op1 (r := fun x H Q => rIsa K t [x, .ty t.nm] H Q) (fun Z H x a Q0 Q ha h k => ⟨x, a, rfl, rd_dp ha h.1, k _ _ _ h.2 (.old (.bl _))⟩) h
  exact this
/-! gcd -/
def cGcd : FL := fun as Q => match as with
  | [.int a, .int b] => Q (.val (.int ((Nat.gcd a.natAbs b.natAbs : Nat) : Int)))
  | _ => False
theorem sp_gcd : CSpec rGcd cGcd := by
  intro Z H xs as Q0 Q ha h k
  unfold cGcd at h
  split at h
  · obtain ⟨x, y, rfl, r1, r2⟩ := rdl2 ha
    rw [rd_int r1, rd_int r2]
    exact ⟨_, _, rfl, k _ _ _ h (.old (.int _))⟩
  · exact h.elim
end

/-! ### slices -/
abbrev WO := VE → (Option Int → VE → Prop) → Prop
def tVO (w : WO) : TO := fun σ H Q => ∃ F Z env Q0, Cf F Z env σ H ∧ w env Q0 ∧ ∀ o env', Q0 o env' → ∀ Z' H', Ext Z H Z' H' → Cf F Z' env' σ H' → Q o H'
def woNone : WO := fun env Q => Q none env
def woSome (w : WE) : WO := fun env Q => w env fun r e => match opd e r with
  | some (.int i) => Q (some i) e
  | _ => False
theorem tVO_none {σ : L2.St} {H : Hp} {Q : Option Int → Hp → Prop} (h : tVO woNone σ H Q) : tNoPart σ H Q := by
  obtain ⟨F, Z, env, Q0, c, h, k⟩ := h
  exact k _ _ h Z H (.refl Z H) c
theorem tVO_some {w : WE} {σ : L2.St} {H : Hp} {Q : Option Int → Hp → Prop} (h : tVO (woSome w) σ H Q) : tPart (tV w) σ H Q := by
  obtain ⟨F, Z, env, Q0, c, h, k⟩ := h
  refine ⟨F, Z, env, _, c, h, fun r1 e1 q1 Z1 x H1 x1 c1 rr1 => ?_⟩
  obtain ⟨Z1', x1', c1', hd1⟩ := rr1.hold c1
  split at q1
  · rename_i i e
    have p1 := hd1.opd c1' (by rw [opd_hold]; exact e)
    exact ⟨i, rd_int p1, k _ _ q1 Z1' H1 (x1.trans x1') c1'⟩
  · exact q1.elim
def cutD (ds : List D) (lo hi : Option Int) : List D := (ds.drop (HT.sIx ds.length 0 lo)).take (HT.sIx ds.length ds.length hi - HT.sIx ds.length 0 lo)
def fSl (d : D) (lo hi : Option Int) (Q : Rs → Prop) : Prop := match d with
  | .list ds => Q (.new (.list (cutD ds lo hi)))
  | .tuple ds => Q (.val (.tuple (cutD ds lo hi)))
  | _ => False
def wSl (w : WE) (l u : WO) : WE := fun env Q => w env fun r e1 => l e1 fun lo e2 => u e2 fun hi e3 => onS (opd e3 r) fun d => fSl d lo hi fun r => Q r e3
def rSlV (K : PySem.W.Frag) : V → Option Int → Option Int → Hp → VK → Prop := fun x lo hi H Q => rSlL K x lo hi H Q ∨ rSlA K x lo hi H Q
theorem sl_v {X : Cx} : SlR X (rSlV X.K) := sl_list.or sl_tupA
theorem RpL.cut {Z : ZS} {H : Hp} {vs : List V} {ds : List D} (l : RpL Z H vs ds) (lo hi : Option Int) : RpL Z H (cutV vs lo hi) (cutD ds lo hi) := by
  unfold cutV cutD
  rw [l.length]
  exact (l.drop _).take _
theorem tV_sl {K : PySem.W.Frag} {w : WE} {l u : WO} {σ : L2.St} {H : Hp} {Q : VK} (h : tV (wSl w l u) σ H Q) : tSl (rSlV K) (tV w) (tVO l) (tVO u) σ H Q := by
  obtain ⟨F, Z, env, Q0, c, h, k⟩ := h
  refine ⟨F, Z, env, _, c, h, fun r1 e1 q1 Z1 x H1 x1 c1 rr1 => ?_⟩
  obtain ⟨Z1', x1', c1', hd1⟩ := rr1.hold c1
  refine ⟨F, Z1', e1, _, c1', q1, fun lo e2 q2 Z2 H2 x2 c2 => ?_⟩
  refine ⟨F, Z2, e2, _, c2, q2, fun hi e3 q3 Z3 H3 x3 c3 => ?_⟩
  obtain ⟨d, o, q3⟩ := onS_some q3
  have p := ((hd1.ext x2).ext x3).opd c3 (by rw [opd_hold]; exact o)
  have fin : ∀ {rs v H'}, Q0 rs e3 → Made Z3 H3 v rs H' → Q v H' := fun {rs v H'} q m => by
    obtain ⟨Z4, x4, c4, rr4⟩ := m.cf c3
    exact k _ _ q Z4 v H' ((((x1.trans x1').trans x2).trans x3).trans x4) c4 rr4
  unfold fSl at q3
  split at q3
  · obtain ⟨a, vs, rfl, hp, l⟩ := rd_list p
    exact .inl ⟨a, vs, rfl, SqL.of hp, fun q hq => fin q3 (.lst hq (l.cut lo hi))⟩
  · obtain ⟨a, vs, rfl, zp, hp, l⟩ := rd_tuple p
    refine .inr ⟨a, vs, rfl, SqT.of hp, fun e => ?_, fun e q hq => fin q3 (.tup hq (l.cut lo hi))⟩
    have ec := (l.cut lo hi)
    rw [l.length] at e
    refine fin q3 (.old ?_)
    unfold cutD
    rw [e.1, e.2, List.drop_zero, Nat.sub_zero, List.take_length]
    exact .tup zp hp l
  · exact q3.elim
/-- xs[::-1], a list -/
def fRev : F1 := fun d Q => match d with
  | .list ds => Q (.new (.list ds.reverse))
  | .tuple ds => Q (.val (.tuple ds.reverse))
  | _ => False
end VL

namespace VL
open PySem PySem.Spec PyProof.Rows L2

/-! ### stores -/
section
variable {F : Frm} {Z Z' : ZS} {env : VE} {σ : L2.St} {H H' : Hp} {a p : Addr} {v : V} {d d' : D} {o : HO}
theorem set_get {α : Type} {l : List α} {i j : Nat} {x y : α} (h : (l.set i x)[j]? = some y) : (i = j ∧ i < l.length ∧ y = x) ∨ (i ≠ j ∧ l[j]? = some y) := by
  by_cases hij : i = j
  · subst hij
    by_cases hi : i < l.length
    · rw [List.getElem?_set_self hi] at h
      cases h
      exact .inl ⟨rfl, hi, rfl⟩
    · rw [List.getElem?_eq_none (by simpa using hi)] at h
      cases h
  · rw [List.getElem?_set_ne hij] at h
    exact .inr ⟨hij, h⟩
/-- a slot's new content -/
theorem Cf.put (c : Cf F Z env σ H) (i : Nat) (s : Sl) (w : Option V)
    (h1 : ∀ d, s = .val d → ∃ v, w = some v ∧ Rp Z H v d)
    (h2 : ∀ d, s = .own d → ∃ a, w = some (.ref a) ∧ Ow Z H a d ∧ ¬ Z a ∧ F.H0 a = none ∧ a ≠ F.sa ∧ a ≠ F.ca ∧ ∀ (j : Nat) d', env[j]? = some (.own d') → σ[j]? ≠ some (some (.ref a)))
    (h3 : s = .src → w = some (.ref F.sa)) : Cf F Z (env.set i s) (σ.set i w) H where
  len := by simpa using c.len
  val := fun j e hj => by
    rcases set_get hj with ⟨rfl, hi, e'⟩ | ⟨ne, hj⟩
    · obtain ⟨v, q, r⟩ := h1 e e'.symm
      exact ⟨v, by rw [List.getElem?_set_self (by rw [c.len]; exact hi), q], r⟩
    · rw [List.getElem?_set_ne ne]; exact c.val j e hj
  own := fun j e hj => by
    rcases set_get hj with ⟨rfl, hi, e'⟩ | ⟨ne, hj⟩
    · obtain ⟨a, q, r, n1, n2, n3, n4, _⟩ := h2 e e'.symm
      exact ⟨a, by rw [List.getElem?_set_self (by rw [c.len]; exact hi), q], r, n1, n2, n3, n4⟩
    · rw [List.getElem?_set_ne ne]; exact c.own j e hj
  uniq := fun j k d1 d2 a hj hk qj qk => by
    rcases set_get hj with ⟨rfl, hi, e1⟩ | ⟨ne, hj⟩
    · rcases set_get hk with ⟨rfl, _, e2⟩ | ⟨ne2, hk⟩
      · rfl
      · obtain ⟨a', q, _, _, _, _, _, no⟩ := h2 d1 e1.symm
        rw [List.getElem?_set_self (by rw [c.len]; exact hi), q] at qj
        cases qj
        rw [List.getElem?_set_ne ne2] at qk
        exact absurd qk (no k _ hk)
    · rcases set_get hk with ⟨rfl, hi, e2⟩ | ⟨ne2, hk⟩
      · obtain ⟨a', q, _, _, _, _, _, no⟩ := h2 d2 e2.symm
        rw [List.getElem?_set_self (by rw [c.len]; exact hi), q] at qk
        cases qk
        rw [List.getElem?_set_ne ne] at qj
        exact absurd qj (no j _ hj)
      · rw [List.getElem?_set_ne ne] at qj
        rw [List.getElem?_set_ne ne2] at qk
        exact c.uniq j k _ _ a hj hk qj qk
  srcs := fun j hj => by
    rcases set_get hj with ⟨rfl, hi, e'⟩ | ⟨ne, hj⟩
    · rw [List.getElem?_set_self (by rw [c.len]; exact hi), h3 e'.symm]
    · rw [List.getElem?_set_ne ne]; exact c.srcs j hj
  srcH := c.srcH
  zs := c.zs
  zc := c.zc
  zdom := c.zdom
  zold := c.zold
  z0d := c.z0d
  pres := c.pres
theorem Cf.putVal (c : Cf F Z env σ H) (i : Nat) (r : Rp Z H v d) : Cf F Z (env.set i (.val d)) (σ.set i (some v)) H :=
  c.put i _ _ (fun _ e => by cases e; exact ⟨v, rfl, r⟩) (fun _ e => by cases e) (fun e => by cases e)
theorem Cf.putNew (c : Cf F Z env σ H) (i : Nat) (r : RpR F Z env σ H v (.new d)) : Cf F Z (env.set i (.own d)) (σ.set i (some v)) H := by
  obtain ⟨a, rfl, q⟩ := r
  exact c.put i _ _ (fun _ e => by cases e) (fun _ e => by cases e; exact ⟨a, rfl, q⟩) (fun e => by cases e)
theorem Cf.putSrc (c : Cf F Z env σ H) (i : Nat) : Cf F Z (env.set i .src) (σ.set i (some (.ref F.sa))) H :=
  c.put i _ _ (fun _ e => by cases e) (fun _ e => by cases e) (fun _ => rfl)
theorem Cf.putEmp (c : Cf F Z env σ H) (i : Nat) (w : Option V) : Cf F Z (env.set i .emp) (σ.set i w) H :=
  c.put i _ _ (fun _ e => by cases e) (fun _ e => by cases e) (fun e => by cases e)
/-- an owned object is changed -/
theorem Cf.mut (c : Cf F Z env σ H) {i : Nat} (h : env[i]? = some (.own d)) (hv : σ[i]? = some (some (.ref a))) (n : ∀ Z1 H1, Ext Z H Z1 H1 → H1 a = some o → Ow Z1 H1 a d') : Cf F Z (env.set i (.own d')) σ (upd H a o) ∧ Ext Z H Z (upd H a o) := by
  obtain ⟨b, q, ob, nz, h0, n1, n2⟩ := c.own i d h
  rw [hv] at q
  cases q
  have hi : i < env.length := (List.getElem?_eq_some_iff.mp h).1
  have e : Ext Z H Z (upd H a o) := ⟨fun _ h => h, fun b z => upd_ne (by rintro rfl; exact nz z)⟩
  refine ⟨⟨by simpa using c.len, fun j x hj => ?_, fun j x hj => ?_, fun j k d1 d2 b hj hk qj qk => ?_, fun j hj => ?_, ?_, c.zs, c.zc, fun b z => ?_, c.zold, c.z0d, fun b u q m1 m2 => ?_⟩, e⟩
  · rcases set_get hj with ⟨rfl, hi, e'⟩ | ⟨ne, hj⟩
    · cases e'
    · obtain ⟨w, q, r⟩ := c.val j x hj
      exact ⟨w, q, r.ext e⟩
  · rcases set_get hj with ⟨rfl, hi, e'⟩ | ⟨ne, hj⟩
    · cases e'
      exact ⟨a, hv, n _ _ e upd_same, nz, h0, n1, n2⟩
    · obtain ⟨b, q, r, m⟩ := c.own j x hj
      refine ⟨b, q, r.ext e (upd_ne ?_), m⟩
      rintro rfl
      exact ne (c.uniq i j d x _ h hj hv q)
  · have g : ∀ {j : Nat} {d1 : D}, (env.set i (.own d'))[j]? = some (.own d1) → ∃ d2, env[j]? = some (.own d2) := fun {j d1} hj => by
      rcases set_get hj with ⟨rfl, hi, e'⟩ | ⟨ne, hj⟩
      · exact ⟨d, h⟩
      · exact ⟨_, hj⟩
    obtain ⟨x, gj⟩ := g hj
    obtain ⟨y, gk⟩ := g hk
    exact c.uniq j k _ _ b gj gk qj qk
  · rcases set_get hj with ⟨rfl, hi, e'⟩ | ⟨ne, hj⟩
    · cases e'
    · exact c.srcs j hj
  · obtain ⟨hne, cs, l, m, t, hcs, h1, h2⟩ := c.srcH
    exact ⟨hne, cs, l, m, t, hcs, by rw [upd_ne (Ne.symm n2)]; exact h1, by rw [upd_ne (Ne.symm n1)]; exact h2⟩
  · rw [e.h b z]; exact c.zdom b z
  · rw [upd_ne (by rintro rfl; rw [h0] at q; cases q)]
    exact c.pres b u q m1 m2
/-- a new object kept aside while others are evaluated -/
def Frm.keep (F : Frm) (a : Addr) (o : HO) : Frm := { F with H0 := fun b => if b = a then some o else F.H0 b }
theorem Cf.aside (c : Cf F Z env σ H) (r : RpR F Z env σ H (.ref a) (.new d)) (ho : H a = some o) : Cf (F.keep a o) Z env σ H := by
  obtain ⟨b, e, ob, nz, h0, n1, n2, no⟩ := r
  cases e
  refine ⟨c.len, c.val, fun i x hi => ?_, c.uniq, c.srcs, c.srcH, c.zs, c.zc, c.zdom, fun b z => ?_, fun b z => ?_, fun b u q m1 m2 => ?_⟩
  · obtain ⟨b, q, r, n, m0, m⟩ := c.own i x hi
    refine ⟨b, q, r, n, ?_, m⟩
    show (if b = a then some o else F.H0 b) = none
    rw [if_neg (by rintro rfl; exact no i x hi q)]
    exact m0
  · rcases c.zold b z with z | q
    · exact .inl z
    · refine .inr ?_
      show (if b = a then some o else F.H0 b) = none
      rw [if_neg (by rintro rfl; exact nz z)]
      exact q
  · show (if b = a then some o else F.H0 b) ≠ none
    rw [if_neg (by rintro rfl; exact c.z0d _ z h0)]
    exact c.z0d b z
  · have q : (if b = a then some o else F.H0 b) = some u := q
    by_cases e : b = a
    · subst e; rw [if_pos rfl] at q; cases q; exact ho
    · rw [if_neg e] at q; exact c.pres b u q m1 m2
theorem Cf.back (c : Cf (F.keep a o) Z env σ H) (h0 : F.H0 a = none) (n1 : a ≠ F.sa) (n2 : a ≠ F.ca) (z0 : ∀ b, F.Z0 b → F.H0 b ≠ none) : Cf F Z env σ H ∧ H a = some o ∧ ¬ Z a ∧ ∀ (i : Nat) d', env[i]? = some (.own d') → σ[i]? ≠ some (some (.ref a)) := by
  have ha : (F.keep a o).H0 a = some o := if_pos rfl
  refine ⟨⟨c.len, c.val, fun i x hi => ?_, c.uniq, c.srcs, c.srcH, c.zs, c.zc, c.zdom, fun b z => ?_, z0, fun b u q m1 m2 => ?_⟩, c.pres a o ha n1 n2, fun z => ?_, fun i x hi q => ?_⟩
  · obtain ⟨b, q, r, n, m0, m⟩ := c.own i x hi
    refine ⟨b, q, r, n, ?_, m⟩
    have m0 : (if b = a then some o else F.H0 b) = none := m0
    by_cases e : b = a
    · rw [if_pos e] at m0; cases m0
    · rw [if_neg e] at m0; exact m0
  · rcases c.zold b z with z | q
    · exact .inl z
    · refine .inr ?_
      have q : (if b = a then some o else F.H0 b) = none := q
      by_cases e : b = a
      · rw [if_pos e] at q; cases q
      · rw [if_neg e] at q; exact q
  · refine c.pres b u ?_ m1 m2
    show (if b = a then some o else F.H0 b) = some u
    rw [if_neg (by rintro rfl; rw [h0] at q; cases q)]
    exact q
  · rcases c.zold a z with z | q
    · exact z0 a z h0
    · rw [ha] at q; cases q
  · obtain ⟨b, q', r, n, m0, m⟩ := c.own i x hi
    rw [q] at q'
    cases q'
    rw [ha] at m0
    cases m0
end

/-! ### statements -/
inductive Fl where
  | nx
  | rt (d : D)
  | bk
  | ct
abbrev WS := VE → (Fl → VE → Prop) → Prop
def flP (E : Ends) (Z : ZS) (σ : L2.St) (H : Hp) : Fl → Prop
  | .nx => E.nx σ H
  | .bk => E.bk σ H
  | .ct => E.ct σ H
  | .rt d => ∀ v, Rp Z H v d → E.rt v H
def tS (w : WS) : TS := fun E σ H => ∃ F Z env Q0, Cf F Z env σ H ∧ w env Q0 ∧ ∀ fl env', Q0 fl env' → ∀ Z' σ' H', Ext Z H Z' H' → Cf F Z' env' σ' H' → flP E Z' σ' H' fl
theorem _root_.L2.PS.imp {X : Cx} {e : Stmt} {t t' : TS} (h : PS X e t) (i : ∀ D σ H, t' D σ H → t D σ H) : PS X e t' := ⟨fun pins s σ H D I q => h.run pins s σ H D I (i D σ H q)⟩
theorem _root_.L2.PSs.imp {X : Cx} {e : List Stmt} {t t' : TS} (h : PSs X e t) (i : ∀ D σ H, t' D σ H → t D σ H) : PSs X e t' := ⟨fun pins s σ H D I q => h.run pins s σ H D I (i D σ H q)⟩
def wNext : WS := fun env Q => Q .nx env
def wBreak : WS := fun env Q => Q .bk env
def wCont : WS := fun env Q => Q .ct env
def wSeq (a b : WS) : WS := fun env Q => a env fun fl e => match fl with
  | .nx => b e Q
  | .rt d => Q (.rt d) e
  | .bk => Q .bk e
  | .ct => Q .ct e
theorem tS_next {E : Ends} {σ : L2.St} {H : Hp} (h : tS wNext E σ H) : tNext E σ H := by
  obtain ⟨F, Z, env, Q0, c, h, k⟩ := h
  exact k _ _ h Z σ H (.refl Z H) c
theorem tS_break {E : Ends} {σ : L2.St} {H : Hp} (h : tS wBreak E σ H) : tBreak E σ H := by
  obtain ⟨F, Z, env, Q0, c, h, k⟩ := h
  exact k _ _ h Z σ H (.refl Z H) c
theorem tS_cont {E : Ends} {σ : L2.St} {H : Hp} (h : tS wCont E σ H) : tCont E σ H := by
  obtain ⟨F, Z, env, Q0, c, h, k⟩ := h
  exact k _ _ h Z σ H (.refl Z H) c
theorem tS_seq {a b : WS} {E : Ends} {σ : L2.St} {H : Hp} (h : tS (wSeq a b) E σ H) : tSeq (tS a) (tS b) E σ H := by
  obtain ⟨F, Z, env, Q0, c, h, k⟩ := h
  refine ⟨F, Z, env, _, c, h, fun fl e1 q1 Z1 σ1 H1 x1 c1 => ?_⟩
  cases fl with
  | nx => exact ⟨F, Z1, e1, Q0, c1, q1, fun fl e2 q2 Z2 σ2 H2 x2 c2 => k _ _ q2 Z2 σ2 H2 (x1.trans x2) c2⟩
  | rt d => exact k _ _ q1 Z1 σ1 H1 x1 c1
  | bk => exact k _ _ q1 Z1 σ1 H1 x1 c1
  | ct => exact k _ _ q1 Z1 σ1 H1 x1 c1
def wRet (w : WE) : WS := fun env Q => w env fun r e => onS (frz1 e r) fun p => Q (.rt p.1) p.2
def wRetN : WS := fun env Q => Q (.rt .none) env
theorem tS_ret {w : WE} {E : Ends} {σ : L2.St} {H : Hp} (h : tS (wRet w) E σ H) : tRet (tV w) E σ H := by
  obtain ⟨F, Z, env, Q0, c, h, k⟩ := h
  refine ⟨F, Z, env, _, c, h, fun r e1 q1 Z1 v H1 x1 c1 rr1 => ?_⟩
  obtain ⟨Z2, x2, c2, hd⟩ := rr1.hold c1
  obtain ⟨⟨d, e2⟩, o, q1⟩ := onS_some q1
  obtain ⟨Z3, x3, c3, r3⟩ := hd.frz1 c2 o
  exact k _ _ q1 Z3 σ H1 ((x1.trans x2).trans x3) c3 v r3
theorem tS_retN {E : Ends} {σ : L2.St} {H : Hp} (h : tS wRetN E σ H) : tRetN E σ H := by
  obtain ⟨F, Z, env, Q0, c, h, k⟩ := h
  exact k _ _ h Z σ H (.refl Z H) c .non .non
def wIfS (t : WT) (a b : WS) : WS := fun env Q => t env fun x e => (x = true → a e Q) ∧ (x = false → b e Q)
theorem tS_if {t : WT} {a b : WS} {E : Ends} {σ : L2.St} {H : Hp} (h : tS (wIfS t a b) E σ H) : tIfS (tVT t) (tS a) (tS b) E σ H := by
  obtain ⟨F, Z, env, Q0, c, h, k⟩ := h
  refine ⟨F, Z, env, _, c, h, fun x e1 q1 Z1 H1 x1 c1 => ?_⟩
  cases x with
  | true =>
    rw [if_pos rfl]
    exact ⟨F, Z1, e1, Q0, c1, q1.1 rfl, fun fl e2 q2 Z2 σ2 H2 x2 c2 => k _ _ q2 Z2 σ2 H2 (x1.trans x2) c2⟩
  | false =>
    rw [if_neg Bool.false_ne_true]
    exact ⟨F, Z1, e1, Q0, c1, q1.2 rfl, fun fl e2 q2 Z2 σ2 H2 x2 c2 => k _ _ q2 Z2 σ2 H2 (x1.trans x2) c2⟩
/-- an expression's value is dropped -/
def wDrop (w : WE) : WS := fun env Q => w env fun _ e => Q .nx e
theorem tS_drop {w : WE} {E : Ends} {σ : L2.St} {H : Hp} (h : tS (wDrop w) E σ H) : tDrop (tV w) E σ H := by
  obtain ⟨F, Z, env, Q0, c, h, k⟩ := h
  exact ⟨F, Z, env, _, c, h, fun r e1 q1 Z1 v H1 x1 c1 rr1 => k _ _ q1 Z1 σ H1 x1 c1⟩
/-! stores to names -/
def putR (i : Nat) (r : Rs) (e : VE) (Q : VE → Prop) : Prop := match r with
  | .val d => Q (e.set i (.val d))
  | .new d => Q (e.set i (.own d))
  | .bor j => onS (frz1 e (.bor j)) fun p => Q (p.2.set i (.val p.1))
  | .src => Q (e.set i .src)
theorem putR_cf {F : Frm} {Z : ZS} {env : VE} {σ : L2.St} {H : Hp} {v : V} {i : Nat} {r : Rs} {Q : VE → Prop} (c : Cf F Z env σ H) (rr : RpR F Z env σ H v r) (h : putR i r env Q) : ∃ env' Z', Q env' ∧ Ext Z H Z' H ∧ Cf F Z' env' (σ.set i (some v)) H := by
  cases r with
  | val d => exact ⟨_, Z, h, .refl Z H, c.putVal i rr⟩
  | new d => exact ⟨_, Z, h, .refl Z H, c.putNew i rr⟩
  | bor j =>
    obtain ⟨⟨d, e2⟩, o, h⟩ := onS_some h
    obtain ⟨Z1, x1, c1, r1⟩ := (show Hd F Z σ H v (hold (.bor j)) from rr.2).frz1 c o
    exact ⟨_, Z1, h, x1, c1.putVal i r1⟩
  | src =>
    have e : v = .ref F.sa := rr
    subst e
    exact ⟨_, Z, h, .refl Z H, c.putSrc i⟩
def wSet (i : Nat) (w : WE) : WS := fun env Q => w env fun r e => putR i r e fun e' => Q .nx e'
theorem tS_set {i : Nat} {w : WE} {E : Ends} {σ : L2.St} {H : Hp} (h : tS (wSet i w) E σ H) : tAsg (tV w) (gName i) E σ H := by
  obtain ⟨F, Z, env, Q0, c, h, k⟩ := h
  refine ⟨F, Z, env, _, c, h, fun r e1 q1 Z1 v H1 x1 c1 rr1 => ?_⟩
  obtain ⟨e2, Z2, q2, x2, c2⟩ := putR_cf c1 rr1 q1
  exact k _ _ q2 Z2 _ H1 (x1.trans x2) c2
/-! targets of data -/
abbrev WG := D → VE → (VE → Prop) → Prop
abbrev WGs := List D → VE → (VE → Prop) → Prop
/-- the slots but those of the list are as they were -/
def Off (is : List Nat) (σ σ' : L2.St) : Prop := σ'.length = σ.length ∧ ∀ j : Nat, j ∉ is → σ'[j]? = σ[j]?
theorem Off.refl (is : List Nat) (σ : L2.St) : Off is σ σ := ⟨rfl, fun _ _ => rfl⟩
theorem Off.trans {is js : List Nat} {σ σ1 σ2 : L2.St} (a : Off is σ σ1) (b : Off js σ1 σ2) : Off (is ++ js) σ σ2 :=
  ⟨b.1.trans a.1, fun j hj => (b.2 j fun h => hj (List.mem_append_right _ h)).trans (a.2 j fun h => hj (List.mem_append_left _ h))⟩
def tG (is : List Nat) (w : WG) : TG := fun v σ H Q => ∃ F Z env Q0 d, Cf F Z env σ H ∧ Rp Z H v d ∧ w d env Q0 ∧ ∀ env', Q0 env' → ∀ σ', Off is σ σ' → Cf F Z env' σ' H → Q σ' H
def tGs (is : List Nat) (w : WGs) : TGs := fun vs σ H Q => ∃ F Z env Q0 ds, Cf F Z env σ H ∧ RpL Z H vs ds ∧ w ds env Q0 ∧ ∀ env', Q0 env' → ∀ σ', Off is σ σ' → Cf F Z env' σ' H → Q σ' H
def wgName (i : Nat) : WG := fun d e Q => Q (e.set i (.val d))
def wgNil : WGs := fun ds e Q => ds = [] ∧ Q e
def wgCons (g : WG) (gs : WGs) : WGs := fun ds e Q => match ds with
  | d :: r => g d e fun e' => gs r e' Q
  | [] => False
def wgTup (n : Nat) (gs : WGs) : WG := fun d e Q => match d with
  | .tuple ds => ds.length = n ∧ gs ds e Q
  | _ => False
theorem tG_name {i : Nat} {v : V} {σ : L2.St} {H : Hp} {Q : L2.St → Hp → Prop} (h : tG [i] (wgName i) v σ H Q) : gName i v σ H Q := by
  obtain ⟨F, Z, env, Q0, d, c, r, h, k⟩ := h
  exact k _ h _ ⟨by simp, fun j hj => List.getElem?_set_ne (by simpa using Ne.symm (show j ≠ i from fun e => hj (by simp [e])))⟩ (c.putVal i r)
theorem tGs_nil {vs : List V} {σ : L2.St} {H : Hp} {Q : L2.St → Hp → Prop} (h : tGs [] wgNil vs σ H Q) : gNil vs σ H Q := by
  obtain ⟨F, Z, env, Q0, ds, c, r, ⟨e, h⟩, k⟩ := h
  subst e
  cases r
  exact ⟨rfl, k _ h _ (.refl _ _) c⟩
theorem tGs_cons {is js : List Nat} {g : WG} {gs : WGs} {vs : List V} {σ : L2.St} {H : Hp} {Q : L2.St → Hp → Prop} (h : tGs (is ++ js) (wgCons g gs) vs σ H Q) : gCons (tG is g) (tGs js gs) vs σ H Q := by
  obtain ⟨F, Z, env, Q0, ds, c, r, h, k⟩ := h
  cases r with
  | nil => exact h.elim
  | cons r l => exact ⟨_, _, rfl, F, Z, env, _, _, c, r, h, fun e1 q1 σ1 o1 c1 => ⟨F, Z, e1, Q0, _, c1, l, q1, fun e2 q2 σ2 o2 c2 => k e2 q2 σ2 (o1.trans o2) c2⟩⟩
theorem tG_tup {K : PySem.W.Frag} {n : Nat} {is : List Nat} {gs : WGs} {v : V} {σ : L2.St} {H : Hp} {Q : L2.St → Hp → Prop} (h : tG is (wgTup n gs) v σ H Q) : gTup K n (tGs is gs) v σ H Q := by
  obtain ⟨F, Z, env, Q0, d, c, r, h, k⟩ := h
  cases r with
  | tup z hp l => exact ⟨_, _, rfl, SqT.of hp, by rw [l.length]; exact h.1, F, Z, env, Q0, _, c, l, h.2, k⟩
  | _ => exact h.elim
theorem _root_.L2.PG.imp {X : Cx} {e : Expr} {t t' : TG} (h : PG X e t) (i : ∀ v σ H Q, t' v σ H Q → t v σ H Q) : PG X e t' := ⟨fun pins s σ H v u Q I r q => h.run pins s σ H v u Q I r (i v σ H Q q)⟩
theorem _root_.L2.PGs.imp {X : Cx} {e : List Expr} {t t' : TGs} (h : PGs X e t) (i : ∀ v σ H Q, t' v σ H Q → t v σ H Q) : PGs X e t' := ⟨fun pins s σ H v u Q I r q => h.run pins s σ H v u Q I r (i v σ H Q q)⟩
/-- a target of data takes a value -/
def wAsg (g : WG) (w : WE) : WS := fun env Q => w env fun r e => onS (frz1 e r) fun p => g p.1 p.2 fun e' => Q .nx e'
theorem tS_asg {is : List Nat} {g : WG} {w : WE} {E : Ends} {σ : L2.St} {H : Hp} (h : tS (wAsg g w) E σ H) : tAsg (tV w) (tG is g) E σ H := by
  obtain ⟨F, Z, env, Q0, c, h, k⟩ := h
  refine ⟨F, Z, env, _, c, h, fun r e1 q1 Z1 v H1 x1 c1 rr1 => ?_⟩
  obtain ⟨Z2, x2, c2, hd⟩ := rr1.hold c1
  obtain ⟨⟨d, e2⟩, o, q1⟩ := onS_some q1
  obtain ⟨Z3, x3, c3, r3⟩ := hd.frz1 c2 o
  exact ⟨F, Z3, e2, _, d, c3, r3, q1, fun e3 q3 σ3 _ c4 => k _ _ q3 Z3 σ3 H1 ((x1.trans x2).trans x3) c4⟩

/-! two, three values kept as they are -/
/-- a borrowed object is fixed at once -/
def wFB (w : WE) : WE := fun env Q => w env fun r e => match r with
  | .bor j => onS (frz1 e (.bor j)) fun p => Q (.val p.1) p.2
  | .val d => Q (.val d) e
  | .new d => Q (.new d) e
  | .src => Q .src e
theorem tV_fb {w : WE} {σ : L2.St} {H : Hp} {Q : VK} (h : tV (wFB w) σ H Q) : tV w σ H Q := by
  obtain ⟨F, Z, env, Q0, c, h, k⟩ := h
  refine ⟨F, Z, env, _, c, h, fun r e1 q1 Z1 v H1 x1 c1 rr1 => ?_⟩
  cases r with
  | val d => exact k _ _ q1 Z1 v H1 x1 c1 rr1
  | new d => exact k _ _ q1 Z1 v H1 x1 c1 rr1
  | src => exact k _ _ q1 Z1 v H1 x1 c1 rr1
  | bor j =>
    obtain ⟨⟨d, e2⟩, o, q1⟩ := onS_some q1
    obtain ⟨Z2, x2, c2, r2⟩ := (show Hd F Z1 σ H1 v (hold (.bor j)) from rr1.2).frz1 c1 o
    exact k _ _ q1 Z2 v H1 (x1.trans x2) c2 r2
def putN (i : Nat) (r : Rs) (e : VE) (Q : VE → Prop) : Prop := match r with
  | .val d => Q (e.set i (.val d))
  | .new d => Q (e.set i (.own d))
  | .bor _ => False
  | .src => Q (e.set i .src)
/-- a result kept while another expression is evaluated -/
theorem keep_over {F : Frm} {Z : ZS} {env : VE} {σ : L2.St} {H : Hp} {v : V} {r : Rs} {w : WE} {Q1 : Rs → VE → Prop} {R : V → Hp → Prop} (c : Cf F Z env σ H) (rr : RpR F Z env σ H v r) (h : w env Q1)
    (k : ∀ r2 e2, Q1 r2 e2 → ∀ Z' u H', Ext Z H Z' H' → Cf F Z' e2 σ H' → RpR F Z' e2 σ H' u r2 → (∀ d, r = .val d → Rp Z' H' v d) → (∀ d, r = .new d → RpR F Z' e2 σ H' v (.new d) ∧ ∀ d2, r2 = .new d2 → v ≠ u) → (∀ j, r = .bor j → σ[j]? = some (some v)) → (r = .src → v = .ref F.sa) → R u H') : tV w σ H R := by
  cases r with
  | val d => exact ⟨F, Z, env, Q1, c, h, fun r2 e2 q Z' u H' x c' rr' => k r2 e2 q Z' u H' x c' rr' (fun d' e => by cases e; exact Rp.ext x rr) (fun d' e => by cases e) (fun j e => by cases e) (fun e => by cases e)⟩
  | bor j => exact ⟨F, Z, env, Q1, c, h, fun r2 e2 q Z' u H' x c' rr' => k r2 e2 q Z' u H' x c' rr' (fun d' e => by cases e) (fun d' e => by cases e) (fun j' e => by cases e; exact rr.2) (fun e => by cases e)⟩
  | src => exact ⟨F, Z, env, Q1, c, h, fun r2 e2 q Z' u H' x c' rr' => k r2 e2 q Z' u H' x c' rr' (fun d' e => by cases e) (fun d' e => by cases e) (fun j' e => by cases e) (fun _ => rr)⟩
  | new d =>
    obtain ⟨a, rfl, ow, nz, h0, n1, n2, no⟩ := id rr
    obtain ⟨o, ho⟩ : ∃ o, H a = some o := by
      cases q : H a with
      | none => exact absurd q ow.some
      | some o => exact ⟨o, rfl⟩
    have cA := c.aside (a := a) (o := o) rr ho
    refine ⟨F.keep a o, Z, env, Q1, cA, h, fun r2 e2 q Z' u H' x c' rr' => ?_⟩
    obtain ⟨cB, hB, nzB, noB⟩ := c'.back h0 n1 n2 c.z0d
    have owB : Ow Z' H' a d := ow.ext x (by rw [hB, ho])
    have rrB : RpR F Z' e2 σ H' u r2 := by
      cases r2 with
      | val d => exact rr'
      | bor j => exact rr'
      | src => exact rr'
      | new d2 =>
        obtain ⟨b, eb, ob, nzb, h0b, m1, m2, mo⟩ := rr'
        refine ⟨b, eb, ob, nzb, ?_, m1, m2, mo⟩
        have h0b : (if b = a then some o else F.H0 b) = none := h0b
        by_cases e : b = a
        · rw [if_pos e] at h0b; cases h0b
        · rw [if_neg e] at h0b; exact h0b
    refine k r2 e2 q Z' u H' x cB rrB (fun d' e => by cases e) (fun d' e => ?_) (fun j e => by cases e) (fun e => by cases e)
    cases e
    refine ⟨⟨a, rfl, owB, nzB, h0, n1, n2, noB⟩, fun d2 e2 => ?_⟩
    subst e2
    obtain ⟨b, eb, ob, nzb, h0b, m1, m2, mo⟩ := rr'
    intro e
    rw [eb] at e
    cases e
    have h0b : (if a = a then some o else F.H0 a) = none := h0b
    rw [if_pos rfl] at h0b
    cases h0b
/-- a result kept, with what it is -/
def Kp (F : Frm) (Z : ZS) (e : VE) (σ : L2.St) (H : Hp) (v : V) : Rs → Prop
  | .bor _ => True
  | r => RpR F Z e σ H v r
theorem keep_over' {F : Frm} {Z : ZS} {env : VE} {σ : L2.St} {H : Hp} {v : V} {r : Rs} {w : WE} {Q1 : Rs → VE → Prop} {R : V → Hp → Prop} (c : Cf F Z env σ H) (rr : RpR F Z env σ H v r) (h : w env Q1)
    (k : ∀ r2 e2, Q1 r2 e2 → ∀ Z' u H', Ext Z H Z' H' → Cf F Z' e2 σ H' → RpR F Z' e2 σ H' u r2 → Kp F Z' e2 σ H' v r → (∀ d d2, r = .new d → r2 = .new d2 → v ≠ u) → R u H') : tV w σ H R :=
  keep_over c rr h fun r2 e2 q Z' u H' x c' rr' k1 k2 k3 k4 => k r2 e2 q Z' u H' x c' rr' (by
    cases r with
    | val d => exact k1 d rfl
    | new d => exact (k2 d rfl).1
    | bor m => trivial
    | src => exact k4 rfl) fun d d2 e e2 => (k2 d e).2 d2 e2
/-- one of the kept is stored -/
theorem putN_cf {F : Frm} {Z : ZS} {e : VE} {σ : L2.St} {H : Hp} {i : Nat} {v : V} {r : Rs} {Q : VE → Prop} (c : Cf F Z e σ H) (rr : Kp F Z e σ H v r) (q : putN i r e Q) : ∃ e', Q e' ∧ Cf F Z e' (σ.set i (some v)) H ∧
    ∀ u r2, Kp F Z e σ H u r2 → (∀ d d2, r = .new d → r2 = .new d2 → v ≠ u) → Kp F Z e' (σ.set i (some v)) H u r2 := by
  have other : ∀ {s : Sl}, (∀ d', s = .own d' → ∃ d, r = .new d) → ∀ u r2, Kp F Z e σ H u r2 → (∀ d d2, r = .new d → r2 = .new d2 → v ≠ u) → Kp F Z (e.set i s) (σ.set i (some v)) H u r2 := fun {s} hs u r2 rr2 ne => by
    cases r2 with
    | val d => exact rr2
    | src => exact rr2
    | bor m => trivial
    | new d2 =>
      obtain ⟨a, rfl, ow, nz, h0, n1, n2, no⟩ := rr2
      refine ⟨a, rfl, ow, nz, h0, n1, n2, fun m d' hm => ?_⟩
      rcases set_get hm with ⟨rfl, hi, e'⟩ | ⟨ne', hm⟩
      · obtain ⟨d, hd⟩ := hs d' e'.symm
        rw [List.getElem?_set_self (by rw [c.len]; exact hi)]
        exact fun q => ne d d2 hd rfl (Option.some.inj (Option.some.inj q))
      · rw [List.getElem?_set_ne ne']; exact no m d' hm
  cases r with
  | val d => exact ⟨_, q, c.putVal i rr, other fun d' e => by cases e⟩
  | new d => exact ⟨_, q, c.putNew i rr, other fun d' e => ⟨d, rfl⟩⟩
  | bor m => exact q.elim
  | src =>
    have e : v = .ref F.sa := rr
    subst e
    exact ⟨_, q, c.putSrc i, other fun d' e => by cases e⟩
theorem RpR.kp {F : Frm} {Z : ZS} {e : VE} {σ : L2.St} {H : Hp} {v : V} {r : Rs} (h : RpR F Z e σ H v r) : Kp F Z e σ H v r := by
  cases r with
  | bor m => trivial
  | _ => exact h
def wPar2 (i j : Nat) (a b : WE) : WS := fun env Q => wFB a env fun r1 e1 => wFB b e1 fun r2 e2 => putN i r1 e2 fun e3 => putN j r2 e3 fun e4 => Q .nx e4
/-- two arguments, then the stores -/
theorem tS_par2 {i j : Nat} {a b : WE} {E : Ends} {σ : L2.St} {H : Hp} (h : tS (wPar2 i j a b) E σ H) : tCons (tV a) (tCons (tV b) tNil) σ H fun vs H1 => ∃ v w, vs = [v, w] ∧ E.nx ((σ.set i (some v)).set j (some w)) H1 ∧
    ∀ p xs H2, H1 p = none → H2 = upd H1 p (.tup xs) → E.nx ((σ.set i (some v)).set j (some w)) H2 := by
  obtain ⟨F, Z, env, Q0, c, h, k⟩ := h
  refine tV_fb ⟨F, Z, env, _, c, h, fun r1 e1 q1 Z1 v H1 x1 c1 rr1 => ?_⟩
  refine tV_fb (keep_over' c1 rr1 q1 fun r2 e2 q2 Z2 u H2 x2 c2 rr2 kp ne => ?_)
  have fin : ∀ {H3 : Hp}, Cf F Z2 e2 σ H3 → Ext Z2 H2 Z2 H3 → Kp F Z2 e2 σ H3 v r1 → Kp F Z2 e2 σ H3 u r2 → E.nx ((σ.set i (some v)).set j (some u)) H3 := fun {H3} c3 x3 kp rr => by
    obtain ⟨e3, q3, c4, o3⟩ := putN_cf c3 kp q2
    obtain ⟨e4, q4, c5, _⟩ := putN_cf c4 (o3 u r2 rr ne) q3
    exact k _ _ q4 Z2 _ H3 ((x1.trans x2).trans x3) c5
  refine ⟨v, u, rfl, fin c2 (.refl _ _) kp rr2.kp, fun p xs H3 hp e => ?_⟩
  subst e
  obtain ⟨c3, x3⟩ := c2.lay (o := .tup xs) hp
  have st : ∀ {v r}, Kp F Z2 e2 σ H2 v r → Kp F Z2 e2 σ (upd H2 p (.tup xs)) v r := fun {v r} q => by
    cases r with
    | val d => exact Rp.ext x3 q
    | src => exact q
    | bor m => trivial
    | new d =>
      obtain ⟨a, rfl, ow, rest⟩ := q
      exact ⟨a, rfl, ow.ext x3 (upd_ne (by rintro rfl; exact ow.some hp)), rest⟩
  exact fin c3 x3 (st kp) (st rr2.kp)
def wPar3 (i j l : Nat) (a b d : WE) : WS := fun env Q => wFB a env fun r1 e1 => wFB b e1 fun r2 e2 => wFB d e2 fun r3 e3 => putN i r1 e3 fun e4 => putN j r2 e4 fun e5 => putN l r3 e5 fun e6 => Q .nx e6
end VL

namespace VL
open PySem PySem.Spec PyProof.Rows L2
/-! ### lists and tuples alike -/
def SqK (k : Bool) (K : PySem.W.Frag) (H : Hp) (a : Addr) (xs : List V) : Prop := match k with
  | true => SqL K H a xs
  | false => SqT K H a xs
def IsIt (k : Bool) (h : Heap) (it a : Addr) (i : Nat) : Prop := match k with
  | true => h.IsListIter it a i
  | false => h.IsTupleIter it a i
def IsSq (k : Bool) (h : Heap) (a : Addr) (its : Array Value) : Prop := match k with
  | true => h.IsList a its
  | false => h.IsTuple a its
def itO (k : Bool) (a : Addr) : Obj := match k with
  | true => { cls := .type "list_iterator", data := .fields #[.ref a, .int 0 0] }
  | false => { cls := .type "tuple_iterator", data := .fields #[.ref a, .int 0 0] }
theorem drawsK {prog : Program} {w : World} {A : Around} (k : Bool) (hh : A.handled = none) (it l : Addr) (hne : l ≠ it) (items : Array Value) :
    PySem.Draws prog w A it [it, l] items.size (fun i v => items[i]? = some v) (fun i h => IsIt k h it l i ∧ IsSq k h l items) := by
  cases k with
  | true => exact PySem.Draws.list hh it l hne items
  | false => exact PySem.Draws.tuple hh it l hne items
theorem beginsK (k : Bool) (l : Addr) (items : Array Value) : PySem.Begins (.ref l) (itO k l) fun h => IsSq k h l items := by
  cases k with
  | true => exact PySem.begins_list l items
  | false => exact PySem.begins_tuple l items
theorem IsIt.at {k : Bool} {h h' : Heap} {it a : Addr} {i : Nat} (x : IsIt k h it a i) (e : ∀ o, h.get? it = some o → h'.get? it = some o) : IsIt k h' it a i := by
  cases k with
  | true => exact Heap.IsListIter.at x e
  | false => exact Heap.IsTupleIter.at x e
theorem IsIt.of {k : Bool} {h : Heap} {it a : Addr} (e : h.get? it = some (itO k a)) : IsIt k h it a 0 := by
  cases k with
  | true => exact ⟨_, e, rfl, rfl⟩
  | false => exact ⟨_, e, rfl, rfl⟩
theorem IsIt.obj {k : Bool} {h : Heap} {it a : Addr} {i : Nat} (x : IsIt k h it a i) : ∃ o, h.get? it = some o ∧ ∀ v, o.data ≠ .cell v := by
  cases k with
  | true => obtain ⟨o, e, _, d⟩ := x; exact ⟨o, e, fun v z => by rw [d] at z; cases z⟩
  | false => obtain ⟨o, e, _, d⟩ := x; exact ⟨o, e, fun v z => by rw [d] at z; cases z⟩
section
variable {X : Cx} {pins : List (Addr × Obj)} {σ : L2.St} {H : Hp} {s : Shared} {a : Addr} {xs ys : List V} {k : Bool}
theorem _root_.L2.Inv.seqK (I : Inv X pins σ H s) (h : SqK k X.K H a xs) : ∃ its : List Value, Vals xs its ∧ IsSq k s.heap a its.toArray ∧ xs.length ≤ sizeLine ∧ a < s.heap.objs.size := by
  cases k with
  | true =>
    obtain ⟨its, r, p, z⟩ := I.list h
    exact ⟨its, r, p.isList, z, p.lt⟩
  | false =>
    obtain ⟨its, r, p, z⟩ := I.tuple h
    exact ⟨its, r, p, z, p.lt⟩
theorem _root_.L2.Inv.seqK_inj (I : Inv X pins σ H s) (h : SqK k X.K H a xs) (h' : SqK k X.K H a ys) : xs = ys := by
  cases k with
  | true => exact I.list_inj h h'
  | false => exact I.tuple_inj h h'
end
/-! ### enumerate -/
def IteK (k : Bool) (K : PySem.W.Frag) (a : Addr) : It :=
  ⟨fun i H => ∃ (xs : List V) (x : V), SqK k K H a xs ∧ xs[i]? = some x, fun i H v H' => ∃ T x, v = .ref T ∧ H T = none ∧ H' = upd H T (.tup [.int (i : Nat), x]) ∧ ∀ xs, SqK k K H a xs → xs[i]? = some x, fun i H => ∃ xs : List V, SqK k K H a xs ∧ xs.length = i⟩
theorem turn_enumK {P : Program} {w : World} {K : PySem.W.Frag} {elts : List Expr} {kk : Nat} {tpos : Pos} (k : Bool) (a e it : Addr) (hae : a ≠ e) (hai : a ≠ it) :
    Turn P w K (.Tuple elts kk tpos) (IteK k K a) [e, it] e (fun i h => (∃ old, IsEnum h e it ((i : Nat) : Int) old) ∧ IsIt k h it a i ∧ e ≠ it) where
  mem := by simp
  obj := fun i h st b hb => by
    obtain ⟨⟨old, he⟩, hit, _⟩ := st
    have e' : b = e ∨ b = it := by simpa using hb
    rcases e' with z | z
    · rw [z]; exact ⟨_, he, fun v q => nomatch q⟩
    · rw [z]; exact hit.obj
  keep := fun i h h' st k => let ⟨⟨old, he⟩, hi, hne⟩ := st; ⟨⟨old, k e (by simp) _ he⟩, hi.at fun o q => k it (by simp) o q, hne⟩
  item := by
    intro X hP hw hK hc i pins s σ H E I hf st hg
    subst hP hw hK
    obtain ⟨⟨old, he⟩, hit, hne⟩ := st
    obtain ⟨xs, x, hq, hx⟩ := hg
    obtain ⟨its, rv, p, hz, hal⟩ := I.seqK hq
    obtain ⟨u, hu, ru⟩ := rv.get hx
    have hel : e < s.heap.objs.size := Heap.lt_size he
    have hil : it < s.heap.objs.size := by obtain ⟨_, q, _⟩ := hit.obj; exact Heap.lt_size q
    have hlt : i < its.toArray.size := by
      obtain ⟨h1, _⟩ := List.getElem?_eq_some_iff.mp hu
      simpa using h1
    refine PySem.wpAny_pyNext_enum_itemD (drawsK k (show X.A.in1.handled = none from I.ok.hd hc) it a hai its.toArray) he ⟨hit, p⟩ hlt hne (by simp [hne, Ne.symm hae]) fun y h' tk hy ho hst' hT hsz hk => ?_
    have ey : y = u := by
      have hy : its.toArray[i]? = some y := hy
      simp only [List.getElem?_toArray] at hy
      rw [hu] at hy
      exact (Option.some.inj hy).symm
    subst ey
    refine ⟨_, rfl, wpAny_letOwnedTupleGo_enum (s := { s with heap := h', toks := tk + 1 }) ho fun h'' he' sb => ?_⟩
    have hT2 : h''.get? s.heap.objs.size = some { cls := .type "tuple", data := .seq #[.int i tk, y] } := (sb.2 _ (Nat.ne_of_gt hel)).trans hT
    have new : ObjOk X.prog X.w (upd H s.heap.objs.size (.tup [.int (i : Nat), x])) h'' s.heap.objs.size (.tup [.int (i : Nat), x]) :=
      ⟨by show 2 ≤ sizeLine; decide, [.int i tk, y], .cons ⟨_, rfl⟩ (.cons ru .nil), ⟨_, hT2, rfl, _, rfl⟩⟩
    have I1 : Inv X pins σ (upd H s.heap.objs.size (.tup [.int (i : Nat), x])) { s with heap := h'', toks := tk + 1 } :=
      I.turnedNew (ch := [e, it]) (fun b ob hb q => (sb.2 b (fun z => hb (by simp [z]))).trans (hk b ob (fun z => hb (by simp [z])) (fun z => hb (by simp [z])) q)) hf (Nat.le_refl _) new
    refine ⟨.ref s.heap.objs.size, _, I1, rfl, ⟨_, x, rfl, I.hok.fresh (Nat.le_refl _), rfl, fun ys hy => by rw [I.seqK_inj hy hq]; exact hx⟩, ⟨⟨y, ?_⟩, hst'.1.at fun o q => (sb.2 it (Ne.symm hne)).trans q, hne⟩, fun b hb => ?_⟩
    · have e1 : ((i + 1 : Nat) : Int) = (i : Int) + 1 := by omega
      rw [e1]; exact he'
    · have hb' : b < s.heap.objs.size := by
        have e' : b = e ∨ b = it := by simpa using hb
        rcases e' with z | z
        · rw [z]; exact hel
        · rw [z]; exact hil
      rw [upd_ne (Nat.ne_of_lt hb')]
      exact (hf b hb).1
  done := by
    intro X hP hw hK hc i pins s σ H E I hf st hg
    subst hP hw hK
    obtain ⟨⟨old, he⟩, hit, hne⟩ := st
    obtain ⟨xs, hq, hx⟩ := hg
    obtain ⟨its, rv, p, hz, hal⟩ := I.seqK hq
    obtain ⟨f0, f1, f2, f3, f4, f5⟩ := hf it (by simp)
    have hl := rv.length
    have hn : its.toArray.size = i := by rw [List.size_toArray]; omega
    exact PySem.wpAny_pyNext_enum_endD (drawsK k (show X.A.in1.handled = none from I.ok.hd hc) it a hai its.toArray) he (by rw [hn]; exact ⟨hit, p⟩) fun h' eb => ⟨rfl, I.turned (t' := s.toks) (fun b o hb q => eb b o hb q) f0 f1 f3 f4 f5⟩
  self := fun A i s Q E st h => let ⟨⟨_, he⟩, _⟩ := st; wpAny_pyIter_enum he h
set_option maxHeartbeats 4000000 in
theorem meets_enumerate_new1 {v : Value} {o : Obj} {H : Heap → Prop} (B : PySem.Begins v o H) :
    Meets (Builtin.«enumerate.__new__» ⟨[.type "enumerate", v], []⟩) (fun _ R s => H s.heap ∧
      R (.ok (.ret (.ref (s.heap.push o).objs.size))) { s with heap := (s.heap.push o).push { cls := .type "enumerate", data := .fields #[.none, .bool false, .ref s.heap.objs.size, rawInt 0, .none, .none] } }) :=
  .of_wp fun prog w A R s h => by
    obtain ⟨hp, g, d, tk, os⟩ := s; obtain ⟨h1, h⟩ := h
    have hsub := sub_enumerate
    have q1 : ∀ {A' : Around} {E : Value → Shared → Prop} {Q : Value → Shared → Prop}, Q (.ref hp.objs.size) ⟨hp.push o, g, d, tk, os⟩ → wpAny (model prog w) A' (pyIter v) Q E ⟨hp, g, d, tk, os⟩ :=
      fun q => B.iter prog w _ _ ⟨hp, g, d, tk, os⟩ _ h1 q
    wp_walk using q1
    refine wpAny_stack_any fun st => wpAny_pure ?_
    split
    · rename_i c _ _ _ _ _
      cases (c == Value.type "enumerate")
      · wp_walk using q1
        exact ⟨_, rfl, h⟩
      · wp_walk using q1
        exact ⟨_, rfl, h⟩
    · wp_walk using q1
      exact ⟨_, rfl, h⟩
theorem enum_begins1 {prog : Program} {w : World} {A : Around} {E : Value → Shared → Prop} {s : Shared} {v : Value} {o : Obj} {H : Heap → Prop} {Q : Value → Shared → Prop} (B : PySem.Begins v o H) (h1 : H s.heap)
    (h : ∀ h', IsEnum h' (s.heap.objs.size + 1) s.heap.objs.size 0 .none → h'.get? s.heap.objs.size = some o → h'.objs.size = s.heap.objs.size + 2 →
      (∀ b o, s.heap.get? b = some o → h'.get? b = some o) → Q (.ref (s.heap.objs.size + 1)) { s with heap := h' }) :
    wpAny (model prog w) A (call (.type "enumerate") [v]) Q E s := by
  refine callType_new F.called_enumerate (by decide) (F.typeCall_enumerate_1 _) (F.newCall_enumerate_1 _) (fun obj => F.args_object_init_2 obj _) F.entry_enumerate_new
    (meets_enumerate_new1 B) ⟨h1, ?_⟩
  have hz : (s.heap.push o).objs.size = s.heap.objs.size + 1 := Heap.size_push ..
  show _ ∧ _
  rw [hz]
  have he : IsEnum ((s.heap.push o).push { cls := .type "enumerate", data := .fields #[.none, .bool false, .ref s.heap.objs.size, rawInt 0, .none, .none] }) (s.heap.objs.size + 1) s.heap.objs.size 0 .none := by
    have := Heap.get?_push_size (s.heap.push o) (o := { cls := .type "enumerate", data := .fields #[.none, .bool false, .ref s.heap.objs.size, rawInt 0, .none, .none] }) rfl
    rw [hz] at this; exact this
  refine ⟨⟨_, he, rfl⟩, h _ he (Heap.get?_push_of_some _ (Heap.get?_push_size _ B.free)) (by rw [Heap.size_push, hz]) fun b o x => Heap.get?_push_of_some _ (Heap.get?_push_of_some _ x)⟩
def iEnumK (K : PySem.W.Frag) (ta : TA) : TI := fun σ H R => ta σ H fun vs H1 => ∃ k a xs, vs = [.ref a] ∧ SqK k K H1 a xs ∧ R (IteK k K a) H1
theorem pi_enumK {X : Cx} {e : Expr} {ta : TA} {p pos tpos : Pos} {elts : List Expr} {kk : Nat} (hg : Gl X "enumerate") (hm : X.mg "enumerate" = none) (ha : PA X [e] ta) (hs : starEach [e] X.env = [(false, eval e X.env)]) :
    PI X (.Tuple elts kk tpos) (.Call (.Name "enumerate" p) [e] [] pos) (iEnumK X.K ta) := by
  refine ⟨fun pins s σ H R I h => ?_⟩
  refine Call_ (ld_blt I hg hm boot_enumerate (PyProof.Rows.callWith_type1 (thn (ha.run pos pins s σ H _ I h) fun us s1 ⟨vs, H1, I1, r1, q1⟩ => ?_) hs rfl))
  obtain ⟨k, a, xs, ex, hq, q⟩ := q1
  subst ex
  cases r1 with
  | cons r rr =>
    cases rr
    cases r
    obtain ⟨its, rv, p', hz, hal⟩ := I1.seqK hq
    refine enum_begins1 (beginsK k a its.toArray) p' fun h' he hit hsz hk => wpAny_pyIter_enum he ?_
    have I2 : Inv X pins σ H1 { s1 with heap := h' } := I1.kept (t' := s1.toks) hk
    refine ⟨s1.heap.objs.size + 1, [s1.heap.objs.size + 1, s1.heap.objs.size], _, _, H1, rfl, I2, turn_enumK k a (s1.heap.objs.size + 1) s1.heap.objs.size (Nat.ne_of_lt (Nat.lt_succ_of_lt hal)) (Nat.ne_of_lt hal), ⟨⟨.none, he⟩, .of hit, Nat.succ_ne_self _⟩, fun b hb => ?_, q⟩
    have e' : b = s1.heap.objs.size + 1 ∨ b = s1.heap.objs.size := by simpa using hb
    have hle : s1.heap.objs.size ≤ b := by
      rcases e' with z | z
      · rw [z]; exact Nat.le_add_right _ _
      · rw [z]; exact Nat.le_refl _
    exact I1.fpOk hle (I1.hok.fresh hle)
/-! ### zip -/
def ItzK (k1 k2 : Bool) (K : PySem.W.Frag) (a b : Addr) : It :=
  ⟨fun i H => ∃ (xs ys : List V) (x y : V), SqK k1 K H a xs ∧ SqK k2 K H b ys ∧ xs[i]? = some x ∧ ys[i]? = some y,
    fun i H v H' => ∃ T x y, v = .ref T ∧ H T = none ∧ H' = upd H T (.tup [x, y]) ∧ (∀ xs, SqK k1 K H a xs → xs[i]? = some x) ∧ ∀ ys, SqK k2 K H b ys → ys[i]? = some y,
    fun i H => ∃ xs ys : List V, SqK k1 K H a xs ∧ SqK k2 K H b ys ∧ i ≤ xs.length ∧ i ≤ ys.length ∧ (i = xs.length ∨ i = ys.length)⟩
theorem turn_zipK {P : Program} {w : World} {K : PySem.W.Frag} {elts : List Expr} {kk : Nat} {tpos : Pos} {k1 k2 : Bool} {a b z TI TO i1 i2 : Addr} (S : PySem.ZipSep2 z TI TO i1 i2 [i1, a] [i2, b]) :
    Turn P w K (.Tuple elts kk tpos) (ItzK k1 k2 K a b) [z, TI, TO, i1, i2] z (fun i h => IsZip h z TI TO .none ∧ PySem.IsTupOf2 h TI (.ref i1) (.ref i2) ∧ (∃ x y, PySem.IsTupOf2 h TO x y) ∧ IsIt k1 h i1 a i ∧ IsIt k2 h i2 b i) where
  mem := by simp
  obj := fun i h st c hc => by
    obtain ⟨hz, hTI, ⟨x, y, hTO⟩, h1, h2⟩ := st
    have e' : c = z ∨ c = TI ∨ c = TO ∨ c = i1 ∨ c = i2 := by simpa using hc
    rcases e' with q | q | q | q | q
    · rw [q]; exact ⟨_, hz, fun v q => nomatch q⟩
    · rw [q]; exact ⟨_, hTI, fun v q => nomatch q⟩
    · rw [q]; exact ⟨_, hTO, fun v q => nomatch q⟩
    · rw [q]; exact h1.obj
    · rw [q]; exact h2.obj
  keep := fun i h h' st k => by
    obtain ⟨hz, hTI, ⟨x, y, hTO⟩, h1, h2⟩ := st
    exact ⟨k z (by simp) _ hz, k TI (by simp) _ hTI, ⟨x, y, k TO (by simp) _ hTO⟩, h1.at fun o q => k i1 (by simp) o q, h2.at fun o q => k i2 (by simp) o q⟩
  item := by
    intro X hP hw hK hc i pins s σ H E I hf st hg
    subst hP hw hK
    obtain ⟨hz, hTI, ⟨x0, y0, hTO⟩, h1, h2⟩ := st
    obtain ⟨xs, ys, x, y, hqx, hqy, hx, hy⟩ := hg
    obtain ⟨its, rv, p, _, hal⟩ := I.seqK hqx
    obtain ⟨its2, rv2, p2, _, hbl⟩ := I.seqK hqy
    obtain ⟨u, hu, ru⟩ := rv.get hx
    obtain ⟨u2, hu2, ru2⟩ := rv2.get hy
    have hzl : z < s.heap.objs.size := Heap.lt_size hz
    have hlt1 : i < its.toArray.size := by
      obtain ⟨h1, _⟩ := List.getElem?_eq_some_iff.mp hu
      simpa using h1
    have hlt2 : i < its2.toArray.size := by
      obtain ⟨h1, _⟩ := List.getElem?_eq_some_iff.mp hu2
      simpa using h1
    have ai1 : a ≠ i1 := fun e => by
      subst e
      obtain ⟨o, e1, d1⟩ := h1.obj
      cases k1 with
      | true => obtain ⟨o2, e2, c2, n, d2⟩ := p; obtain ⟨o3, e3, c3, d3⟩ := h1; rw [e2] at e3; cases e3; rw [d2] at d3; cases d3
      | false => obtain ⟨o2, e2, c2, n, d2⟩ := p; obtain ⟨o3, e3, c3, d3⟩ := h1; rw [e2] at e3; cases e3; rw [d2] at d3; cases d3
    have bi2 : b ≠ i2 := fun e => by
      subst e
      cases k2 with
      | true => obtain ⟨o2, e2, c2, n, d2⟩ := p2; obtain ⟨o3, e3, c3, d3⟩ := h2; rw [e2] at e3; cases e3; rw [d2] at d3; cases d3
      | false => obtain ⟨o2, e2, c2, n, d2⟩ := p2; obtain ⟨o3, e3, c3, d3⟩ := h2; rw [e2] at e3; cases e3; rw [d2] at d3; cases d3
    refine PySem.wpAny_pyNext_zipD2_item S (drawsK k1 (show X.A.in1.handled = none from I.ok.hd hc) i1 a ai1 its.toArray) (drawsK k2 (show X.A.in1.handled = none from I.ok.hd hc) i2 b bi2 its2.toArray) hz hTI hTO ⟨h1, p⟩ ⟨h2, p2⟩ hlt1 hlt2 fun v1 v2 h' tk hv1 hv2 z' TO' h1' h2' hT hsz hk => ?_
    have ey : v1 = u := by
      have hy : its.toArray[i]? = some v1 := hv1
      simp only [List.getElem?_toArray] at hy
      rw [hu] at hy
      exact (Option.some.inj hy).symm
    have ey2 : v2 = u2 := by
      have hy : its2.toArray[i]? = some v2 := hv2
      simp only [List.getElem?_toArray] at hy
      rw [hu2] at hy
      exact (Option.some.inj hy).symm
    subst ey
    subst ey2
    refine ⟨_, rfl, wpAny_letOwnedTupleGo_zip (s := { s with heap := h', toks := tk }) z' fun h'' z'' sb => ?_⟩
    have hT2 : h''.get? s.heap.objs.size = some { cls := .type "tuple", data := .seq #[v1, v2] } := (sb.2 _ (Nat.ne_of_gt hzl)).trans hT
    have new : ObjOk X.prog X.w (upd H s.heap.objs.size (.tup [x, y])) h'' s.heap.objs.size (.tup [x, y]) :=
      ⟨by show 2 ≤ sizeLine; decide, [v1, v2], .cons ru (.cons ru2 .nil), ⟨_, hT2, rfl, _, rfl⟩⟩
    have I1 : Inv X pins σ (upd H s.heap.objs.size (.tup [x, y])) { s with heap := h'', toks := tk } :=
      I.turnedNew (ch := [z, TI, TO, i1, i2]) (fun c o hb q => (sb.2 c (fun q' => hb (by simp [q']))).trans (hk c o (fun q' => hb (by simp [q'])) (fun q' => hb (by simp [q'])) (fun q' => hb (by simp [q'])) (fun q' => hb (by simp [q'])) q)) hf (Nat.le_refl _) new
    have i1z : i1 ≠ z := fun e => S.zf1 (by rw [← e]; simp)
    have i2z : i2 ≠ z := fun e => S.zf2 (by rw [← e]; simp)
    have TIi1 := S.TIi1
    have TIi2 := S.TIi2
    refine ⟨.ref s.heap.objs.size, _, I1, rfl, ⟨_, x, y, rfl, I.hok.fresh (Nat.le_refl _), rfl, fun l hl => by rw [I.seqK_inj hl hqx]; exact hx, fun l hl => by rw [I.seqK_inj hl hqy]; exact hy⟩, ⟨z'', ?_, ⟨v1, v2, ?_⟩, ?_, ?_⟩, fun c hcm => ?_⟩
    · exact (sb.2 _ S.TIz).trans (hk _ _ S.TIz S.TITO TIi1 TIi2 hTI)
    · exact (sb.2 _ S.TOz).trans TO'
    · exact h1'.1.at fun o q => (sb.2 _ i1z).trans q
    · exact h2'.1.at fun o q => (sb.2 _ i2z).trans q
    · have hlt : c < s.heap.objs.size := by
        have e' : c = z ∨ c = TI ∨ c = TO ∨ c = i1 ∨ c = i2 := by simpa using hcm
        rcases e' with q | q | q | q | q
        · rw [q]; exact hzl
        · rw [q]; exact Heap.lt_size hTI
        · rw [q]; exact Heap.lt_size hTO
        · rw [q]; obtain ⟨_, e1, _⟩ := h1.obj; exact Heap.lt_size e1
        · rw [q]; obtain ⟨_, e2, _⟩ := h2.obj; exact Heap.lt_size e2
      rw [upd_ne (Nat.ne_of_lt hlt)]
      exact (hf c hcm).1
  done := by
    intro X hP hw hK hc i pins s σ H E I hf st hg
    subst hP hw hK
    obtain ⟨hz, hTI, ⟨x0, y0, hTO⟩, h1, h2⟩ := st
    obtain ⟨xs, ys, hqx, hqy, le1, le2, hend⟩ := hg
    obtain ⟨its, rv, p, _, hal⟩ := I.seqK hqx
    obtain ⟨its2, rv2, p2, _, hbl⟩ := I.seqK hqy
    have l1 := rv.length
    have l2 := rv2.length
    have ai1 : a ≠ i1 := fun e => by
      subst e
      cases k1 with
      | true => obtain ⟨o2, e2, c2, n, d2⟩ := p; obtain ⟨o3, e3, c3, d3⟩ := h1; rw [e2] at e3; cases e3; rw [d2] at d3; cases d3
      | false => obtain ⟨o2, e2, c2, n, d2⟩ := p; obtain ⟨o3, e3, c3, d3⟩ := h1; rw [e2] at e3; cases e3; rw [d2] at d3; cases d3
    have bi2 : b ≠ i2 := fun e => by
      subst e
      cases k2 with
      | true => obtain ⟨o2, e2, c2, n, d2⟩ := p2; obtain ⟨o3, e3, c3, d3⟩ := h2; rw [e2] at e3; cases e3; rw [d2] at d3; cases d3
      | false => obtain ⟨o2, e2, c2, n, d2⟩ := p2; obtain ⟨o3, e3, c3, d3⟩ := h2; rw [e2] at e3; cases e3; rw [d2] at d3; cases d3
    exact PySem.wpAny_pyNext_zipD2_end S (drawsK k1 (show X.A.in1.handled = none from I.ok.hd hc) i1 a ai1 its.toArray) (drawsK k2 (show X.A.in1.handled = none from I.ok.hd hc) i2 b bi2 its2.toArray) hz hTI hTO ⟨h1, p⟩ ⟨h2, p2⟩
      (by simp; omega) (by simp; omega) (by simp; omega) fun h' tk hk => ⟨rfl, I.turnedL (ch := [z, TI, TO, i1, i2]) (fun c o hb q =>
      hk c o (fun q' => hb (by simp [q'])) (fun q' => hb (by simp [q'])) (fun q' => hb (by simp [q'])) (fun q' => hb (by simp [q'])) q) hf⟩
  self := fun A i s Q E st h => wpAny_pyIter_zip st.1 h
def iZipK (K : PySem.W.Frag) (ta : TA) : TI := fun σ H R => ta σ H fun vs H1 => ∃ k1 k2 a b xs ys, vs = [.ref a, .ref b] ∧ SqK k1 K H1 a xs ∧ SqK k2 K H1 b ys ∧ R (ItzK k1 k2 K a b) H1
theorem pi_zipK {X : Cx} {e e2 : Expr} {ta : TA} {p pos tpos : Pos} {elts : List Expr} {kk : Nat} (hg : Gl X "zip") (hm : X.mg "zip" = none) (ha : PA X [e, e2] ta)
    (hs : starEach [e, e2] X.env = (false, eval e X.env) :: starEach [e2] X.env) (hpl : (backTo pos (starEach [e2] X.env)).any (·.1) = false) :
    PI X (.Tuple elts kk tpos) (.Call (.Name "zip" p) [e, e2] [] pos) (iZipK X.K ta) := by
  refine ⟨fun pins s σ H R I h => ?_⟩
  refine Call_ (ld_blt I hg hm PyProof.Rows.boot_zip (PyProof.Rows.callWith_type1 (thn (ha.run pos pins s σ H _ I h) fun us s1 ⟨vs, H1, I1, r1, q1⟩ => ?_) hs hpl))
  obtain ⟨k1, k2, a, b, xs, ys, ex, hqx, hqy, q⟩ := q1
  subst ex
  cases r1 with
  | cons r rr =>
    cases rr with
    | cons r' rr =>
      cases rr
      cases r
      cases r'
      obtain ⟨its, rv, p1, _, la⟩ := I1.seqK hqx
      obtain ⟨its2, rv2, p2, _, lb⟩ := I1.seqK hqy
      refine PySem.zip_begins2 (beginsK k1 a its.toArray) (beginsK k2 b its2.toArray) p1 p2 fun h' hz hTI hTO h1 h2 hsz hk => wpAny_pyIter_zip hz ?_
      have I2 : Inv X pins σ H1 { s1 with heap := h' } := I1.kept (t' := s1.toks) hk
      refine ⟨s1.heap.objs.size + 4, [s1.heap.objs.size + 4, s1.heap.objs.size + 2, s1.heap.objs.size + 3, s1.heap.objs.size, s1.heap.objs.size + 1], _, _, H1, rfl, I2,
        turn_zipK (k1 := k1) (k2 := k2) (PySem.zip_sep2 (N := s1.heap.objs.size) (fp1 := [a]) (fp2 := [b]) (by simpa using la) (by simpa using lb)), ⟨hz, hTI, ⟨_, _, hTO⟩, .of h1, .of h2⟩, fun c hcm => ?_, q⟩
      have e' : c = s1.heap.objs.size + 4 ∨ c = s1.heap.objs.size + 2 ∨ c = s1.heap.objs.size + 3 ∨ c = s1.heap.objs.size ∨ c = s1.heap.objs.size + 1 := by simpa using hcm
      have hle : s1.heap.objs.size ≤ c := by
        rcases e' with z | z | z | z | z
        · rw [z]; exact Nat.le_add_right _ _
        · rw [z]; exact Nat.le_add_right _ _
        · rw [z]; exact Nat.le_add_right _ _
        · rw [z]; exact Nat.le_refl _
        · rw [z]; exact Nat.le_add_right _ _
      exact I1.fpOk hle (I1.hok.fresh hle)
/-! ### a list or a tuple, walked -/
def iSeq (K : PySem.W.Frag) (tl : TE) : TI := fun σ H R => tl σ H fun x H1 => ∃ a, x = .ref a ∧ (((∃ xs, SqL K H1 a xs) ∧ R (Itl K a) H1) ∨ ((∃ xs, SqT K H1 a xs) ∧ R (Itt K a) H1))
theorem pi_seq {X : Cx} {tg l : Expr} {tl : TE} (hl : PE X l tl) : PI X tg l (iSeq X.K tl) := by
  refine ⟨fun pins s σ H R I h => ?_⟩
  refine thn (hl.run pins s σ H _ I h) fun v s1 ⟨x, H1, I1, r1, q1⟩ => ?_
  obtain ⟨a, e, q⟩ := q1
  subst e
  cases r1
  rcases q with ⟨⟨xs, hq⟩, q⟩ | ⟨⟨xs, hq⟩, q⟩
  · obtain ⟨its, rv, p, hz⟩ := I1.list hq
    refine wpAny_pyIter_list p.isList ?_
    refine ⟨s1.heap.objs.size, [s1.heap.objs.size], _, _, H1, rfl, I1.kept (t' := s1.toks) fun b o e => Heap.get?_push_of_some _ e, turn_list a _, ⟨_, Heap.get?_push_size _ rfl, rfl, rfl⟩, fun b hb => ?_, q⟩
    have e : b = s1.heap.objs.size := by simpa using hb
    subst e
    exact I1.fpOk (Nat.le_refl _) (I1.hok.fresh (Nat.le_refl _))
  · obtain ⟨its, rv, p, hz⟩ := I1.tuple hq
    refine wpAny_pyIter_tuple (show s1.heap.IsTuple a its.toArray from p) ?_
    refine ⟨s1.heap.objs.size, [s1.heap.objs.size], _, _, H1, rfl, I1.kept (t' := s1.toks) fun b o e => Heap.get?_push_of_some _ e, turn_tuple a _, ⟨_, Heap.get?_push_size _ rfl, rfl, rfl⟩, fun b hb => ?_, q⟩
    have e : b = s1.heap.objs.size := by simpa using hb
    subst e
    exact I1.fpOk (Nat.le_refl _) (I1.hok.fresh (Nat.le_refl _))
end VL

namespace VL
open PySem PySem.Spec PyProof.Rows L2

/-! ### methods of an owned list -/
section
variable {F : Frm} {Z Z' : ZS} {env : VE} {σ : L2.St} {H H' : Hp} {a p : Addr} {v : V} {d d' : D} {o : HO}
theorem Cf.ownL (c : Cf F Z env σ H) {i : Nat} {ds : List D} (h : env[i]? = some (.own (.list ds))) : ∃ a vs, σ[i]? = some (some (.ref a)) ∧ H a = some (.lst vs) ∧ RpL Z H vs ds := by
  obtain ⟨a, q, ⟨vs, ha, l⟩, _⟩ := c.own i _ h
  exact ⟨a, vs, q, ha, l⟩
theorem Cf.mutL (c : Cf F Z env σ H) {i : Nat} {ds ds' : List D} {ws : List V} (h : env[i]? = some (.own (.list ds))) (hv : σ[i]? = some (some (.ref a))) (l : RpL Z H ws ds') :
    Cf F Z (env.set i (.own (.list ds'))) σ (upd H a (.lst ws)) ∧ Ext Z H Z (upd H a (.lst ws)) :=
  c.mut h hv fun Z1 H1 x e => ⟨ws, e, l.ext x⟩
end
def wApp (i : Nat) (w : WE) : WE := fun env Q => match env[i]? with
  | some (.own (.list _)) => w env fun r e1 => onS (frz1 e1 r) fun p => match p.2[i]? with
    | some (.own (.list ds)) => ds.length < LIM ∧ Q (.val .none) (p.2.set i (.own (.list (ds ++ [p.1]))))
    | _ => False
  | _ => False
theorem tV_app {K : PySem.W.Frag} {i : Nat} {w : WE} {σ : L2.St} {H : Hp} {Q : VK} (h : tV (wApp i w) σ H Q) : tBM K "list" rAppend (tVar i) (tCons (tV w) tNil) σ H Q := by
  obtain ⟨F, Z, env, Q0, c, h, k⟩ := h
  unfold wApp at h
  split at h
  · rename_i ds0 e0
    obtain ⟨a, vs, q, ha, l⟩ := c.ownL e0
    refine ⟨_, q, .inl ⟨rfl, _, .inl (.inl ha)⟩, F, Z, env, _, c, h, fun r e1 q1 Z1 v H1 x1 c1 rr1 => ?_⟩
    obtain ⟨Z2, x2, c2, hd⟩ := rr1.hold c1
    obtain ⟨⟨d, e2⟩, o, q1⟩ := onS_some q1
    obtain ⟨Z3, x3, c3, r3⟩ := hd.frz1 c2 o
    split at q1
    · rename_i ds e3
      have e3 : e2[i]? = some (.own (.list ds)) := e3
      obtain ⟨a', vs', q', ha', l'⟩ := c3.ownL e3
      rw [q] at q'
      cases q'
      obtain ⟨c4, x4⟩ := c3.mutL e3 q (l'.append (.cons r3 .nil))
      exact ⟨a, vs', v, rfl, rfl, ha', by rw [l'.length]; exact lim_lt q1.1, k _ _ q1.2 Z3 _ _ (((x1.trans x2).trans x3).trans x4) c4 .non⟩
    · exact q1.elim
  · exact h.elim
def wPop (i : Nat) : WE := fun env Q => match env[i]? with
  | some (.own (.list ds)) => onS ds.getLast? fun d => Q (.val d) (env.set i (.own (.list ds.dropLast)))
  | _ => False
theorem tV_pop {K : PySem.W.Frag} {i : Nat} {σ : L2.St} {H : Hp} {Q : VK} (h : tV (wPop i) σ H Q) : tBM0 K "list" rPop (tVar i) σ H Q := by
  obtain ⟨F, Z, env, Q0, c, h, k⟩ := h
  unfold wPop at h
  split at h
  · rename_i ds e0
    obtain ⟨d, e1, h⟩ := onS_some h
    obtain ⟨a, vs, q, ha, l⟩ := c.ownL e0
    rw [List.getLast?_eq_getElem?] at e1
    obtain ⟨v, hv, r⟩ := l.get e1
    obtain ⟨c4, x4⟩ := c.mutL e0 q l.dropLast
    exact ⟨_, q, .inl ⟨rfl, _, .inl (.inl ha)⟩, a, vs, v, rfl, rfl, ha, by rw [l.length]; exact hv, k _ _ h Z _ _ x4 c4 (r.ext x4)⟩
  · exact h.elim
def wPopAt (i : Nat) (w : WE) : WE := fun env Q => match env[i]? with
  | some (.own (.list _)) => w env fun r e1 => match opd e1 r, e1[i]? with
    | some (.int j), some (.own (.list ds)) => ds.length ≤ LIM ∧ onS (ixN ds.length j) fun m => onS ds[m]? fun d => Q (.val d) (e1.set i (.own (.list (ds.eraseIdx m))))
    | _, _ => False
  | _ => False
theorem tV_popAt {K : PySem.W.Frag} {i : Nat} {w : WE} {σ : L2.St} {H : Hp} {Q : VK} (h : tV (wPopAt i w) σ H Q) : tBM K "list" rPopAt (tVar i) (tCons (tV w) tNil) σ H Q := by
  obtain ⟨F, Z, env, Q0, c, h, k⟩ := h
  unfold wPopAt at h
  split at h
  · rename_i ds0 e0
    obtain ⟨a, vs, q, ha, l⟩ := c.ownL e0
    refine ⟨_, q, .inl ⟨rfl, _, .inl (.inl ha)⟩, F, Z, env, _, c, h, fun r e1 q1 Z1 v H1 x1 c1 rr1 => ?_⟩
    obtain ⟨Z2, x2, c2, hd⟩ := rr1.hold c1
    split at q1
    · rename_i j ds o e3
      obtain ⟨hl, q1⟩ := q1
      obtain ⟨m, em, q1⟩ := onS_some q1
      obtain ⟨d, ed, q1⟩ := onS_some q1
      have ev := rd_int (hd.opd c2 (by rw [opd_hold]; exact o))
      subst ev
      obtain ⟨a', vs', q', ha', l'⟩ := c2.ownL e3
      rw [q] at q'
      cases q'
      obtain ⟨h1, h2, h3, h4⟩ := ixN_seq em
      obtain ⟨y, hy, r⟩ := l'.get ed
      obtain ⟨c4, x4⟩ := c2.mutL e3 q (l'.eraseIdx m)
      have hL : ds.length ≤ 1000000 := hl
      refine ⟨a, vs', j, m, y, rfl, rfl, ha', by omega, by omega, by rw [l'.length]; exact h1, hy, k _ _ q1 Z2 _ _ ((x1.trans x2).trans x4) c4 (r.ext x4)⟩
    · exact q1.elim
  · exact h.elim
/-- x[e] = v, x an owned list -/
def wSetIx (i : Nat) (wi wv : WE) : WS := fun env Q => wv env fun r e => onS (frz1 e r) fun p => match p.2[i]? with
  | some (.own (.list _)) => wi p.2 fun r2 e2 => match opd e2 r2, e2[i]? with
    | some (.int j), some (.own (.list ds)) => onS (ixN ds.length j) fun m => Q .nx (e2.set i (.own (.list (ds.set m p.1))))
    | _, _ => False
  | _ => False
theorem tS_setIx {i : Nat} {wi wv : WE} {E : Ends} {σ : L2.St} {H : Hp} (h : tS (wSetIx i wi wv) E σ H) : tAsg (tV wv) (gSub (tVar i) (tV wi) rSetL) E σ H := by
  obtain ⟨F, Z, env, Q0, c, h, k⟩ := h
  refine ⟨F, Z, env, _, c, h, fun r e1 q1 Z1 v H1 x1 c1 rr1 => ?_⟩
  obtain ⟨Z2, x2, c2, hd⟩ := rr1.hold c1
  obtain ⟨⟨d, e2⟩, o, q1⟩ := onS_some q1
  obtain ⟨Z3, x3, c3, r3⟩ := hd.frz1 c2 o
  split at q1
  · rename_i ds0 e3
    have e3 : e2[i]? = some (.own (.list ds0)) := e3
    obtain ⟨a, vs, q, ha, l⟩ := c3.ownL e3
    refine ⟨_, q, F, Z3, e2, _, c3, q1, fun r2 e4 q4 Z4 y H4 x4 c4 rr4 => ?_⟩
    obtain ⟨Z5, x5, c5, hd5⟩ := rr4.hold c4
    split at q4
    · rename_i j ds o4 e5
      obtain ⟨m, em, q4⟩ := onS_some q4
      have ev := rd_int (hd5.opd c5 (by rw [opd_hold]; exact o4))
      subst ev
      obtain ⟨a', vs', q', ha', l'⟩ := c5.ownL e5
      rw [q] at q'
      cases q'
      obtain ⟨c6, x6⟩ := c5.mutL e5 q (l'.set ((r3.ext x4).ext x5) m)
      exact ⟨a, vs', j, m, rfl, rfl, ha', by rw [l'.length]; exact em, k _ _ q4 Z5 _ _ (((((x1.trans x2).trans x3).trans x4).trans x5).trans x6) c6⟩
    · exact q4.elim
  · exact q1.elim

/-! ### what is walked -/
/-- a walked iterator over data: in every later state in which the watched slots hold what they held -/
abbrev Wt := List (Nat × D)
def WtOk (env : VE) (wt : Wt) : Prop := ∀ p ∈ wt, env[p.1]? = some (.own p.2)
structure Wk (Z0 : ZS) (σ0 : L2.St) (H0 : Hp) (wt : Wt) (J : It) (ds : List D) : Prop where
  go : ∀ (i : Nat) (d : D) F Z env σ H, Ext Z0 H0 Z H → Cf F Z env σ H → WtOk env wt → (∀ p ∈ wt, σ[p.1]? = σ0[p.1]?) → ds[i]? = some d →
    J.go i H ∧ ∀ x H', J.yld i H x H' → ∃ Z', Ext Z H Z' H' ∧ Cf F Z' env σ H' ∧ Rp Z' H' x d
  stop : ∀ F Z env σ H, Ext Z0 H0 Z H → Cf F Z env σ H → WtOk env wt → (∀ p ∈ wt, σ[p.1]? = σ0[p.1]?) → J.stop ds.length H
abbrev WI := VE → (List D → Wt → VE → Prop) → Prop
def tI (w : WI) : TI := fun σ H R => ∃ F Z env Q0, Cf F Z env σ H ∧ w env Q0 ∧ ∀ ds wt env', Q0 ds wt env' → ∀ Z' H', Ext Z H Z' H' → Cf F Z' env' σ H' → WtOk env' wt → ∀ J, Wk Z' σ H' wt J ds → R J H'
theorem _root_.L2.PI.imp {X : Cx} {tg e : Expr} {t t' : TI} (h : PI X tg e t) (i : ∀ σ H R, t' σ H R → t σ H R) : PI X tg e t' := ⟨fun pins s σ H R I q => h.run pins s σ H R I (i σ H R q)⟩
/-- what a walked operand is: its items, what is watched -/
def seqOf (env : VE) : Rs → Option (List D × Wt)
  | .val (.list ds) => some (ds, [])
  | .val (.tuple ds) => some (ds, [])
  | .new (.list ds) => some (ds, [])
  | .bor i => match env[i]? with
    | some (.own (.list ds)) => some (ds, [(i, .list ds)])
    | some (.val (.list ds)) => some (ds, [])
    | _ => none
  | _ => none
/-- a held sequence as it can be read later -/
theorem seqOf_rd {F : Frm} {Z : ZS} {env : VE} {σ : L2.St} {H : Hp} {v : V} {r : Rs} {ds : List D} {wt : Wt} (c : Cf F Z env σ H) (h : Hd F Z σ H v (hold r)) (e : seqOf env r = some (ds, wt)) :
    WtOk env wt ∧ ∃ k a, v = .ref a ∧ (∀ K, ∃ vs, SqK k K H a vs ∧ RpL Z H vs ds) ∧ ∀ K F' Z' env' σ' H', Ext Z H Z' H' → Cf F' Z' env' σ' H' → WtOk env' wt → (∀ p ∈ wt, σ'[p.1]? = σ[p.1]?) → ∃ vs, SqK k K H' a vs ∧ RpL Z' H' vs ds := by
  have fixed : ∀ {d : D}, Rp Z H v d → (d = .list ds ∨ d = .tuple ds) → ∃ k a, v = .ref a ∧ (∀ K, ∃ vs, SqK k K H a vs ∧ RpL Z H vs ds) ∧ ∀ K F' Z' env' σ' H', Ext Z H Z' H' → Cf F' Z' env' σ' H' → WtOk env' [] → (∀ p ∈ ([] : Wt), σ'[p.1]? = σ[p.1]?) → ∃ vs, SqK k K H' a vs ∧ RpL Z' H' vs ds := fun {d} r hd => by
    rcases hd with rfl | rfl
    · cases r with
      | lst z ha l =>
        refine ⟨true, _, rfl, fun K => ⟨_, SqL.of ha, l⟩, fun K F' Z' env' σ' H' x c' _ _ => ⟨_, SqL.of ((x.h _ z).trans ha), l.ext x⟩⟩
    · cases r with
      | tup z ha l =>
        refine ⟨false, _, rfl, fun K => ⟨_, SqT.of ha, l⟩, fun K F' Z' env' σ' H' x c' _ _ => ⟨_, SqT.of ((x.h _ z).trans ha), l.ext x⟩⟩
  cases r with
  | src => cases e
  | val d =>
    cases d with
    | list xs => cases e; exact ⟨(fun _ h => nomatch h), fixed h (.inl rfl)⟩
    | tuple xs => cases e; exact ⟨(fun _ h => nomatch h), fixed h (.inr rfl)⟩
    | _ => cases e
  | new d =>
    cases d with
    | list xs => cases e; exact ⟨(fun _ h => nomatch h), fixed h (.inl rfl)⟩
    | _ => cases e
  | bor i =>
    have h : σ[i]? = some (some v) := h
    have e : (match env[i]? with | some (.own (.list ds)) => some (ds, [(i, PyData.list ds)]) | some (.val (.list ds)) => some (ds, []) | _ => none) = some (ds, wt) := e
    cases q : env[i]? with
    | none => rw [q] at e; cases e
    | some sl =>
      rw [q] at e
      cases sl with
      | emp => cases e
      | src => cases e
      | val d =>
        cases d with
        | list xs =>
          cases e
          obtain ⟨w, q', r⟩ := c.val i _ q
          rw [h] at q'
          cases q'
          exact ⟨(fun _ h => nomatch h), fixed r (.inl rfl)⟩
        | _ => cases e
      | own d =>
        cases d with
        | list xs =>
          cases e
          refine ⟨fun p hp => by simp at hp; subst hp; exact q, ?_⟩
          obtain ⟨a, vs, q', ha, l⟩ := c.ownL q
          rw [h] at q'
          cases q'
          refine ⟨true, a, rfl, fun K => ⟨vs, SqL.of ha, l⟩, fun K F' Z' env' σ' H' x c' wo hσ => ?_⟩
          obtain ⟨a', vs', q2, ha', l'⟩ := c'.ownL (wo (i, .list ds) (by simp))
          rw [hσ (i, .list ds) (by simp), h] at q2
          cases q2
          exact ⟨vs', SqL.of ha', l'⟩
        | _ => cases e
def wiSeq (w : WE) : WI := fun env Q => w env fun r e => onS (seqOf e r) fun p => Q p.1 p.2 e
theorem tI_seq {K : PySem.W.Frag} {w : WE} {σ : L2.St} {H : Hp} {R : It → Hp → Prop} (h : tI (wiSeq w) σ H R) : iSeq K (tV w) σ H R := by
  obtain ⟨F, Z, env, Q0, c, h, k⟩ := h
  refine ⟨F, Z, env, _, c, h, fun r e1 q1 Z1 v H1 x1 c1 rr1 => ?_⟩
  obtain ⟨Z2, x2, c2, hd⟩ := rr1.hold c1
  obtain ⟨⟨ds, wt⟩, o, q1⟩ := onS_some q1
  obtain ⟨wo, kd, a, rfl, now, later⟩ := seqOf_rd c2 hd o
  refine ⟨a, rfl, ?_⟩
  cases kd with
  | true =>
    refine .inl ⟨let ⟨vs, q, _⟩ := now K; ⟨vs, q⟩, k _ _ _ q1 Z2 H1 (x1.trans x2) c2 wo _ ⟨fun i d F' Z' env' σ' H' x' c' wo' hσ hi => ?_, fun F' Z' env' σ' H' x' c' wo' hσ => ?_⟩⟩
    · obtain ⟨vs, q, l⟩ := later K F' Z' env' σ' H' x' c' wo' hσ
      obtain ⟨y, hy, r⟩ := l.get hi
      refine ⟨⟨vs, y, q, hy⟩, fun x H'' yl => ?_⟩
      obtain ⟨rfl, yl⟩ := yl
      have e := yl vs q
      rw [hy] at e
      cases e
      exact ⟨Z', .refl _ _, c', r⟩
    · obtain ⟨vs, q, l⟩ := later K F' Z' env' σ' H' x' c' wo' hσ
      exact ⟨vs, q, by rw [l.length]; exact Nat.le_refl _⟩
  | false =>
    refine .inr ⟨let ⟨vs, q, _⟩ := now K; ⟨vs, q⟩, k _ _ _ q1 Z2 H1 (x1.trans x2) c2 wo _ ⟨fun i d F' Z' env' σ' H' x' c' wo' hσ hi => ?_, fun F' Z' env' σ' H' x' c' wo' hσ => ?_⟩⟩
    · obtain ⟨vs, q, l⟩ := later K F' Z' env' σ' H' x' c' wo' hσ
      obtain ⟨y, hy, r⟩ := l.get hi
      refine ⟨⟨vs, y, q, hy⟩, fun x H'' yl => ?_⟩
      obtain ⟨rfl, yl⟩ := yl
      have e := yl vs q
      rw [hy] at e
      cases e
      exact ⟨Z', .refl _ _, c', r⟩
    · obtain ⟨vs, q, l⟩ := later K F' Z' env' σ' H' x' c' wo' hσ
      exact ⟨vs, q, by rw [l.length]; exact Nat.le_refl _⟩
/-- enumerate(..) -/
def enumD (ds : List D) : List D := ds.zipIdx.map fun p => .tuple [.int (p.2 : Nat), p.1]
theorem enumD_get {ds : List D} {i : Nat} {d : D} (h : (enumD ds)[i]? = some d) : ∃ x, ds[i]? = some x ∧ d = .tuple [.int (i : Nat), x] := by
  unfold enumD at h
  rw [List.getElem?_map, List.getElem?_zipIdx] at h
  cases q : ds[i]? with
  | none => rw [q] at h; cases h
  | some x =>
    rw [q] at h
    simp at h
    exact ⟨x, rfl, h.symm⟩
theorem enumD_length (ds : List D) : (enumD ds).length = ds.length := by simp [enumD]
def wiEnum (w : WE) : WI := fun env Q => w env fun r e => onS (seqOf e r) fun p => Q (enumD p.1) p.2 e
theorem tI_enum {K : PySem.W.Frag} {w : WE} {σ : L2.St} {H : Hp} {R : It → Hp → Prop} (h : tI (wiEnum w) σ H R) : iEnumK K (tCons (tV w) tNil) σ H R := by
  obtain ⟨F, Z, env, Q0, c, h, k⟩ := h
  refine ⟨F, Z, env, _, c, h, fun r e1 q1 Z1 v H1 x1 c1 rr1 => ?_⟩
  obtain ⟨Z2, x2, c2, hd⟩ := rr1.hold c1
  obtain ⟨⟨ds, wt⟩, o, q1⟩ := onS_some q1
  obtain ⟨wo, kd, a, rfl, now, later⟩ := seqOf_rd c2 hd o
  obtain ⟨vs, q, l⟩ := now K
  refine ⟨kd, a, vs, rfl, q, k _ _ _ q1 Z2 H1 (x1.trans x2) c2 wo _ ⟨fun i d F' Z' env' σ' H' x' c' wo' hσ hi => ?_, fun F' Z' env' σ' H' x' c' wo' hσ => ?_⟩⟩
  · obtain ⟨vs, q, l⟩ := later K F' Z' env' σ' H' x' c' wo' hσ
    obtain ⟨x, hx, rfl⟩ := enumD_get hi
    obtain ⟨y, hy, r⟩ := l.get hx
    refine ⟨⟨vs, y, q, hy⟩, fun z H'' yl => ?_⟩
    obtain ⟨T, y', rfl, hT, rfl, yl⟩ := yl
    have e := yl vs q
    rw [hy] at e
    cases e
    exact (Made.tup (ds := [.int (i : Nat), x]) hT (.cons (.int _) (.cons r .nil))).cf c'
  · obtain ⟨vs, q, l⟩ := later K F' Z' env' σ' H' x' c' wo' hσ
    exact ⟨vs, q, by rw [l.length, enumD_length]⟩
/-- zip(.., ..) -/
def zipD (ds es : List D) : List D := List.zipWith (fun a b => .tuple [a, b]) ds es
def wiZip (w1 w2 : WE) : WI := fun env Q => w1 env fun r1 e1 => w2 e1 fun r2 e2 => onS (seqOf e2 (hold r1)) fun p1 => onS (seqOf e2 r2) fun p2 => Q (zipD p1.1 p2.1) (p1.2 ++ p2.2) e2
theorem tI_zip {K : PySem.W.Frag} {w1 w2 : WE} {σ : L2.St} {H : Hp} {R : It → Hp → Prop} (h : tI (wiZip w1 w2) σ H R) : iZipK K (tCons (tV w1) (tCons (tV w2) tNil)) σ H R := by
  obtain ⟨F, Z, env, Q0, c, h, k⟩ := h
  refine ⟨F, Z, env, _, c, h, fun r e1 q1 Z1 v H1 x1 c1 rr1 => ?_⟩
  obtain ⟨Z2, x2, c2, hd⟩ := rr1.hold c1
  refine ⟨F, Z2, e1, _, c2, q1, fun r2 e2 q2 Z3 u H3 x3 c3 rr3 => ?_⟩
  obtain ⟨Z4, x4, c4, hd4⟩ := rr3.hold c3
  obtain ⟨⟨ds, wt⟩, o, q2⟩ := onS_some q2
  obtain ⟨⟨es, wt2⟩, o2, q2⟩ := onS_some q2
  have hd' : Hd F Z4 σ H3 v (hold (hold r)) := by
    have e : hold (hold r) = hold r := by cases r <;> rfl
    rw [e]
    exact (hd.ext x3).ext x4
  obtain ⟨wo, kd, a, rfl, now, later⟩ := seqOf_rd c4 hd' o
  obtain ⟨wo2, kd2, b, rfl, now2, later2⟩ := seqOf_rd c4 hd4 o2
  obtain ⟨vs, q, l⟩ := now K
  obtain ⟨vs2, qq2, l2⟩ := now2 K
  have split : ∀ {env' : VE}, WtOk env' (wt ++ wt2) → WtOk env' wt ∧ WtOk env' wt2 := fun h => ⟨fun p hp => h p (List.mem_append_left _ hp), fun p hp => h p (List.mem_append_right _ hp)⟩
  refine ⟨kd, kd2, a, b, vs, vs2, rfl, q, qq2, k _ _ _ q2 Z4 H3 (((x1.trans x2).trans x3).trans x4) c4 (fun p hp => (List.mem_append.mp hp).elim (wo p) (wo2 p)) _ ⟨fun i d F' Z' env' σ' H' x' c' wo' hσ hi => ?_, fun F' Z' env' σ' H' x' c' wo' hσ => ?_⟩⟩
  · obtain ⟨w1', w2'⟩ := split wo'
    obtain ⟨vs, q, l⟩ := later K F' Z' env' σ' H' x' c' w1' fun p hp => hσ p (List.mem_append_left _ hp)
    obtain ⟨vs2, qq2, l2⟩ := later2 K F' Z' env' σ' H' x' c' w2' fun p hp => hσ p (List.mem_append_right _ hp)
    unfold zipD at hi
    rw [List.getElem?_zipWith] at hi
    cases e1 : ds[i]? with
    | none => rw [e1] at hi; cases hi
    | some x =>
      cases e2 : es[i]? with
      | none => rw [e1, e2] at hi; cases hi
      | some y =>
        rw [e1, e2] at hi
        cases hi
        obtain ⟨vx, hx, rx⟩ := l.get e1
        obtain ⟨vy, hy, ry⟩ := l2.get e2
        refine ⟨⟨vs, vs2, vx, vy, q, qq2, hx, hy⟩, fun z H'' yl => ?_⟩
        obtain ⟨T, x', y', rfl, hT, rfl, yl1, yl2⟩ := yl
        have e1 := yl1 vs q
        have e2 := yl2 vs2 qq2
        rw [hx] at e1
        rw [hy] at e2
        cases e1
        cases e2
        exact (Made.tup (ds := [x, y]) hT (.cons rx (.cons ry .nil))).cf c'
  · obtain ⟨w1', w2'⟩ := split wo'
    obtain ⟨vs, q, l⟩ := later K F' Z' env' σ' H' x' c' w1' fun p hp => hσ p (List.mem_append_left _ hp)
    obtain ⟨vs2, qq2, l2⟩ := later2 K F' Z' env' σ' H' x' c' w2' fun p hp => hσ p (List.mem_append_right _ hp)
    refine ⟨vs, vs2, q, qq2, ?_⟩
    rw [l.length, l2.length]
    simp only [zipD, List.length_zipWith]
    omega
/-- range(n), range(a, b), range(a, b, c) -/
def rangeD (lo : Int) (n : Nat) : List D := (List.range n).map fun i => .int (lo + (i : Nat))
def rangeC (lo c : Int) (n : Nat) : List D := (List.range n).map fun i => .int (lo + (i : Nat) * c)
def big62 (i : Int) : Prop := -(2 ^ 62) ≤ i ∧ i < 2 ^ 62
def wiRange1 (w : WE) : WI := fun env Q => w env fun r e => match opd e r with
  | some (.int j) => big62 j ∧ Q (rangeD 0 j.toNat) [] e
  | _ => False
def wiRange2 (w1 w2 : WE) : WI := fun env Q => w1 env fun r1 e1 => w2 e1 fun r2 e2 => match opd e2 r1, opd e2 r2 with
  | some (.int i), some (.int j) => big62 i ∧ big62 j ∧ Q (rangeD i (j - i).toNat) [] e2
  | _, _ => False
def wiRange3 (w1 w2 w3 : WE) : WI := fun env Q => w1 env fun r1 e1 => w2 e1 fun r2 e2 => w3 e2 fun r3 e3 => match opd e3 r1, opd e3 r2, opd e3 r3 with
  | some (.int i), some (.int j), some (.int c) => ∃ n, RgC i j c n ∧ Q (rangeC i c n) [] e3
  | _, _, _ => False
theorem wk_range {Z : ZS} {σ : L2.St} {H : Hp} {lo : Int} {n : Nat} : Wk Z σ H [] (Itr lo n) (rangeD lo n) where
  go := fun i d F' Z' env' σ' H' x' c' _ _ hi => by
    unfold rangeD at hi
    rw [List.getElem?_map] at hi
    cases q : (List.range n)[i]? with
    | none => rw [q] at hi; cases hi
    | some m =>
      rw [q] at hi
      cases hi
      obtain ⟨h1, h2⟩ := List.getElem?_eq_some_iff.mp q
      have hlt : i < n := by simpa using h1
      have e : m = i := by rw [← h2]; simp
      subst e
      refine ⟨hlt, fun x H'' y => ?_⟩
      obtain ⟨rfl, rfl⟩ := y
      exact ⟨Z', .refl _ _, c', .int _⟩
  stop := fun F' Z' env' σ' H' x' c' _ _ => by
    show n ≤ (rangeD lo n).length
    simp [rangeD]
theorem wk_rangeC {Z : ZS} {σ : L2.St} {H : Hp} {lo c : Int} {n : Nat} : Wk Z σ H [] (Itc lo c n) (rangeC lo c n) where
  go := fun i d F' Z' env' σ' H' x' c' _ _ hi => by
    unfold rangeC at hi
    rw [List.getElem?_map] at hi
    cases q : (List.range n)[i]? with
    | none => rw [q] at hi; cases hi
    | some m =>
      rw [q] at hi
      cases hi
      obtain ⟨h1, h2⟩ := List.getElem?_eq_some_iff.mp q
      have hlt : i < n := by simpa using h1
      have e : m = i := by rw [← h2]; simp
      subst e
      refine ⟨hlt, fun x H'' y => ?_⟩
      obtain ⟨rfl, rfl⟩ := y
      exact ⟨Z', .refl _ _, c', .int _⟩
  stop := fun F' Z' env' σ' H' x' c' _ _ => by
    show n ≤ (rangeC lo c n).length
    simp [rangeC]
theorem tI_range1 {w : WE} {σ : L2.St} {H : Hp} {R : It → Hp → Prop} (h : tI (wiRange1 w) σ H R) : iRng1 (tCons (tV w) tNil) σ H R := by
  obtain ⟨F, Z, env, Q0, c, h, k⟩ := h
  refine ⟨F, Z, env, _, c, h, fun r e1 q1 Z1 v H1 x1 c1 rr1 => ?_⟩
  obtain ⟨Z2, x2, c2, hd⟩ := rr1.hold c1
  split at q1
  · rename_i j o
    have ev := rd_int (hd.opd c2 (by rw [opd_hold]; exact o))
    subst ev
    exact ⟨j, rfl, q1.1.1, q1.1.2, k _ _ _ q1.2 Z2 H1 (x1.trans x2) c2 (fun _ h => nomatch h) _ wk_range⟩
  · exact q1.elim
theorem tI_range2 {w1 w2 : WE} {σ : L2.St} {H : Hp} {R : It → Hp → Prop} (h : tI (wiRange2 w1 w2) σ H R) : iRng2 (tCons (tV w1) (tCons (tV w2) tNil)) σ H R := by
  obtain ⟨F, Z, env, Q0, c, h, k⟩ := h
  refine ⟨F, Z, env, _, c, h, fun r e1 q1 Z1 v H1 x1 c1 rr1 => ?_⟩
  obtain ⟨Z2, x2, c2, hd⟩ := rr1.hold c1
  refine ⟨F, Z2, e1, _, c2, q1, fun r2 e2 q2 Z3 u H3 x3 c3 rr3 => ?_⟩
  obtain ⟨Z4, x4, c4, hd4⟩ := rr3.hold c3
  split at q2
  · rename_i i j o o2
    have ev := rd_int (((hd.ext x3).ext x4).opd c4 (by rw [opd_hold]; exact o))
    have eu := rd_int (hd4.opd c4 (by rw [opd_hold]; exact o2))
    subst ev
    subst eu
    exact ⟨i, j, rfl, ⟨q2.1.1, q2.1.2, q2.2.1.1, q2.2.1.2⟩, k _ _ _ q2.2.2 Z4 H3 (((x1.trans x2).trans x3).trans x4) c4 (fun _ h => nomatch h) _ wk_range⟩
  · exact q2.elim
theorem tI_range3 {w1 w2 w3 : WE} {σ : L2.St} {H : Hp} {R : It → Hp → Prop} (h : tI (wiRange3 w1 w2 w3) σ H R) : iRng3 (tCons (tV w1) (tCons (tV w2) (tCons (tV w3) tNil))) σ H R := by
  obtain ⟨F, Z, env, Q0, c, h, k⟩ := h
  refine ⟨F, Z, env, _, c, h, fun r e1 q1 Z1 v H1 x1 c1 rr1 => ?_⟩
  obtain ⟨Z2, x2, c2, hd⟩ := rr1.hold c1
  refine ⟨F, Z2, e1, _, c2, q1, fun r2 e2 q2 Z3 u H3 x3 c3 rr3 => ?_⟩
  obtain ⟨Z4, x4, c4, hd4⟩ := rr3.hold c3
  refine ⟨F, Z4, e2, _, c4, q2, fun r3 e3 q3 Z5 t H5 x5 c5 rr5 => ?_⟩
  obtain ⟨Z6, x6, c6, hd6⟩ := rr5.hold c5
  split at q3
  · rename_i i j st o o2 o3
    have ev := rd_int (((((hd.ext x3).ext x4).ext x5).ext x6).opd c6 (by rw [opd_hold]; exact o))
    have eu := rd_int (((hd4.ext x5).ext x6).opd c6 (by rw [opd_hold]; exact o2))
    have et := rd_int (hd6.opd c6 (by rw [opd_hold]; exact o3))
    subst ev
    subst eu
    subst et
    obtain ⟨n, rg, q3⟩ := q3
    exact ⟨i, j, st, n, rfl, rg, k _ _ _ q3 Z6 H5 (((((x1.trans x2).trans x3).trans x4).trans x5).trans x6) c6 (fun _ h => nomatch h) _ wk_rangeC⟩
  · exact q3.elim
end VL

namespace VL
open PySem PySem.Spec PyProof.Rows L2

/-! ### for, while -/
def wForW (g : WG) (b : WS) : List D → VE → (Fl → VE → Prop) → Prop
  | [], env, Q => Q .nx env
  | d :: ds, env, Q => g d env fun e1 => b e1 fun fl e2 => match fl with
    | .nx => wForW g b ds e2 Q
    | .ct => wForW g b ds e2 Q
    | .bk => Q .nx e2
    | .rt r => Q (.rt r) e2
def wFor (wi : WI) (g : WG) (b : WS) : WS := fun env Q => wi env fun ds wt e => wt = [] ∧ wForW g b ds e Q
theorem drop_get {α : Type} {l : List α} {i : Nat} {x : α} (h : l[i]? = some x) : l.drop i = x :: l.drop (i + 1) := by
  obtain ⟨h1, h2⟩ := List.getElem?_eq_some_iff.mp h
  rw [List.drop_eq_getElem_cons h1, h2]
theorem tS_for {is : List Nat} {wi : WI} {g : WG} {b : WS} {E : Ends} {σ : L2.St} {H : Hp} (h : tS (wFor wi g b) E σ H) : tFor (tI wi) (tG is g) (tS b) E σ H := by
  obtain ⟨F, Z, env, Q0, c, h, k⟩ := h
  refine ⟨F, Z, env, _, c, h, fun ds wt e0 ⟨hwt, q0⟩ Z1 H1 x1 c1 wo J wk => ?_⟩
  subst hwt
  refine ⟨fun i m σ' H' => m = ds.length - i ∧ i ≤ ds.length ∧ ∃ Z' e, Ext Z1 H1 Z' H' ∧ Cf F Z' e σ' H' ∧ wForW g b (ds.drop i) e Q0, ⟨_, rfl, Nat.zero_le _, Z1, e0, .refl _ _, c1, q0⟩, ?_⟩
  rintro i m σ' H' ⟨rfl, hi, Z', e, x', c', q⟩
  by_cases hlt : i < ds.length
  · have hd : ds[i]? = some ds[i] := List.getElem?_eq_getElem hlt
    rw [drop_get hd] at q
    obtain ⟨go, yl⟩ := wk.go i ds[i] F Z' e σ' H' x' c' (fun _ h => nomatch h) (fun _ h => nomatch h) hd
    refine .inr ⟨go, fun σ2 H2 => ∃ Z2 e2, Ext Z1 H1 Z2 H2 ∧ Cf F Z2 e2 σ2 H2 ∧ wForW g b (ds.drop (i + 1)) e2 Q0, fun σ2 H2 ⟨Z2, e2, n⟩ => ⟨ds.length - (i + 1), by omega, rfl, hlt, Z2, e2, n⟩, fun x H2 y => ?_⟩
    obtain ⟨Z2, x2, c2, r2⟩ := yl x H2 y
    refine ⟨F, Z2, e, _, ds[i], c2, r2, q, fun e3 q3 σ3 _ c3 => ?_⟩
    refine ⟨F, Z2, e3, _, c3, q3, fun fl e4 q4 Z4 σ4 H4 x4 c4 => ?_⟩
    cases fl with
    | nx => exact ⟨Z4, e4, (x'.trans x2).trans x4, c4, q4⟩
    | ct => exact ⟨Z4, e4, (x'.trans x2).trans x4, c4, q4⟩
    | bk => exact k _ _ q4 Z4 σ4 H4 (((x1.trans x').trans x2).trans x4) c4
    | rt d => exact k _ _ q4 Z4 σ4 H4 (((x1.trans x').trans x2).trans x4) c4
  · have e1 : i = ds.length := by omega
    subst e1
    rw [List.drop_length] at q
    exact .inl ⟨wk.stop F Z' e σ' H' x' c' (fun _ h => nomatch h) (fun _ h => nomatch h), k _ _ q Z' σ' H' (x1.trans x') c'⟩
def wWhileN (t : WT) (b : WS) : Nat → VE → (Fl → VE → Prop) → Prop
  | 0, _, _ => False
  | n + 1, env, Q => t env fun x e => (x = true → b e fun fl e2 => match fl with
      | .nx => wWhileN t b n e2 Q
      | .ct => wWhileN t b n e2 Q
      | .bk => Q .nx e2
      | .rt r => Q (.rt r) e2) ∧ (x = false → Q .nx e)
def wWhile (t : WT) (b : WS) : WS := fun env Q => ∃ n, wWhileN t b n env Q
theorem tS_while {t : WT} {b : WS} {E : Ends} {σ : L2.St} {H : Hp} (h : tS (wWhile t b) E σ H) : tWhile (tVT t) (tS b) E σ H := by
  obtain ⟨F, Z, env, Q0, c, ⟨n, h⟩, k⟩ := h
  refine ⟨fun m σ' H' => ∃ Z' e, Ext Z H Z' H' ∧ Cf F Z' e σ' H' ∧ wWhileN t b m e Q0, ⟨n, Z, env, .refl _ _, c, h⟩, ?_⟩
  rintro m σ' H' ⟨Z', e, x', c', q⟩
  cases m with
  | zero => exact q.elim
  | succ m =>
    refine ⟨F, Z', e, _, c', q, fun x e1 q1 Z1 H1 x1 c1 => ?_⟩
    cases x with
    | true =>
      rw [if_pos rfl]
      refine ⟨fun σ2 H2 => ∃ Z2 e2, Ext Z H Z2 H2 ∧ Cf F Z2 e2 σ2 H2 ∧ wWhileN t b m e2 Q0, fun σ2 H2 n => ⟨m, Nat.lt_succ_self _, n⟩, F, Z1, e1, _, c1, q1.1 rfl, fun fl e2 q2 Z2 σ2 H2 x2 c2 => ?_⟩
      cases fl with
      | nx => exact ⟨Z2, e2, (x'.trans x1).trans x2, c2, q2⟩
      | ct => exact ⟨Z2, e2, (x'.trans x1).trans x2, c2, q2⟩
      | bk => exact k _ _ q2 Z2 σ2 H2 ((x'.trans x1).trans x2) c2
      | rt d => exact k _ _ q2 Z2 σ2 H2 ((x'.trans x1).trans x2) c2
    | false =>
      rw [if_neg Bool.false_ne_true]
      exact k _ _ (q1.2 rfl) Z1 σ' H1 (x'.trans x1) c1

/-! ### comprehensions -/
def wipeE (env : VE) : List Nat → VE
  | [] => env
  | v :: vs => (wipeE env vs).set v .emp
theorem Cf.wipe {F : Frm} {Z : ZS} {env : VE} {σ : L2.St} {H : Hp} (c : Cf F Z env σ H) : ∀ vs : List Nat, Cf F Z (wipeE env vs) (wipe σ vs) H
  | [] => c
  | v :: vs => (Cf.wipe c vs).putEmp v none
theorem wipe_get (σ : L2.St) : ∀ (vs : List Nat) (j : Nat), (wipe σ vs)[j]? = if j ∈ vs then (σ[j]?).map (fun _ => none) else σ[j]?
  | [], j => by simp [L2.wipe]
  | v :: vs, j => by
    unfold L2.wipe
    by_cases e : v = j
    · subst e
      rw [if_pos (List.mem_cons_self ..)]
      by_cases h : v < (wipe σ vs).length
      · rw [List.getElem?_set_self h]
        have h2 : v < σ.length := by rw [wipe_length] at h; exact h
        rw [List.getElem?_eq_getElem h2]
        rfl
      · have h2 : σ.length ≤ v := by rw [wipe_length] at h; omega
        rw [List.getElem?_eq_none (by rw [List.length_set]; omega), List.getElem?_eq_none h2]
        rfl
    · rw [List.getElem?_set_ne e, wipe_get σ vs j]
      have : (j ∈ v :: vs) = (j ∈ vs) := by simp [Ne.symm e]
      simp only [this]
theorem wipe_off {is vs : List Nat} {σ σ' : L2.St} (o : Off is σ σ') (h : ∀ i ∈ is, i ∈ vs) : wipe σ' vs = wipe σ vs := by
  apply List.ext_getElem?
  intro j
  rw [wipe_get, wipe_get]
  by_cases hj : j ∈ vs
  · rw [if_pos hj, if_pos hj]
    by_cases hl : j < σ.length
    · have hl' : j < σ'.length := by rw [o.1]; exact hl
      rw [List.getElem?_eq_getElem hl, List.getElem?_eq_getElem hl']
      rfl
    · have hl' : ¬ j < σ'.length := by rw [o.1]; exact hl
      rw [List.getElem?_eq_none (Nat.le_of_not_lt hl), List.getElem?_eq_none (Nat.le_of_not_lt hl')]
  · rw [if_neg hj, if_neg hj]
    exact o.2 j fun hi => hj (h j hi)
theorem wipe_wipe (σ : L2.St) (vs : List Nat) : wipe (wipe σ vs) vs = wipe σ vs := by
  apply List.ext_getElem?
  intro j
  rw [wipe_get, wipe_get]
  by_cases hj : j ∈ vs
  · rw [if_pos hj, if_pos hj]
    cases σ[j]? <;> rfl
  · rw [if_neg hj, if_neg hj]
/-- a slot as it was ahead of the comprehension -/
def backE (e0 : VE) : List Nat → VE → VE
  | [], e => e
  | v :: vs, e => backE e0 vs (e.set v ((e0[v]?).getD .emp))
def slOk : Option Sl → Bool
  | some (.own _) => false
  | _ => true
def ownOk (e0 : VE) (own : List Nat) : Bool := own.all fun v => slOk (e0[v]?)
theorem Cf.backE {F : Frm} {Z Z0 : ZS} {e0 : VE} {σ : L2.St} {H H0 : Hp} (c0 : Cf F Z0 e0 σ H0) (x : Ext Z0 H0 Z H) : ∀ (vs : List Nat) (e : VE), vs.Nodup → ownOk e0 vs = true → Cf F Z e (L2.wipe σ vs) H → Cf F Z (VL.backE e0 vs e) σ H
  | [], e, _, _, c => c
  | v :: vs, e, nd, ok, c => by
    rw [List.nodup_cons] at nd
    simp only [ownOk, List.all_cons, Bool.and_eq_true] at ok
    refine Cf.backE c0 x vs _ nd.2 ok.2 ?_
    have e1 : L2.wipe σ vs = (L2.wipe σ (v :: vs)).set v ((σ[v]?).getD none) := by
      show L2.wipe σ vs = ((L2.wipe σ vs).set v none).set v _
      rw [List.set_set]
      apply List.ext_getElem?
      intro j
      by_cases hj : v = j
      · subst hj
        rw [wipe_get, if_neg nd.1]
        by_cases hl : v < σ.length
        · rw [List.getElem?_set_self (by rw [wipe_length]; exact hl), List.getElem?_eq_getElem hl]
          rfl
        · rw [List.getElem?_eq_none (by omega), List.getElem?_eq_none (by rw [List.length_set, wipe_length]; omega)]
      · rw [List.getElem?_set_ne hj]
    rw [e1]
    refine c.put v _ _ (fun d hd => ?_) (fun d hd => ?_) (fun hd => ?_)
    · cases q : e0[v]? with
      | none => rw [q] at hd; cases hd
      | some s =>
        rw [q] at hd
        have hd : s = .val d := hd
        subst hd
        obtain ⟨w, hw, r⟩ := c0.val v d q
        exact ⟨w, by rw [hw]; rfl, r.ext x⟩
    · cases q : e0[v]? with
      | none => rw [q] at hd; cases hd
      | some s =>
        rw [q] at hd
        have hd : s = .own d := hd
        subst hd
        rw [q] at ok
        exact absurd ok.1 (by simp [slOk])
    · cases q : e0[v]? with
      | none => rw [q] at hd; cases hd
      | some s =>
        rw [q] at hd
        have hd : s = .src := hd
        subst hd
        rw [c0.srcs v q]
        rfl
def wYes : WT := fun env Q => Q true env
theorem tVT_yes {σ : L2.St} {H : Hp} {Q : Bool → Hp → Prop} (h : tVT wYes σ H Q) : tYes σ H Q := by
  obtain ⟨F, Z, env, Q0, c, h, k⟩ := h
  exact k _ _ h Z H (.refl Z H) c
theorem _root_.L2.PTs.imp {X : Cx} {e : List Expr} {t t' : TT} (h : PTs X e t) (i : ∀ σ H Q, t' σ H Q → t σ H Q) : PTs X e t' := ⟨fun pins s σ H Q I q => h.run pins s σ H Q I (i σ H Q q)⟩
def wCompW (own : List Nat) (g : WG) (tt : WT) (te : WE) (wt : Wt) : List D → List D → VE → (List D → VE → Prop) → Prop
  | [], acc, e, Q => WtOk e wt ∧ Q acc e
  | d :: ds, acc, e, Q => WtOk e wt ∧ g d e fun e1 => tt e1 fun b e2 => (b = true → te e2 fun r e3 => onS (frz1 e3 r) fun p => acc.length < LIM ∧ wCompW own g tt te wt ds (acc ++ [p.1]) (wipeE p.2 own) Q) ∧
      (b = false → wCompW own g tt te wt ds acc (wipeE e2 own) Q)
def wtOff (own : List Nat) (wt : Wt) : Bool := wt.all fun p => !own.contains p.1
def wComp (own : List Nat) (wi : WI) (g : WG) (tt : WT) (te : WE) : WE := fun env Q => wi env fun ds wt e0 => ownOk e0 own = true ∧ wtOff own wt = true ∧
  wCompW own g tt te wt ds [] (wipeE e0 own) fun acc e => Q (.new (.list acc)) (backE e0 own e)
/-- an object kept aside is changed -/
theorem Cf.asideMut {F : Frm} {Z : ZS} {env : VE} {σ : L2.St} {H : Hp} {a : Addr} {o o' : HO} (c : Cf (F.keep a o) Z env σ H) (h0 : F.H0 a = none) (n1 : a ≠ F.sa) (n2 : a ≠ F.ca) (z0 : ∀ b, F.Z0 b → F.H0 b ≠ none) :
    Cf (F.keep a o') Z env σ (upd H a o') ∧ Ext Z H Z (upd H a o') := by
  obtain ⟨cb, ha, nz, no⟩ := c.back h0 n1 n2 z0
  have x : Ext Z H Z (upd H a o') := ⟨fun _ h => h, fun b z => upd_ne (by rintro rfl; exact nz z)⟩
  refine ⟨⟨c.len, fun i d q => let ⟨v, q', r⟩ := c.val i d q; ⟨v, q', r.ext x⟩, fun i d q => ?_, c.uniq, c.srcs, ?_, c.zs, c.zc, fun b z => ?_, fun b z => ?_, fun b z => ?_, fun b u q m1 m2 => ?_⟩, x⟩
  · obtain ⟨b, q', r, m⟩ := c.own i d q
    have hb : b ≠ a := by rintro rfl; exact no i d q q'
    exact ⟨b, q', r.ext x (upd_ne hb), m.1, (by
      have m2 : (if b = a then some o else F.H0 b) = none := m.2.1
      rw [if_neg hb] at m2
      show (if b = a then some o' else F.H0 b) = none
      rw [if_neg hb]; exact m2), m.2.2⟩
  · obtain ⟨hne, cs, l, m, t, hcs, h1, h2⟩ := c.srcH
    exact ⟨hne, cs, l, m, t, hcs, (upd_ne (Ne.symm n2)).trans h1, (upd_ne (Ne.symm n1)).trans h2⟩
  · rw [x.h b z]; exact c.zdom b z
  · rcases c.zold b z with z | q
    · exact .inl z
    · refine .inr ?_
      have hb : b ≠ a := by rintro rfl; exact nz z
      have q : (if b = a then some o else F.H0 b) = none := q
      rw [if_neg hb] at q
      show (if b = a then some o' else F.H0 b) = none
      rw [if_neg hb]; exact q
  · have := z0 b z
    show (if b = a then some o' else F.H0 b) ≠ none
    by_cases e : b = a
    · rw [if_pos e]; exact fun q => by cases q
    · rw [if_neg e]; exact this
  · have q : (if b = a then some o' else F.H0 b) = some u := q
    by_cases e : b = a
    · subst e; rw [if_pos rfl] at q; cases q; exact upd_same
    · rw [if_neg e] at q
      rw [upd_ne e]
      refine c.pres b u ?_ m1 m2
      show (if b = a then some o else F.H0 b) = some u
      rw [if_neg e]; exact q
theorem tV_comp {is own : List Nat} {wi : WI} {g : WG} {tt : WT} {te : WE} {σ : L2.St} {H : Hp} {Q : VK} (hio : ∀ i ∈ is, i ∈ own) (nd : own.Nodup) (h : tV (wComp own wi g tt te) σ H Q) : tLc (tI wi) (tG is g) (tVT tt) (tV te) own σ H Q := by
  obtain ⟨F, Z, env, Q0, c, h, k⟩ := h
  refine ⟨F, Z, env, _, c, h, fun ds wt e0 ⟨ok, wof, q0⟩ Z1 H1 x1 c1 wo J wk D hD => ?_⟩
  obtain ⟨h0, n1, n2, nz, no⟩ := c1.old_none hD
  obtain ⟨c2, x2⟩ := c1.lay (o := .lst []) hD
  have c3 := c2.aside (a := D) (o := .lst []) (d := .list []) ⟨D, rfl, ⟨[], upd_same, .nil⟩, nz, h0, n1, n2, no⟩ upd_same
  have c4 := c3.wipe own
  have hσ : ∀ p ∈ wt, (wipe σ own)[p.1]? = σ[p.1]? := fun p hp => by
    have := List.all_eq_true.mp wof p hp
    rw [wipe_get, if_neg (by simpa using this)]
  refine ⟨fun i m H' => m = ds.length - i ∧ i ≤ ds.length ∧ ∃ Z' e vs acc, Ext Z1 H1 Z' H' ∧ Cf (F.keep D (.lst vs)) Z' e (wipe σ own) H' ∧ RpL Z' H' vs acc ∧
    wCompW own g tt te wt (ds.drop i) acc e fun acc e => Q0 (.new (.list acc)) (backE e0 own e), ⟨_, rfl, Nat.zero_le _, Z1, _, [], [], x2, c4, .nil, q0⟩, ?_⟩
  rintro i m H' ⟨rfl, hi, Z', e, vs, acc, x', c', l', q⟩
  obtain ⟨cb, hD', nzD, noD⟩ := c'.back h0 n1 n2 c1.z0d
  by_cases hlt : i < ds.length
  · have hd : ds[i]? = some ds[i] := List.getElem?_eq_getElem hlt
    rw [drop_get hd] at q
    obtain ⟨wo', q⟩ := q
    obtain ⟨go, yl⟩ := wk.go i ds[i] _ Z' e (wipe σ own) H' x' c' wo' hσ hd
    refine .inr ⟨go, fun H2 => ∃ Z2 e2 vs2 acc2, Ext Z1 H1 Z2 H2 ∧ Cf (F.keep D (.lst vs2)) Z2 e2 (wipe σ own) H2 ∧ RpL Z2 H2 vs2 acc2 ∧ wCompW own g tt te wt (ds.drop (i + 1)) acc2 e2 fun acc e => Q0 (.new (.list acc)) (backE e0 own e),
      fun H2 n => ⟨ds.length - (i + 1), by omega, rfl, hlt, n⟩, fun x H2 y => ?_⟩
    obtain ⟨Z2, x2, c2, r2⟩ := yl x H2 y
    refine ⟨_, Z2, e, _, ds[i], c2, r2, q, fun e3 q3 σ3 o3 c3 => ?_⟩
    have hw : wipe σ3 own = wipe σ own := (wipe_off o3 hio).trans (wipe_wipe σ own)
    refine ⟨hw, _, Z2, e3, _, c3, q3, fun b e4 q4 Z4 H4 x4 c4 => ?_⟩
    cases b with
    | false =>
      rw [if_neg Bool.false_ne_true]
      have c5 := c4.wipe own
      rw [hw] at c5
      exact ⟨Z4, _, vs, acc, (x'.trans x2).trans x4, c5, (l'.ext x2).ext x4, q4.2 rfl⟩
    | true =>
      rw [if_pos rfl]
      refine ⟨_, Z4, e4, _, c4, q4.1 rfl, fun r e5 q5 Z5 y H5 x5 c5 rr5 => ?_⟩
      obtain ⟨Z6, x6, c6, hd6⟩ := rr5.hold c5
      obtain ⟨⟨d, e7⟩, o, hl, q7⟩ := onS_some q5
      obtain ⟨Z7, x7, c7, r7⟩ := hd6.frz1 c6 o
      have xx := ((((x2.trans x4).trans x5).trans x6).trans x7)
      obtain ⟨_, hD5, _, _⟩ := c7.back h0 n1 n2 c1.z0d
      have l7 := (l'.ext xx)
      obtain ⟨c8, x8⟩ := c7.asideMut (o' := .lst (vs ++ [y])) h0 n1 n2 c1.z0d
      have c9 := c8.wipe own
      rw [hw] at c9
      exact ⟨vs, hD5, by rw [l7.length]; exact lim_lt hl, Z7, _, vs ++ [y], _, ((x'.trans xx).trans x8), c9, (l7.append (.cons r7 .nil)).ext x8, q7⟩
  · have e1 : i = ds.length := by omega
    subst e1
    rw [List.drop_length] at q
    obtain ⟨wo', q⟩ := q
    refine .inl ⟨wk.stop _ Z' e (wipe σ own) H' x' c' wo' hσ, ?_⟩
    have cB := Cf.backE c1 x' own e nd ok cb
    refine k _ _ q Z' _ H' (x1.trans x') cB ⟨D, rfl, ⟨vs, hD', l'⟩, nzD, h0, n1, n2, ?_⟩
    -- no slot of ours holds the new list
    intro j d' hj hq
    obtain ⟨b, q', ob, nb, m0, m⟩ := cB.own j d' hj
    rw [hq] at q'
    cases q'
    -- an owned slot of the end was one of the loop's
    have key : ∀ (own' : List Nat) (e : VE), ownOk e0 own' = true → (VL.backE e0 own' e)[j]? = some (.own d') → (∃ d2, e[j]? = some (.own d2)) ∧ j ∉ own' := by
      intro own'
      induction own' with
      | nil => intro e _ h; exact ⟨⟨d', h⟩, by simp⟩
      | cons v vs ih =>
        intro e ok h
        simp only [ownOk, List.all_cons, Bool.and_eq_true] at ok
        obtain ⟨⟨d2, h2⟩, h3⟩ := ih _ ok.2 h
        rcases set_get h2 with ⟨rfl, hl, e'⟩ | ⟨ne, h2⟩
        · cases q : e0[v]? with
          | none => rw [q] at e'; cases e'
          | some s =>
            rw [q] at e' ok
            have e' : Sl.own d2 = s := e'
            subst e'
            exact absurd ok.1 (by simp [slOk])
        · exact ⟨⟨d2, h2⟩, by simp [Ne.symm ne, h3]⟩
    obtain ⟨⟨d2, h2⟩, h3⟩ := key own e ok hj
    refine noD j d2 h2 ?_
    rw [wipe_get, if_neg h3]
    exact hq
end VL

namespace VL
open PySem PySem.Spec PyProof.Rows L2

/-! ### more operands -/
def gIsN : F2 := fun a b Q => b = .none ∧ Q (.val (.bool (isNoneD a)))
def gNotN : F2 := fun a b Q => b = .none ∧ Q (.val (.bool (!isNoneD a)))
def gIsB : F2 := fun a b Q => match a, b with
  | .bool x, .bool y => Q (.val (.bool (decide (x = y))))
  | _, _ => False
def gNotB : F2 := fun a b Q => match a, b with
  | .bool x, .bool y => Q (.val (.bool (!decide (x = y))))
  | _, _ => False
section
variable {X : Cx}
theorem sp_gIsN : OpSpec (fun x y H Q => y = .non ∧ Q (.bl (decide (x = .non))) H) gIsN := by
  intro Z H x y a b Q0 Q ha hb h k
  obtain ⟨rfl, h⟩ := h
  refine ⟨rd_none hb, ?_⟩
  rw [rd_nonDec ha]
  exact k _ _ _ h (.old (.bl _))
theorem sp_gNotN : OpSpec (fun x y H Q => y = .non ∧ Q (.bl (!decide (x = .non))) H) gNotN := by
  intro Z H x y a b Q0 Q ha hb h k
  obtain ⟨rfl, h⟩ := h
  refine ⟨rd_none hb, ?_⟩
  rw [rd_nonDec ha]
  exact k _ _ _ h (.old (.bl _))
theorem sp_gIsB : OpSpec rIsB gIsB := by
  intro Z H x y a b Q0 Q ha hb h k
  unfold gIsB at h
  split at h
  · rw [rd_bool ha, rd_bool hb]
    exact ⟨_, _, rfl, rfl, k _ _ _ h (.old (.bl _))⟩
  · exact h.elim
theorem sp_gNotB : OpSpec rNotB gNotB := by
  intro Z H x y a b Q0 Q ha hb h k
  unfold gNotB at h
  split at h
  · rw [rd_bool ha, rd_bool hb]
    exact ⟨_, _, rfl, rfl, k _ _ _ h (.old (.bl _))⟩
  · exact h.elim
/-! chains -/
def wChain (f f' : F2) (wa wb wc : WE) : WE := fun env Q => wa env fun r1 e1 => wb e1 fun r2 e2 => onS (opd e2 r1) fun d1 => onS (opd e2 r2) fun d2 => f d1 d2 fun r => match r with
  | .val (.bool k) => (k = true → wc e2 fun r3 e3 => onS (opd e3 r2) fun d2' => onS (opd e3 r3) fun d3 => f' d2' d3 fun r' => Q r' e3) ∧ (k = false → Q (.val (.bool false)) e2)
  | _ => False
theorem tV_chain {f f' : F2} {r r' : R2} (hs : OpSpec r f) (hs' : OpSpec r' f') {wa wb wc : WE} {σ : L2.St} {H : Hp} {Q : VK} (h : tV (wChain f f' wa wb wc) σ H Q) : tChain r r' (tV wa) (tV wb) (tV wc) σ H Q := by
  obtain ⟨F, Z, env, Q0, c, h, k⟩ := h
  refine ⟨F, Z, env, _, c, h, fun r1 e1 q1 Z1 x H1 x1 c1 rr1 => ?_⟩
  obtain ⟨Z1', x1', c1', hd1⟩ := rr1.hold c1
  refine ⟨F, Z1', e1, _, c1', q1, fun r2 e2 q2 Z2 y H2 x2 c2 rr2 => ?_⟩
  obtain ⟨Z2', x2', c2', hd2⟩ := rr2.hold c2
  obtain ⟨d1, o1, q2⟩ := onS_some q2
  obtain ⟨d2, o2, q2⟩ := onS_some q2
  have p1 := (hd1.ext (x2.trans x2')).opd c2' (by rw [opd_hold]; exact o1)
  have p2 := hd2.opd c2' (by rw [opd_hold]; exact o2)
  refine hs Z2' H2 x y d1 d2 _ _ p1 p2 q2 fun rs v H' q m => ?_
  obtain ⟨Z3, x3, c3, rr3⟩ := m.cf c2'
  split at q
  · rename_i b
    have e : v = .bl b := by
      have rr3 : Rp Z3 H' v (.bool b) := rr3
      cases rr3
      rfl
    refine ⟨b, e, ?_⟩
    cases b with
    | true =>
      rw [if_pos rfl]
      refine ⟨F, Z3, e2, _, c3, q.1 rfl, fun r3 e3 q3 Z4 z H4 x4 c4 rr4 => ?_⟩
      obtain ⟨Z4', x4', c4', hd4⟩ := rr4.hold c4
      obtain ⟨d2', o2', q3⟩ := onS_some q3
      obtain ⟨d3, o3, q3⟩ := onS_some q3
      have p2' := (hd2.ext ((x3.trans x4).trans x4')).opd c4' (by rw [opd_hold]; exact o2')
      have p3 := hd4.opd c4' (by rw [opd_hold]; exact o3)
      refine hs' Z4' H4 y z d2' d3 _ _ p2' p3 q3 fun rs v H5 q m => ?_
      obtain ⟨Z5, x5, c5, rr5⟩ := m.cf c4'
      exact k _ _ q Z5 v H5 (((((((x1.trans x1').trans x2).trans x2').trans x3).trans x4).trans x4').trans x5) c5 rr5
    | false =>
      rw [if_neg Bool.false_ne_true]
      exact k _ _ (q.2 rfl) Z3 _ H' ((((x1.trans x1').trans x2).trans x2').trans x3) c3 (Rp.bl false)
  · exact q.elim
/-! [::-1] of a list -/
def wRevL (w : WE) : WE := fun env Q => w env fun r e => onS (opd e r) fun d => match d with
  | .list ds => Q (.new (.list ds.reverse)) e
  | _ => False
theorem tV_revL {K : PySem.W.Frag} {w : WE} {σ : L2.St} {H : Hp} {Q : VK} (h : tV (wRevL w) σ H Q) : tRevL K (tV w) σ H Q := by
  obtain ⟨F, Z, env, Q0, c, h, k⟩ := h
  refine ⟨F, Z, env, _, c, h, fun r1 e1 q1 Z1 x H1 x1 c1 rr1 => ?_⟩
  obtain ⟨Z1', x1', c1', hd1⟩ := rr1.hold c1
  obtain ⟨d1, o1, q1⟩ := onS_some q1
  have p1 := hd1.opd c1' (by rw [opd_hold]; exact o1)
  split at q1
  · obtain ⟨a, vs, rfl, ha, l⟩ := rd_list p1
    refine ⟨a, vs, rfl, SqL.of ha, fun p hp => ?_⟩
    obtain ⟨Z3, x3, c3, rr3⟩ := (Made.lst hp l.reverse).cf c1'
    exact k _ _ q1 Z3 _ _ ((x1.trans x1').trans x3) c3 rr3
  · exact q1.elim
/-! not, as a value -/
def wNotV (a : WE) : WE := fun env Q => a env fun r e => match r with
  | .val (.bool x) => Q (.val (.bool (!x))) e
  | _ => False
theorem tV_not {a : WE} {σ : L2.St} {H : Hp} {Q : VK} (h : tV (wNotV a) σ H Q) : tNotV (tV a) σ H Q := by
  obtain ⟨F, Z, env, Q0, c, h, k⟩ := h
  refine ⟨F, Z, env, _, c, h, fun r1 e1 q1 Z1 x H1 x1 c1 rr1 => ?_⟩
  split at q1
  · rename_i b
    have e : x = .bl b := by
      have rr1 : Rp Z1 H1 x (.bool b) := rr1
      cases rr1
      rfl
    exact ⟨b, e, k _ _ q1 Z1 _ H1 x1 c1 (Rp.bl _)⟩
  · exact q1.elim

/-! ### the rules -/
variable {e a b c : Expr} {es : List Expr} {w wa wb wc : WE} {ws : WEs} {pos p : Pos} {x : Str} {f f' : F2} {r r' : R2}
theorem v_var (i : Nat) {x : Str} {pos : Pos} (hN : X.N[i]? = some x := by rfl) (hv : Vis X.env.scope x := by first | exact Or.inl rfl | exact Or.inr (Or.inl rfl) | exact Or.inr (Or.inr rfl)) (hd : (x == ("__debug__" : Str)) = false := by decide)
    (hcd : (x == ("__classdict__" : Str)) = false := by decide) : PE X (.Name x pos) (tV (wVar i)) := (pe_var hN hv hd hcd).imp fun _ _ _ => tV_var
theorem v_int {i : Int} {j} : PE X (.Constant (.int i) j pos) (tV (wC (.int i))) := pe_int.imp fun _ _ _ => tV_c fun _ _ => .int i
theorem v_bl {i : Bool} {j} : PE X (.Constant (.bool i) j pos) (tV (wC (.bool i))) := pe_bl.imp fun _ _ _ => tV_c fun _ _ => .bl i
theorem v_non {j} : PE X (.Constant .none j pos) (tV (wC .none)) := pe_non.imp fun _ _ _ => tV_c fun _ _ => .non
theorem v_str {i : Str} {j} : PE X (.Constant (.str i) j pos) (tV (wC (.str i))) := pe_str.imp fun _ _ _ => tV_c fun _ _ => .str i
theorem v_op {op : Operator} (ho : OpR X (binaryOp op) r) (hs : OpSpec r f) (ha : PE X a (tV wa)) (hb : PE X b (tV wb)) : PE X (.BinOp a op b pos) (tV (wOp2 f wa wb)) := (pe_op ho ha hb).imp fun _ _ _ => tV_op2 hs
theorem v_add (ha : PE X a (tV wa)) (hb : PE X b (tV wb)) : PE X (.BinOp a .Add b pos) (tV (wOp2 fAdd wa wb)) := v_op op_addV sp_add ha hb
theorem v_sub (ha : PE X a (tV wa)) (hb : PE X b (tV wb)) : PE X (.BinOp a .Sub b pos) (tV (wOp2 fSub wa wb)) := v_op op_sub sp_sub ha hb
theorem v_mul (ha : PE X a (tV wa)) (hb : PE X b (tV wb)) : PE X (.BinOp a .Mult b pos) (tV (wOp2 fMul wa wb)) := v_op op_mulV sp_mul ha hb
theorem v_div (ha : PE X a (tV wa)) (hb : PE X b (tV wb)) : PE X (.BinOp a .FloorDiv b pos) (tV (wOp2 fDiv wa wb)) := v_op op_divV sp_div ha hb
theorem v_mod (ha : PE X a (tV wa)) (hb : PE X b (tV wb)) : PE X (.BinOp a .Mod b pos) (tV (wOp2 fMod wa wb)) := v_op op_mod sp_mod ha hb
theorem v_pow (ha : PE X a (tV wa)) (hb : PE X b (tV wb)) : PE X (.BinOp a .Pow b pos) (tV (wOp2 fPow wa wb)) := v_op op_pow sp_pow ha hb
theorem v_shl (ha : PE X a (tV wa)) (hb : PE X b (tV wb)) : PE X (.BinOp a .LShift b pos) (tV (wOp2 fShl wa wb)) := v_op op_shl sp_shl ha hb
theorem v_neg (ha : PE X a (tV wa)) : PE X (.UnaryOp .USub a pos) (tV (wOp1 fNeg wa)) := (pe_un un_neg ha).imp fun _ _ _ => tV_op1 sp_neg
theorem v_cmp {op : CmpOp} (ho : OpR X (compareOp op) r) (hs : OpSpec r f) (ha : PE X a (tV wa)) (hb : PE X b (tV wb)) (hm : behindInMarks op b = false) : PE X (.Compare a [op] [b] pos) (tV (wOp2 f wa wb)) := (pe_cmpR ho ha hb hm).imp fun _ _ _ => tV_op2 hs
theorem v_cmpT {op : CmpOp} (ho : OpR X (compareOp op) r) (hs : OpSpec r f) (ha : PE X a (tV wa)) (hb : PE X b (tV wb)) (hm : behindInMarks op b = false) : PT X (.Compare a [op] [b] pos) (tVT (wTestB (wOp2 f wa wb))) :=
  (pt_cmpR ho ha hb hm).imp fun σ H Q h => by
    obtain ⟨F, Z, env, Q0, c, h, k⟩ := tVT_test h
    exact tV_op2 hs ⟨F, Z, env, Q0, c, h, k⟩
/-- the comparison's rule and its reading -/
structure CmpRule (X : Cx) (op : CmpOp) (f : F2) : Prop where
  ex : ∃ r, OpR X (compareOp op) r ∧ OpSpec r f
theorem k_eq (m : Rm X) : CmpRule X .Eq fEq := ⟨_, op_eqV' m, sp_eq⟩
theorem k_ne (m : Rm X) : CmpRule X .NotEq fNe := ⟨_, op_neV' m, sp_ne⟩
theorem k_lt (m : Rm X) : CmpRule X .Lt fLt := ⟨_, op_ltV m, sp_lt⟩
theorem k_gt (m : Rm X) : CmpRule X .Gt fGt := ⟨_, op_gtV m, sp_gt⟩
theorem k_le (m : Rm X) : CmpRule X .LtE fLe := ⟨_, op_leV m, sp_le⟩
theorem k_ge (m : Rm X) : CmpRule X .GtE fGe := ⟨_, op_geV m, sp_ge⟩
theorem k_in (m : Rm X) : CmpRule X .In fIn := ⟨_, op_inV m, sp_in⟩
theorem k_notIn (m : Rm X) : CmpRule X .NotIn fNotIn := ⟨_, op_notInV m, sp_notIn⟩
theorem k_isN : CmpRule X .Is gIsN := ⟨_, op_isN, sp_gIsN⟩
theorem k_notN : CmpRule X .IsNot gNotN := ⟨_, op_notN, sp_gNotN⟩
theorem k_isB : CmpRule X .Is gIsB := ⟨_, op_isBl, sp_gIsB⟩
theorem k_notB : CmpRule X .IsNot gNotB := ⟨_, op_notBl, sp_gNotB⟩
theorem v_c {op : CmpOp} (k : CmpRule X op f) (ha : PE X a (tV wa)) (hb : PE X b (tV wb)) (hm : behindInMarks op b = false) : PE X (.Compare a [op] [b] pos) (tV (wOp2 f wa wb)) := by
  obtain ⟨r, ho, hs⟩ := k.ex
  exact v_cmp ho hs ha hb hm
theorem v_ct {op : CmpOp} (k : CmpRule X op f) (ha : PE X a (tV wa)) (hb : PE X b (tV wb)) (hm : behindInMarks op b = false) : PT X (.Compare a [op] [b] pos) (tVT (wTestB (wOp2 f wa wb))) := by
  obtain ⟨r, ho, hs⟩ := k.ex
  exact v_cmpT ho hs ha hb hm
theorem v_ch {op op' : CmpOp} (k : CmpRule X op f) (k' : CmpRule X op' f') (ha : PE X a (tV wa)) (hb : PE X b (tV wb)) (hc : PE X c (tV wc)) (hm : lastMarks [op, op'] [b, c] = false := by with_unfolding_all rfl) :
    PE X (.Compare a [op, op'] [b, c] pos) (tV (wChain f f' wa wb wc)) := by
  obtain ⟨r, ho, hs⟩ := k.ex
  obtain ⟨r', ho', hs'⟩ := k'.ex
  exact (pe_chain ho ho' ha hb hc hm).imp fun _ _ _ => tV_chain hs hs'
theorem v_cht {op op' : CmpOp} (k : CmpRule X op f) (k' : CmpRule X op' f') (ha : PE X a (tV wa)) (hb : PE X b (tV wb)) (hc : PE X c (tV wc)) (hm : lastMarks [op, op'] [b, c] = false := by with_unfolding_all rfl) :
    PT X (.Compare a [op, op'] [b, c] pos) (tVT (wTestB (wChain f f' wa wb wc))) := by
  obtain ⟨r, ho, hs⟩ := k.ex
  obtain ⟨r', ho', hs'⟩ := k'.ex
  exact (pt_chain ho ho' ha hb hc hm).imp fun σ H Q h => by
    obtain ⟨F, Z, env, Q0, c, h, k⟩ := tVT_test h
    exact tV_chain hs hs' ⟨F, Z, env, Q0, c, h, k⟩
theorem v_ix (ha : PE X a (tV wa)) (hb : PE X b (tV wb)) (hs : PlainIx b := by exact fun _ _ => rfl) : PE X (.Subscript a b pos) (tV (wOp2 fIx wa wb)) := (pe_ix ix_v ha hb hs).imp fun _ _ _ => tV_op2 sp_ix
theorem v_rev {k : Nat} {p1 p2 p3 : Pos} (h : PE X e (tV w)) : PE X (.Subscript e (.Slice none none (some (.UnaryOp .USub (.Constant (.int 1) k p1) p2)) p3) pos) (tV (wRevL w)) := (pe_revL h).imp fun _ _ _ => tV_revL
theorem v_tup {k : Nat} (h : PA X es (tVs ws)) : PE X (.Tuple es k pos) (tV (wTup ws)) := (pe_tup h).imp fun _ _ _ => tV_tup
theorem v_lst (h : PA X es (tVs ws)) : PE X (.List es pos) (tV (wLst ws)) := (pe_lst h).imp fun _ _ _ => tV_lst
theorem a_nil : PA X [] (tVs wNil) := va_nil
theorem a_cons (h : PE X e (tV w)) (hr : PA X es (tVs ws)) (hs : starEach (e :: es) X.env = (false, eval e X.env) :: starEach es X.env := by rfl) : PA X (e :: es) (tVs (wCons w ws)) := va_cons h hr hs
/-! built-ins -/
structure BltRule (X : Cx) (x : Str) (fl : FL) : Prop where
  ex : ∃ r, CSpec r fl ∧ X.mg x = none ∧ x ≠ "__name__" ∧ (x == ("__debug__" : Str)) = false ∧ ((∃ id, CallR X (.builtin id) r ∧ bootBuiltins x = some (.builtin id)) ∨ (∃ T, CallR X (.type T) r ∧ bootBuiltins x = some (.type T)))
theorem b_len (hm : X.mg "len" = none) : BltRule X "len" cLen := ⟨_, sp_len, hm, by decide, by decide, .inl ⟨_, call_len_seq, PySem.boot_len⟩⟩
theorem b_abs (hm : X.mg "abs" = none) : BltRule X "abs" cAbs := ⟨_, sp_abs, hm, by decide, by decide, .inl ⟨_, call_abs, PyProof.Rows.boot_abs⟩⟩
theorem b_int (hm : X.mg "int" = none) : BltRule X "int" cInt := ⟨_, sp_int, hm, by decide, by decide, .inr ⟨_, call_int1, PyProof.Rows.boot_int⟩⟩
theorem b_list (hm : X.mg "list" = none) : BltRule X "list" cList := ⟨_, sp_list, hm, by decide, by decide, .inr ⟨_, call_list_of, PyProof.Rows.boot_list⟩⟩
theorem b_tuple (hm : X.mg "tuple" = none) : BltRule X "tuple" cTuple := ⟨_, sp_tuple, hm, by decide, by decide, .inr ⟨_, call_tuple_of, PyProof.Rows.boot_tuple⟩⟩
theorem b_sum (m : Rm X) (hm : X.mg "sum" = none) : BltRule X "sum" cSum := ⟨_, sp_sum, hm, by decide, by decide, .inl ⟨_, cr_sum m.calm, PyProof.Rows.boot_sum⟩⟩
theorem b_any (m : Rm X) (hm : X.mg "any" = none) : BltRule X "any" cAny := ⟨_, sp_any, hm, by decide, by decide, .inl ⟨_, cr_any m.calm, PyProof.Rows.boot_any⟩⟩
theorem b_all (m : Rm X) (hm : X.mg "all" = none) : BltRule X "all" cAll := ⟨_, sp_all, hm, by decide, by decide, .inl ⟨_, cr_all m.calm, PyProof.Rows.boot_all⟩⟩
theorem b_min (m : Rm X) (hm : X.mg "min" = none) : BltRule X "min" cMin := ⟨_, sp_min, hm, by decide, by decide, .inl ⟨_, (call_min2 m.calm).or (cr_minD m), PyProof.Rows.boot_min⟩⟩
theorem b_max (m : Rm X) (hm : X.mg "max" = none) : BltRule X "max" cMax := ⟨_, sp_max, hm, by decide, by decide, .inl ⟨_, (call_max2 m.calm).or (cr_maxD m), PyProof.Rows.boot_max⟩⟩
theorem b_sorted (m : Rm X) (hm : X.mg "sorted" = none) : BltRule X "sorted" cSorted := ⟨_, sp_sorted, hm, by decide, by decide, .inl ⟨_, cr_sortD m, PyProof.Rows.boot_sorted⟩⟩
theorem b_repr (m : Rm X) (hm : X.mg "repr" = none) : BltRule X "repr" cRepr := ⟨_, sp_repr, hm, by decide, by decide, .inl ⟨_, cr_repr m, PyProof.Rows.boot_repr⟩⟩
theorem v_b {fl : FL} (B : BltRule X x fl) (ha : PA X (e :: es) (tVs ws)) (hg : Gl X x := by rfl)
    (he : starEach (e :: es) X.env = (false, eval e X.env) :: starEach es X.env := by rfl) (hpl : (backTo pos (starEach es X.env)).any (·.1) = false := by rfl) : PE X (.Call (.Name x p) (e :: es) [] pos) (tV (wCB fl ws)) := by
  obtain ⟨r, hs, hm, hn, hd, h⟩ := B.ex
  rcases h with ⟨id, hc, hb⟩ | ⟨T, hc, hb⟩
  · exact (pe_callB hc hg hm hb ha hn hd he hpl).imp fun _ _ _ => tV_cb hs
  · exact (pe_callTy hc hg hm hb ha hn hd he hpl).imp fun _ _ _ => tV_cb hs
end
end VL

namespace VL
open PySem PySem.Spec PyProof.Rows L2
section
variable {X : Cx} {e a b c o : Expr} {es : List Expr} {w wa wb wc : WE} {ws : WEs} {pos p apos : Pos} {x y : Str} {ta tb : WT} {sa sb : WS} {st : Stmt} {sts sts' : List Stmt}
/-! ### tests -/
theorem v_t (ha : PE X a (tV wa)) (he : ∀ whole, isTrue a X.env whole = (do let v ← whole; standAt a.pos; holding [v] (truthy v)) := by intro _; rfl) : PT X a (tVT (wTest wa)) := (pt_truth ha he).imp fun _ _ _ => tVT_tru
theorem v_tnot (ha : PT X a (tVT ta)) : PT X (.UnaryOp .Not a pos) (tVT (wTNot ta)) := (pt_not ha).imp fun _ _ _ => tVT_not
theorem v_wand1 (ha : PT X a (tVT ta)) : PW X (.BoolOp .And [a] pos) (tVT ta) := pw_and1 ha
theorem v_wor1 (ha : PT X a (tVT ta)) : PW X (.BoolOp .Or [a] pos) (tVT ta) := pw_or1 ha
theorem v_wand {rest : List Expr} (ha : PT X a (tVT ta)) (hb : PW X (.BoolOp .And (b :: rest) pos) (tVT tb)) : PW X (.BoolOp .And (a :: b :: rest) pos) (tVT (wTAnd ta tb)) := (pw_and ha hb).imp fun _ _ _ => tVT_and
theorem v_wor {rest : List Expr} (ha : PT X a (tVT ta)) (hb : PW X (.BoolOp .Or (b :: rest) pos) (tVT tb)) : PW X (.BoolOp .Or (a :: b :: rest) pos) (tVT (wTOr ta tb)) := (pw_or ha hb).imp fun _ _ _ => tVT_or
/-! ### and, or, not, if as values -/
theorem v_and1 (ha : PE X a (tV wa)) (hb : PE X (.BoolOp .And [a] pos) (tV wa)) : PE X (.BoolOp .And [a] pos) (tV wa) := hb
theorem v_if (hc : PT X c (tVT ta)) (ha : PE X a (tV wa)) (hb : PE X b (tV wb)) : PE X (.IfExp c a b pos) (tV (wIf ta wa wb)) := (pe_ifExp hc ha hb).imp fun _ _ _ => tV_if
theorem v_not (ha : PE X a (tV wa)) : PE X (.UnaryOp .Not a pos) (tV (wNotV wa)) := (pe_not ha).imp fun _ _ _ => tV_not
/-! ### slices -/
theorem v_onone : PO X none (tVO woNone) := ⟨fun pins s σ H Q I h => po_none.run pins s σ H Q I (tVO_none h)⟩
theorem v_osome (h : PE X e (tV w)) : PO X (some e) (tVO (woSome w)) := ⟨fun pins s σ H Q I hw => (po_some h).run pins s σ H Q I (tVO_some hw)⟩
theorem v_sl {lo hi : Option Expr} {l u : WO} {p2 : Pos} (he : PE X e (tV w)) (hl : PO X lo (tVO l)) (hu : PO X hi (tVO u)) : PE X (.Subscript e (.Slice lo hi none p2) pos) (tV (wSl w l u)) := (pe_slice sl_v he hl hu).imp fun _ _ _ => tV_sl
/-! ### statements -/
theorem s_nil : PSs X [] (tS wNext) := pss_nil.imp fun _ _ _ => tS_next
theorem s_cons (h1 : PS X st (tS sa)) (h2 : PSs X sts (tS sb)) : PSs X (st :: sts) (tS (wSeq sa sb)) := (pss_cons h1 h2).imp fun _ _ _ => tS_seq
theorem s_one (h1 : PS X st (tS sa)) : PSs X [st] (tS sa) := pss_one h1
theorem s_pass : PS X (.Pass pos) (tS wNext) := ps_pass.imp fun _ _ _ => tS_next
theorem s_break : PS X (.Break pos) (tS wBreak) := ps_break.imp fun _ _ _ => tS_break
theorem s_cont : PS X (.Continue pos) (tS wCont) := ps_continue.imp fun _ _ _ => tS_cont
theorem s_ret (h : PE X e (tV w)) : PS X (.Return (some e) pos) (tS (wRet w)) := (ps_ret h).imp fun _ _ _ => tS_ret
theorem s_retN : PS X (.Return none pos) (tS wRetN) := ps_retN.imp fun _ _ _ => tS_retN
theorem s_if (hc : PT X c (tVT ta)) (ha : PSs X sts (tS sa)) (hb : PSs X sts' (tS sb)) : PS X (.If c sts sts' pos) (tS (wIfS ta sa sb)) := (ps_if hc ha hb).imp fun _ _ _ => tS_if
theorem s_expr (h : PE X e (tV w)) (hs : swapsWith e none pos.line X.env = pure false := by rfl) : PS X (.Expr e pos) (tS (wDrop w)) := (ps_expr h hs).imp fun _ _ _ => tS_drop
theorem s_set (hN : X.N.Nodup) (i : Nat) {pos' : Pos} (he : PE X e (tV w)) (hi : X.N[i]? = some x := by rfl) (hx : Loc X.env.scope x := by first | exact Or.inl rfl | exact Or.inr rfl) (hs : swapsWith e (some (.Name x pos')) pos.line X.env = pure false := by rfl)
    (hf : X.fn x = true ∨ X.env.scope.names.lookup x = some .local := by first | exact .inl rfl | exact .inr rfl) : PS X (.Assign [.Name x pos'] e pos) (tS (wSet i w)) := (ps_set hN hi hx he hs hf).imp fun _ _ _ => tS_set
/-! targets -/
theorem g_name (hN : X.N.Nodup) (i : Nat) (hi : X.N[i]? = some x := by rfl) (hx : Loc X.env.scope x := by first | exact Or.inl rfl | exact Or.inr rfl) (hf : X.fn x = true ∨ X.env.scope.names.lookup x = some .local := by first | exact .inl rfl | exact .inr rfl) : PG X (.Name x pos) (tG [i] (wgName i)) := (pg_name hN hi hx hf).imp fun _ _ _ _ => tG_name
theorem gs_nil : PGs X [] (tGs [] wgNil) := pgs_nil.imp fun _ _ _ _ => tGs_nil
theorem gs_cons {is js : List Nat} {g : WG} {gs : WGs} (h1 : PG X e (tG is g)) (h2 : PGs X es (tGs js gs)) (hs : (assignEach (e :: es) X.env).map (·.2) = assign e X.env :: (assignEach es X.env).map (·.2) := by rfl) : PGs X (e :: es) (tGs (is ++ js) (wgCons g gs)) := (pgs_cons h1 h2 hs).imp fun _ _ _ _ => tGs_cons
theorem g_tup {is : List Nat} {gs : WGs} {k n : Nat} (m : Rm X) (h : PGs X es (tGs is gs)) (hn : (assignEach es X.env).length = n := by rfl) (hst : (assignEach es X.env).findIdx? (·.1) = none := by rfl) : PG X (.Tuple es k pos) (tG is (wgTup n gs)) := (pg_tup m.calm h hn hst).imp fun _ _ _ _ => tG_tup
theorem s_asg {tg : Expr} {is : List Nat} {g : WG} (he : PE X e (tV w)) (hg : PG X tg (tG is g)) (hs : swapsWithSole [tg] e pos.line X.env = pure false := by rfl) (hw : swappedStores [tg] e X.env = pure none := by rfl)
    (h1 : (assignEach [tg] X.env).map (·.2) = [assign tg X.env] := by rfl) : PS X (.Assign [tg] e pos) (tS (wAsg g w)) := (ps_asg he hg hs hw h1).imp fun _ _ _ => tS_asg
/-- two stores at once, plain locals -/
theorem s_par {i j : Nat} {px py pt : Pos} {kt k2 pt2} (m : Rm X) (hN : X.N.Nodup) (ha : PE X a (tV wa)) (hb : PE X b (tV wb)) (hi : X.N[i]? = some x := by rfl) (hj : X.N[j]? = some y := by rfl) (hij : i ≠ j := by decide)
    (hx : X.env.scope.names.lookup x = some .local := by rfl) (hy : X.env.scope.names.lookup y = some .local := by rfl) (hs1 : starEach [a, b] X.env = (false, eval a X.env) :: starEach [b] X.env := by rfl) (hs2 : starEach [b] X.env = (false, eval b X.env) :: starEach [] X.env := by rfl)
    (hw : swappedStores [.Tuple [.Name x px, .Name y py] kt pt] (.Tuple [a, b] k2 pt2) X.env = pure (some [x, y]) := by rfl)
    (hs : swapsWithSole [.Tuple [.Name x px, .Name y py] kt pt] (.Tuple [a, b] k2 pt2) pos.line X.env = pure false := by rfl) :
    PS X (.Assign [.Tuple [.Name x px, .Name y py] kt pt] (.Tuple [a, b] k2 pt2) pos) (tS (wPar2 i j wa wb)) := by
  refine (ps_par m.calm hN hi hj hij hx hy (pa_cons ha (pa_cons hb pa_nil hs2) hs1) hw hs).imp fun E σ H h => ?_
  obtain ⟨F, Z, env, Q0, c, h, k⟩ := tS_par2 h
  exact ⟨F, Z, env, Q0, c, h, fun r e q Z1 v H1 x1 c1 rr => by
    obtain ⟨F2, Z2, env2, Q2, c2, h2, k2⟩ := k r e q Z1 v H1 x1 c1 rr
    exact ⟨F2, Z2, env2, Q2, c2, h2, fun r e q Z1 v H1 x1 c1 rr => by
      obtain ⟨v, w, e1, n1, n2⟩ := k2 r e q Z1 v H1 x1 c1 rr
      exact ⟨v, w, e1, n1⟩⟩⟩
/-- the pair laid, then taken apart -/
theorem s_parU {i j : Nat} {px py pt : Pos} {kt k2 pt2} (m : Rm X) (hN : X.N.Nodup) (ha : PE X a (tV wa)) (hb : PE X b (tV wb)) (hi : X.N[i]? = some x := by rfl) (hj : X.N[j]? = some y := by rfl)
    (hx : Loc X.env.scope x := by first | exact Or.inl rfl | exact Or.inr rfl) (hy : Loc X.env.scope y := by first | exact Or.inl rfl | exact Or.inr rfl)
    (hfx : X.fn x = true ∨ X.env.scope.names.lookup x = some .local := by first | exact .inl rfl | exact .inr rfl) (hfy : X.fn y = true ∨ X.env.scope.names.lookup y = some .local := by first | exact .inl rfl | exact .inr rfl)
    (hs1 : starEach [a, b] X.env = (false, eval a X.env) :: starEach [b] X.env := by rfl) (hs2 : starEach [b] X.env = (false, eval b X.env) :: starEach [] X.env := by rfl)
    (hs : swapsWithSole [.Tuple [.Name x px, .Name y py] kt pt] (.Tuple [a, b] k2 pt2) pos.line X.env = pure false := by rfl)
    (hw : swappedStores [.Tuple [.Name x px, .Name y py] kt pt] (.Tuple [a, b] k2 pt2) X.env = pure none := by rfl) :
    PS X (.Assign [.Tuple [.Name x px, .Name y py] kt pt] (.Tuple [a, b] k2 pt2) pos) (tS (wPar2 i j wa wb)) := by
  refine (ps_asg (pe_tup (pa_cons ha (pa_cons hb pa_nil hs2) hs1)) (pg_tup m.calm (pgs_cons (pg_name hN hi hx hfx) (pgs_cons (pg_name hN hj hy hfy) pgs_nil)) (n := 2)) hs hw).imp fun E σ H h => ?_
  obtain ⟨F, Z, env, Q0, c, h, k⟩ := tS_par2 h
  exact ⟨F, Z, env, Q0, c, h, fun r e q Z1 v H1 x1 c1 rr => by
    obtain ⟨F2, Z2, env2, Q2, c2, h2, k2⟩ := k r e q Z1 v H1 x1 c1 rr
    exact ⟨F2, Z2, env2, Q2, c2, h2, fun r e q Z1 v H1 x1 c1 rr => by
      obtain ⟨v, w, e1, n1, n2⟩ := k2 r e q Z1 v H1 x1 c1 rr
      cases e1
      refine ⟨lim_le (show 2 ≤ LIM by decide), fun p hp => ⟨p, _, rfl, SqT.of upd_same, rfl, ?_⟩⟩
      exact ⟨_, _, rfl, _, _, rfl, rfl, n2 p _ _ hp rfl⟩⟩⟩
/-! loops -/
theorem i_seq {tg l : Expr} (hl : PE X l (tV w)) : PI X tg l (tI (wiSeq w)) := (pi_seq hl).imp fun _ _ _ => tI_seq
theorem i_r1 {tg a : Expr} (hm : X.mg "range" = none) (ha : PE X a (tV wa)) (hg : Gl X "range" := by rfl) (hs : starEach [a] X.env = (false, eval a X.env) :: starEach [] X.env := by rfl) : PI X tg (.Call (.Name "range" p) [a] [] pos) (tI (wiRange1 wa)) :=
  (pi_range1 hg hm (pa_cons ha pa_nil hs) hs).imp fun _ _ _ => tI_range1
theorem i_r2 {tg a b : Expr} (hm : X.mg "range" = none) (ha : PE X a (tV wa)) (hb : PE X b (tV wb)) (hg : Gl X "range" := by rfl) (hs : starEach [a, b] X.env = (false, eval a X.env) :: starEach [b] X.env := by rfl) (hs2 : starEach [b] X.env = (false, eval b X.env) :: starEach [] X.env := by rfl) : PI X tg (.Call (.Name "range" p) [a, b] [] pos) (tI (wiRange2 wa wb)) :=
  (pi_range2 hg hm (pa_cons ha (pa_cons hb pa_nil hs2) hs) (by rw [hs, hs2]; rfl) hs2).imp fun _ _ _ => tI_range2
theorem i_r3 {tg a b c : Expr} (hm : X.mg "range" = none) (ha : PE X a (tV wa)) (hb : PE X b (tV wb)) (hc : PE X c (tV wc)) (hg : Gl X "range" := by rfl) (hs : starEach [a, b, c] X.env = (false, eval a X.env) :: starEach [b, c] X.env := by rfl) (hs2 : starEach [b, c] X.env = (false, eval b X.env) :: starEach [c] X.env := by rfl)
    (hs3 : starEach [c] X.env = (false, eval c X.env) :: starEach [] X.env := by rfl) (hpl : (backTo pos (starEach [b, c] X.env)).any (·.1) = false := by rfl) : PI X tg (.Call (.Name "range" p) [a, b, c] [] pos) (tI (wiRange3 wa wb wc)) :=
  (pi_range3 hg hm (pa_cons ha (pa_cons hb (pa_cons hc pa_nil hs3) hs2) hs) hs hpl).imp fun _ _ _ => tI_range3
theorem i_enum {elts : List Expr} {kk : Nat} {tpos : Pos} (hm : X.mg "enumerate" = none) (ha : PE X a (tV wa)) (hg : Gl X "enumerate" := by rfl) (hs : starEach [a] X.env = (false, eval a X.env) :: starEach [] X.env := by rfl) : PI X (.Tuple elts kk tpos) (.Call (.Name "enumerate" p) [a] [] pos) (tI (wiEnum wa)) :=
  (pi_enumK hg hm (pa_cons ha pa_nil hs) hs).imp fun _ _ _ => tI_enum
theorem i_zip {elts : List Expr} {kk : Nat} {tpos : Pos} (hm : X.mg "zip" = none) (ha : PE X a (tV wa)) (hb : PE X b (tV wb)) (hg : Gl X "zip" := by rfl) (hs : starEach [a, b] X.env = (false, eval a X.env) :: starEach [b] X.env := by rfl) (hs2 : starEach [b] X.env = (false, eval b X.env) :: starEach [] X.env := by rfl) (hpl : (backTo pos (starEach [b] X.env)).any (·.1) = false := by rfl) : PI X (.Tuple elts kk tpos) (.Call (.Name "zip" p) [a, b] [] pos) (tI (wiZip wa wb)) :=
  (pi_zipK hg hm (pa_cons ha (pa_cons hb pa_nil hs2) hs) hs hpl).imp fun _ _ _ => tI_zip
theorem s_for {tg iter : Expr} {is : List Nat} {wi : WI} {g : WG} (hp : PassesOwn (model X.prog X.w) X.A X.env X.xe) (m : Rm X) (hi : PI X tg iter (tI wi)) (hg : PG X tg (tG is g)) (hb : PSs X sts (tS sa)) (hs : ∀ x, foldedSetIterable iter X.env x = pure x := by intro _; rfl) :
    PS X (.For tg iter sts [] pos) (tS (wFor wi g sa)) := (ps_for hp m.calm hi hg hb hs).imp fun _ _ _ => tS_for
theorem s_while (hp : PassesOwn (model X.prog X.w) X.A X.env X.xe) (hc : PT X c (tVT ta)) (hb : PSs X sts (tS sa)) : PS X (.While c sts [] pos) (tS (wWhile ta sa)) := (ps_while hp hc hb).imp fun _ _ _ => tS_while
/-! comprehensions -/
theorem ts_nil : PTs X [] (tVT wYes) := pts_nil.imp fun _ _ _ => tVT_yes
theorem ts_one (h : PT X c (tVT ta)) : PTs X [c] (tVT ta) := pts_one h
theorem v_lc {elt tg iter : Expr} {ifs : List Expr} {scope : Scope} (own : List (Str × Nat)) {is : List Nat} {wi : WI} {g : WG} {tt : WT} {te : WE} (m : Rm X) (hN : X.N.Nodup) (hi : PI X tg iter (tI wi)) (ok : blkC X.N X.env.scope scope own = true)
    (hg : ∀ (s : Shared) (H : Hp) (C : Addr) (cl : List (Str × Addr)) (fp : List Addr), PG (X.blk s H scope (compEnvC scope cl C X.env) fp) tg (tG is g)) (ht : ∀ (s : Shared) (H : Hp) (C : Addr) (cl : List (Str × Addr)) (fp : List Addr), PTs (X.blk s H scope (compEnvC scope cl C X.env) fp) ifs (tVT tt))
    (he : ∀ (s : Shared) (H : Hp) (C : Addr) (cl : List (Str × Addr)) (fp : List Addr), PE (X.blk s H scope (compEnvC scope cl C X.env) fp) elt (tV te))
    (hio : ∀ i ∈ is, i ∈ own.map (·.2) := by decide) (nd : (own.map (·.2)).Nodup := by decide) (hs : ∀ x, foldedSetIterable iter X.env x = pure x := by intro _; rfl) :
    PE X (.ListComp elt [⟨tg, iter, ifs, 0⟩] scope pos) (tV (wComp (own.map (·.2)) wi g tt te)) :=
  (pe_lc m.calm hN hi (blkOk_by ok) hg ht he hs).imp fun _ _ _ => tV_comp hio nd
theorem s_setLc {i : Nat} {py spos : Pos} {elt tg iter : Expr} {ifs : List Expr} {scope : Scope} (own : List (Str × Nat)) {is : List Nat} {wi : WI} {g : WG} {tt : WT} {te : WE} (m : Rm X) (hN : X.N.Nodup) (hi : PI X tg iter (tI wi)) (ok : blkC X.N X.env.scope scope own = true)
    (hg : ∀ (s : Shared) (H : Hp) (C : Addr) (cl : List (Str × Addr)) (fp : List Addr), PG (X.blk s H scope (compEnvC scope cl C X.env) fp) tg (tG is g)) (ht : ∀ (s : Shared) (H : Hp) (C : Addr) (cl : List (Str × Addr)) (fp : List Addr), PTs (X.blk s H scope (compEnvC scope cl C X.env) fp) ifs (tVT tt))
    (he : ∀ (s : Shared) (H : Hp) (C : Addr) (cl : List (Str × Addr)) (fp : List Addr), PE (X.blk s H scope (compEnvC scope cl C X.env) fp) elt (tV te))
    (hio : ∀ i ∈ is, i ∈ own.map (·.2) := by decide) (nd : (own.map (·.2)).Nodup := by decide) (hs : ∀ x, foldedSetIterable iter X.env x = pure x := by intro _; rfl)
    (hy : X.N[i]? = some y := by rfl) (hyl : X.env.scope.names.lookup y = some .local := by rfl)
    (hsw : swapsWith (.ListComp elt [⟨tg, iter, ifs, 0⟩] scope pos) (some (.Name y py)) spos.line X.env = pure true := by rfl) :
    PS X (.Assign [.Name y py] (.ListComp elt [⟨tg, iter, ifs, 0⟩] scope pos) spos) (tS (wSet i (wComp (own.map (·.2)) wi g tt te))) :=
  (ps_setLc m.calm hN hy hyl hsw hi (blkOk_by ok) hg ht he hs).imp fun E σ H h => by
    obtain ⟨F, Z, env, Q0, c, h, k⟩ := tS_set h
    exact tV_comp hio nd ⟨F, Z, env, Q0, c, h, k⟩
/-! methods -/
theorem v_app (i : Nat) {px : Pos} (ha : PE X e (tV w)) (hN : X.N[i]? = some x := by rfl) (hv : Vis X.env.scope x := by first | exact Or.inl rfl | exact Or.inr (Or.inl rfl) | exact Or.inr (Or.inr rfl)) (hd : (x == ("__debug__" : Str)) = false := by decide)
    (hcd : (x == ("__classdict__" : Str)) = false := by decide) (hst : starEach [e] X.env = (false, eval e X.env) :: starEach [] X.env := by rfl)
    (hbase : attributeBase (.Name x px) "append" X.env (eval (.Name x px) X.env) = eval (.Name x px) X.env := by rfl)
    (hfew : ((backTo pos (starEach [e] X.env)).all (fun x => !x.1) && (backToKw pos (keywordEach [] X.env)).all (fun x => x.1.isSome)
      && decide ([e].length + ([] : List Keyword).length + (if ([] : List Keyword).isEmpty then 0 else 1) < 30)) = true := by rfl)
    (hline : (apos.endLine == pos.line) = true := by rfl) (hplain : (backTo pos (starEach [] X.env)).any (·.1) = false := by rfl) :
    PE X (.Call (.Attribute (.Name x px) "append" apos) [e] [] pos) (tV (wApp i w)) :=
  (pe_bm PySem.F.plainAttrs_list PySem.F.slot_list_append PySem.F.type_list_append mt_append (pe_var hN hv hd hcd) (pa_cons ha pa_nil hst) hbase hfew hline hst hplain).imp fun _ _ _ => tV_app
theorem v_pop (i : Nat) {px : Pos} (hN : X.N[i]? = some x := by rfl) (hv : Vis X.env.scope x := by first | exact Or.inl rfl | exact Or.inr (Or.inl rfl) | exact Or.inr (Or.inr rfl)) (hd : (x == ("__debug__" : Str)) = false := by decide)
    (hcd : (x == ("__classdict__" : Str)) = false := by decide) (hbase : attributeBase (.Name x px) "pop" X.env (eval (.Name x px) X.env) = eval (.Name x px) X.env := by rfl)
    (hline : (apos.endLine == pos.line) = true := by rfl) : PE X (.Call (.Attribute (.Name x px) "pop" apos) [] [] pos) (tV (wPop i)) :=
  (pe_bm0 PySem.F.plainAttrs_list PySem.F.slot_list_pop PySem.F.type_list_pop mt_pop (pe_var hN hv hd hcd) hbase hline).imp fun _ _ _ => tV_pop
end
end VL

namespace VL
open PySem PySem.Spec PyProof.Rows L2

/-! ### a def's promise where no guard stands -/
structure RoomG (k : Nat) (A : Around) : Prop where
  r : Room k A
  g : A.guards = some []
theorem RoomG.mono {j k : Nat} {A : Around} (r : RoomG k A) (h : j ≤ k) : RoomG j A := ⟨r.r.mono h, r.g⟩
theorem RoomG.deeper {k : Nat} {A : Around} (r : RoomG (k + 1) A) (env : Env) : RoomG k (A.deeper env) := ⟨r.r.deeper env, r.g⟩
structure FnG (P : Program) (w : World) (K : PySem.W.Frag) (mg : Str → Option Value) (base : Heap) (k : Nat) (f : Addr) (fd : FuncData) (ps : List Str) (sp : Sp) : Prop where
  len : ∀ vs H Q E, sp vs H Q E → vs.length = ps.length
  run : ∀ (A : Around) (outer : List Env) (s : Shared) (H : Hp) (args : Args) (us : List Value) (vs : List V) (Q : VK) (E : XK), RoomG k A → Env0 P w K mg base A outer s H → BindsTo s fd args (ps.zip us) → Vals vs us → sp vs H Q E →
    codeAny (model P w) A (.call (.ref f) args) (CR CX0 outer P w H s Q E) s
section
variable {P : Program} {w : World} {K : PySem.W.Frag} {mg : Str → Option Value} {base : Heap}
theorem FnG.mono {j k : Nat} {f : Addr} {fd : FuncData} {ps : List Str} {sp : Sp} (F : FnG P w K mg base j f fd ps sp) (h : j ≤ k) : FnG P w K mg base k f fd ps sp :=
  ⟨F.len, fun A outer s H args us vs Q E hr => F.run A outer s H args us vs Q E (hr.mono h)⟩
theorem fnG_of {x qual : Str} {st : Stmt} {f : Addr} {fd : FuncData} {N ps : List Str} {k : Nat} {sp : Sp} (F : Fun K x qual st f fd) (S : FnScope N ps (defScope st)) (len : ∀ vs H Q E, sp vs H Q E → vs.length = ps.length)
    (hbody : ∀ (cdv : Value) (A : Around) (outer : List Env) (s : Shared) (H : Hp) (vs : List V) (Q : VK) (E : XK), RoomG k (A.deeper (envOfC qual (defScope st) s.heap.objs.size f cdv)) → sp vs H Q E →
      ∃ t, PSs (cxOf CX0 P w K mg base N qual (defScope st) f cdv A outer s H E).nox (defBody st) t ∧ t { nx := fun _ H' => Q .non H', rt := Q } (L2.start N vs) H) : FnG P w K mg base (k + 1) f fd ps sp := by
  refine ⟨len, fun A outer s H args us vs Q E hr e0 hb r hsp => ?_⟩
  obtain ⟨oc, od, kV, doc, pm, an, cdv, ct, osl, rfl, lk, hcd⟩ := F.ex
  have hl := len _ _ _ _ hsp
  have KX : K.In s.heap := e0.mod.kin.keeps fun b o e => (e0.bs b o e).1
  have lim : s.heap.NoLimit := e0.mod.nolimit.keeps fun b o e => (e0.bs b o e).1
  have hkind : ∀ y ∈ ps.zip us, (defScope st).names.lookup y.1 = some .local ∨ ((defScope st).names.lookup y.1 = some .cell ∧ ((cellsFrom (s.heap.objs.size + 1) (defScope st).names []).lookup y.1).isSome = true) := fun ⟨n, v⟩ hy => by
    rcases S.par n (List.of_mem_zip hy).1 with q | q
    · exact .inl q
    · exact .inr ⟨q, PySem.W.cellsFrom_some _ _ _ (.inl q)⟩
  refine codeAny_call_function hr.r.depth (KX _ _ lk) rfl S.co S.gen rfl (PySem.W.codeRec_of KX hcd) (hb _ _ _ _ ?_)
  refine wpAny_newFunctionEnv_cells S.kind hkind fun env he s1 x => ?_
  subst he
  refine ⟨lim.keeps x.toInCall.keep, codeAny_func ?_⟩
  obtain ⟨t, ht, hq⟩ := hbody cdv A outer s H vs Q E (hr.deeper _) hsp
  have I := inv_start (CX := CX0) (E := E) S hr.r.hd e0 hl r x
  refine wpAny_mono (ht.nox.run [] s1 (L2.start N vs) H _ I hq) (fun fl s' hs => ?_) fun e s' hs => hs
  cases fl with
  | ret u =>
    obtain ⟨v, σ', H', J, rv, q⟩ := hs
    exact ⟨v, H', J.os, J.bare, J.base, J.hok, rv, q⟩
  | next =>
    obtain ⟨σ', H', J, q⟩ := hs
    exact ⟨V.non, H', J.os, J.bare, J.base, J.hok, rfl, q⟩
  | brk =>
    obtain ⟨_, _, _, q⟩ := hs
    exact False.elim q
  | cont =>
    obtain ⟨_, _, _, q⟩ := hs
    exact False.elim q
end

/-! ### promises over data -/
inductive Ar where
  | val (d : D)
  | src
abbrev FS := List Ar → (D → Prop) → Prop
def ArR (Z : ZS) (sa : Addr) (H : Hp) (v : V) : Ar → Prop
  | .val d => Rp Z H v d
  | .src => v = .ref sa
inductive ArL (Z : ZS) (sa : Addr) (H : Hp) : List V → List Ar → Prop
  | nil : ArL Z sa H [] []
  | cons {v : V} {vs : List V} {a : Ar} {as : List Ar} : ArR Z sa H v a → ArL Z sa H vs as → ArL Z sa H (v :: vs) (a :: as)
theorem ArL.length {Z : ZS} {sa : Addr} {H : Hp} {vs : List V} {as : List Ar} (h : ArL Z sa H vs as) : vs.length = as.length := by
  induction h with
  | nil => rfl
  | cons _ _ ih => simp [ih]
/-- the heap behind a call: what stood stands, but the source -/
structure Went (sa ca : Addr) (Z : ZS) (H : Hp) (Z' : ZS) (H' : Hp) : Prop where
  x : Ext Z H Z' H'
  zn : ∀ a, Z' a → Z a ∨ H a = none
  zd : ∀ a, Z' a → H' a ≠ none
  zs : ¬ Z' sa
  zc : ¬ Z' ca
  src : IsSrc H' sa ca
  pres : ∀ a o, H a = some o → a ≠ sa → a ≠ ca → H' a = some o
def spV (n : Nat) (φ : FS) : Sp := fun vs H Q _ => ∃ Z sa ca ars Q0, ars.length = n ∧ ArL Z sa H vs ars ∧ IsSrc H sa ca ∧ ¬ Z sa ∧ ¬ Z ca ∧ (∀ a, Z a → H a ≠ none) ∧ φ ars Q0 ∧
  ∀ d, Q0 d → ∀ Z' v H', Went sa ca Z H Z' H' → Rp Z' H' v d → Q v H'
def arS : Ar → Sl
  | .val d => .val d
  | .src => .src
/-- the slots at the entry -/
def envOf (n : Nat) (ars : List Ar) : VE := ars.map arS ++ List.replicate (n - ars.length) .emp
def retQ (Q0 : D → Prop) : Fl → VE → Prop := fun fl _ => match fl with
  | .rt d => Q0 d
  | .nx => Q0 .none
  | _ => False
theorem start_get {N : List Str} {vs : List V} {i : Nat} (h : i < vs.length) : (L2.start N vs)[i]? = some (some vs[i]) := by
  unfold L2.start
  rw [List.getElem?_append_left (by simpa using h), List.getElem?_map, List.getElem?_eq_getElem h]
  rfl
theorem envOf_get {n : Nat} {ars : List Ar} {i : Nat} {s : Sl} (h : (envOf n ars)[i]? = some s) : (∃ a, ars[i]? = some a ∧ s = arS a) ∨ s = .emp := by
  unfold envOf at h
  by_cases hi : i < ars.length
  · rw [List.getElem?_append_left (by simpa using hi), List.getElem?_map, List.getElem?_eq_getElem hi] at h
    cases h
    exact .inl ⟨_, List.getElem?_eq_getElem hi, rfl⟩
  · rw [List.getElem?_append_right (by simpa using hi), List.getElem?_replicate] at h
    split at h
    · cases h; exact .inr rfl
    · cases h
theorem ArL.get {Z : ZS} {sa : Addr} {H : Hp} : ∀ {vs : List V} {as : List Ar} {i : Nat} {a : Ar}, ArL Z sa H vs as → as[i]? = some a → ∃ v, vs[i]? = some v ∧ ArR Z sa H v a
  | _, _, _, _, .nil, e => by simp at e
  | _, _, 0, _, .cons r _, e => by simp at e; subst e; exact ⟨_, rfl, r⟩
  | _, _, i + 1, _, .cons _ l, e => by
    obtain ⟨v, h1, h2⟩ := ArL.get (i := i) l (by simpa using e)
    exact ⟨v, by simpa using h1, h2⟩
/-- the entry -/
theorem entry {N : List Str} {n : Nat} {φ : FS} {w : WS} {vs : List V} {H : Hp} {Q : VK} {E : XK} (hn : n ≤ N.length) (hφ : ∀ ars Q0, ars.length = n → φ ars Q0 → w (envOf N.length ars) (retQ Q0)) (h : spV n φ vs H Q E) :
    tS w { nx := fun _ H' => Q .non H', rt := Q } (L2.start N vs) H := by
  obtain ⟨Z, sa, ca, ars, Q0, hl, al, hs, nz, nc, zd, hφ', k⟩ := h
  have hlv := al.length
  have c : Cf ⟨H, Z, sa, ca⟩ Z (envOf N.length ars) (L2.start N vs) H := by
    refine ⟨?_, fun i d e => ?_, fun i d e => ?_, fun i j d e a h1 => ?_, fun i e => ?_, hs, nz, nc, zd, fun a z => .inl z, zd, fun a o q _ _ => q⟩
    · unfold L2.start envOf
      simp only [List.length_append, List.length_map, List.length_replicate]
      omega
    · rcases envOf_get e with ⟨a, ha, hs⟩ | hs
      · obtain ⟨v, hv, r⟩ := al.get ha
        cases a with
        | val d' =>
          cases hs
          have hi := (List.getElem?_eq_some_iff.mp hv).1
          refine ⟨v, ?_, r⟩
          rw [start_get hi, (List.getElem?_eq_some_iff.mp hv).2]
        | src => cases hs
      · cases hs
    · rcases envOf_get e with ⟨a, ha, hs⟩ | hs
      · cases a <;> cases hs
      · cases hs
    · rcases envOf_get h1 with ⟨a, ha, hs⟩ | hs
      · cases a <;> cases hs
      · cases hs
    · rcases envOf_get e with ⟨a, ha, hs⟩ | hs
      · obtain ⟨v, hv, r⟩ := al.get ha
        cases a with
        | val d' => cases hs
        | src =>
          have hi := (List.getElem?_eq_some_iff.mp hv).1
          rw [start_get hi, (List.getElem?_eq_some_iff.mp hv).2]
          rw [show v = .ref sa from r]
      · cases hs
  refine ⟨⟨H, Z, sa, ca⟩, Z, _, _, c, hφ ars Q0 hl hφ', fun fl e q Z' σ' H' x c' => ?_⟩
  have went : Went sa ca Z H Z' H' := ⟨x, c'.zold, c'.zdom, c'.zs, c'.zc, c'.srcH, c'.pres⟩
  cases fl with
  | nx => exact k _ q Z' _ H' went .non
  | rt d => exact fun v r => k d q Z' v H' went r
  | bk => exact q.elim
  | ct => exact q.elim

/-! ### calls -/
/-- a def that may be called by its name -/
structure Cb (P : Program) (w : World) (K : PySem.W.Frag) (mg : Str → Option Value) (base : Heap) (k : Nat) (x : Str) (n : Nat) (φ : FS) : Prop where
  ex : ∃ f fd ps, FnG P w K mg base k f fd ps (spV n φ) ∧ mg x = some (.ref f) ∧ PySem.W.keepIn K (.ref f) = true ∧ Binds K fd ps []
/-- the arguments, fixed -/
def arsOf (env : VE) : List Rs → Option (List Ar × VE)
  | [] => some ([], env)
  | .src :: rs => match arsOf env rs with
    | some (as, e) => some (.src :: as, e)
    | none => none
  | r :: rs => match frz1 env r with
    | some (d, e1) => match arsOf e1 rs with
      | some (as, e2) => some (.val d :: as, e2)
      | none => none
    | none => none
theorem HdL.ars {F : Frm} {σ : L2.St} {H : Hp} : ∀ {rs : List Rs} {vs : List V} {as : List Ar} {env e1 : VE} {Z : ZS}, Cf F Z env σ H → HdL F Z σ H vs rs → arsOf env rs = some (as, e1) → ∃ Z', Ext Z H Z' H ∧ Cf F Z' e1 σ H ∧ ArL Z' F.sa H vs as
  | [], _, ds, env, e1, Z, c, .nil, e => by
    cases e; exact ⟨Z, .refl Z H, c, .nil⟩
  | r :: rs, _, ds, env, e1, Z, c, .cons h l, e => by
    have up : ∀ {Z1 Z2 : ZS} {vs as}, Ext Z1 H Z2 H → ArL Z1 F.sa H vs as → ArL Z2 F.sa H vs as := fun {Z1 Z2 vs as} x h => by
      induction h with
      | nil => exact .nil
      | @cons v vs a as r l ih =>
        refine .cons ?_ ih
        cases a with
        | val d => exact Rp.ext x r
        | src => exact r
    by_cases hr : r = .src
    · subst hr
      unfold VL.arsOf at e
      cases q2 : VL.arsOf env rs with
      | none => rw [q2] at e; cases e
      | some p2 =>
        obtain ⟨as', e3⟩ := p2
        rw [q2] at e
        cases e
        obtain ⟨Z2, x2, c2, r2⟩ := HdL.ars c l q2
        exact ⟨Z2, x2, c2, .cons h r2⟩
    · have e : (match frz1 env r with
        | some (d, e1) => match arsOf e1 rs with
          | some (as, e2) => some (Ar.val d :: as, e2)
          | none => none
        | none => none) = some (ds, e1) := by
        cases r with
        | src => exact absurd rfl hr
        | _ => exact e
      cases q : VL.frz1 env r with
      | none => rw [q] at e; cases e
      | some p =>
        obtain ⟨d, e2⟩ := p
        rw [q] at e
        simp only at e
        cases q2 : VL.arsOf e2 rs with
        | none => rw [q2] at e; cases e
        | some p2 =>
          obtain ⟨ds', e3⟩ := p2
          rw [q2] at e
          cases e
          obtain ⟨Z1, x1, c1, r1⟩ := h.frz1 c q
          obtain ⟨Z2, x2, c2, r2⟩ := HdL.ars c1 (l.ext x1) q2
          exact ⟨Z2, x1.trans x2, c2, .cons (r1.ext x2) r2⟩
def wCall (φ : FS) (ws : WEs) : WE := fun env Q => ws env fun rs e => onS (arsOf e rs) fun p => φ p.1 fun d => Q (.val d) p.2
theorem tV_call {n : Nat} {φ : FS} (hφ : ∀ as Q, φ as Q → as.length = n) {ws : WEs} {σ : L2.St} {H : Hp} {Q : VK} (h : tV (wCall φ ws) σ H Q) : tCall (spV n φ) [] E0 (tVs ws) σ H Q := by
  obtain ⟨F, Z, env, Q0, c, h, k⟩ := h
  refine ⟨F, Z, env, _, c, h, fun rs e1 q1 Z1 vs H1 x1 c1 hd => ?_⟩
  obtain ⟨⟨as, e2⟩, o, q1⟩ := onS_some q1
  obtain ⟨Z2, x2, c2, al⟩ := hd.ars c1 o
  refine ⟨Z2, F.sa, F.ca, as, _, hφ _ _ q1, by rw [List.append_nil]; exact al, c2.srcH, c2.zs, c2.zc, c2.zdom, q1, fun d q Z3 v H3 wt r => ?_⟩
  have xx := ((x1.trans x2).trans wt.x)
  refine k _ _ q Z3 v H3 xx ?_ r
  have old : ∀ a, H1 a ≠ none → a ≠ F.sa → a ≠ F.ca → H3 a = H1 a := fun a h n1 n2 => by
    cases q : H1 a with
    | none => exact absurd q h
    | some o => exact wt.pres a o q n1 n2
  refine ⟨c2.len, fun i d e => let ⟨v, q, r⟩ := c2.val i d e; ⟨v, q, r.ext wt.x⟩, fun i d e => ?_, c2.uniq, c2.srcs, wt.src, wt.zs, wt.zc, wt.zd, fun a z => ?_, c2.z0d, fun a o q n1 n2 => ?_⟩
  · obtain ⟨b, q, ob, nb, m0, m1, m2⟩ := c2.own i d e
    refine ⟨b, q, ob.ext wt.x (old b ob.some m1 m2), fun z => ?_, m0, m1, m2⟩
    rcases wt.zn b z with z | z
    · exact nb z
    · exact ob.some z
  · rcases wt.zn a z with z | z
    · exact c2.zold a z
    · exact .inr (c2.old_none z).1
  · exact wt.pres a o (c2.pres a o q n1 n2) n1 n2
section
variable {X : Cx} {k k' n : Nat} {x : Str} {φ : FS} {e : Expr} {es : List Expr} {ws : WEs} {p pos : Pos}
theorem v_call (C : Cb X.prog X.w X.K X.mg X.base k x n φ) (hφ : ∀ as Q, φ as Q → as.length = n) (hr : RoomG k' X.A) (hk : k ≤ k') (ha : PA X (e :: es) (tVs ws)) (hg : Gl X x := by rfl) (hdb : (x == ("__debug__" : Str)) = false := by decide)
    (he : starEach (e :: es) X.env = (false, eval e X.env) :: starEach es X.env := by rfl) (hpl : (backTo pos (starEach es X.env)).any (·.1) = false := by rfl) :
    PE X (.Call (.Name x p) (e :: es) [] pos) (tV (wCall φ ws)) := by
  obtain ⟨f, fd, ps, F, hm, hkp, hb⟩ := C.ex
  refine ⟨fun pins s σ H Q I h => ?_⟩
  refine wpAny_Call_Name_kw (ld_glob I hg hm ?_ hdb)
  refine PySem.W.callWith_K (h₀ := X.base) I.ok.mod.kin hkp (thn (ha.run pos pins s σ H _ I (tV_call hφ h)) fun us s1 ⟨vs, H1, I1, r, q⟩ => ⟨I1.kIn, ?_⟩) he hpl
  have r2 : Vals (vs ++ []) (us ++ []) := r.append .nil
  have hl : (us ++ ([] : List Value)).length = ps.length := by rw [← r2.length]; exact F.len _ _ _ _ q
  refine wpAny_call (codeAny_mono (F.run X.A X.stack s1 H1 ⟨us, []⟩ (us ++ []) (vs ++ []) Q E0 (hr.mono hk) I1.env0 (hb s1 us I1.kIn hl) r2 q) fun r s' hq => ?_)
  cases r with
  | error e => exact hq.elim
  | ok fl =>
    cases fl with
    | ret u => exact I1.after hq
    | next => exact False.elim hq
    | brk => exact False.elim hq
    | cont => exact False.elim hq
end
end VL

namespace VL
open PySem PySem.Spec PyProof.Rows L2
theorem law_callG {P : Program} {w : World} {K : PySem.W.Frag} {mg mb : Str → Option Value} {k : Nat} {fa a : Addr} {fd : FuncData} {x : Str} {sp : Sp} {sE : Shared} {vs : List Value} {ns : List Int}
    (kin : K.In sE.heap) (hMain : sE.heap.Ns mainGlobals mg) (hb : sE.heap.Ns builtinsNs mb) (hBoot : ∀ x : Str, x ≠ "__name__" → mb x = bootBuiltins x) (hLim : sE.heap.NoLimit) (hg : sE.gens = #[])
    (ha : sE.heap.get? a = some { cls := .type "list", data := .seq vs.toArray }) (hi : IntsAre vs ns) (hl : ns.length ≤ sizeLine) (hr : RoomG k callerA)
    (F : ∀ base : Heap, K.In base → base.Ns mainGlobals mg → FnG P w K mg base k fa fd [x] sp) (hBind : ∀ (s : Shared) (u : Value), BindsTo s fd ⟨[u], []⟩ [(x, u)])
    (hSp : ∀ H : Hp, Only H → SqL K H a (ns.map V.int) → sp [.ref a] H (fun v _ => v = .bl true) fun _ _ _ => False) :
    codeAny (model P w) callerA (.call (.ref fa) ⟨[.ref a], []⟩) (fun r s' => r = .ok (.ret (.bool true)) ∧ OldK sE.heap s'.heap ∧ s'.os = sE.os ∧ AllBare s'.gens) sE := by
  have rVs := vals_ints hi
  have lVs := hi.length
  -- from an abstract heap in which nothing but the script may be tracked
  have atAny : ∀ H : Hp, Only H → SqL K H a (ns.map V.int) → HOk P w H sE.heap → (∀ b, H b ≠ none → b = a) → (H a ≠ none → K.lookup a = none) →
      codeAny (model P w) callerA (.call (.ref fa) ⟨[.ref a], []⟩) (fun r s' => r = .ok (.ret (.bool true)) ∧ OldK sE.heap s'.heap ∧ s'.os = sE.os ∧ AllBare s'.gens) sE := by
    intro H hOnly hScr hOk1 hAddr hOwn
    have inBase : ∀ {b : Addr} {o : Obj}, sE.heap.get? b = some o → H b = none → (hidT sE.heap H).get? b = some o := fun e n => hidT_get e n
    have noDic : ∀ {b : Addr} {o : Obj} {es : Array DictEntry} {ep : Nat}, sE.heap.get? b = some o → o.data = .dict es ep → H b = none := fun {b o es ep} e d => by
      cases q : H b with
      | none => rfl
      | some u =>
        have e' : b = a := hAddr b (by rw [q]; simp)
        subst e'
        rw [ha] at e; cases e
        have d' : Data.seq vs.toArray _ = Data.dict es ep := d
        cases d'
    have nsIn : ∀ {b : Addr} {m : Str → Option Value}, sE.heap.Ns b m → (hidT sE.heap H).Ns b m := fun {b m} ⟨o, es, ep, e, d, r⟩ => ⟨o, es, ep, inBase e (noDic e d), d, r⟩
    have hBase : K.In (hidT sE.heap H) := fun b o e => inBase (kin b o e) (by
      cases q : H b with
      | none => rfl
      | some u =>
        have e' : b = a := hAddr b (by rw [q]; simp)
        subst e'
        rw [hOwn (by rw [q]; simp)] at e; cases e)
    have hMod : Mod K mg (hidT sE.heap H) := ⟨hBase, nsIn hMain, ⟨mb, nsIn hb, hBoot⟩, let ⟨mc, h1, h2⟩ := hLim; ⟨mc, nsIn h1, h2⟩⟩
    have eAt : Env0 P w K mg (hidT sE.heap H) callerA [] sE H := ⟨rfl, hMod, fun b o e => of_hidT e, Nat.le_of_eq (hidT_size _ _), trivial, fun b hb => absurd (show b ∈ ([] : List Addr) from hb) (by simp), hOk1, .of_eq hg⟩
    refine codeAny_mono ((F _ hBase (nsIn hMain)).run callerA [] sE H ⟨[.ref a], []⟩ [.ref a] [.ref a] _ _ hr eAt (hBind sE (.ref a)) (.cons rfl .nil) (hSp H hOnly hScr)) fun r s' h => ?_
    cases r with
    | error e => exact h.elim
    | ok fl =>
      cases fl with
      | next => exact False.elim h
      | brk => exact False.elim h
      | cont => exact False.elim h
      | ret u =>
        obtain ⟨v, H', os, bare, uN, hOk1', r', q⟩ := h
        have q' : v = .bl true := q
        subst q'
        obtain rfl : u = Value.bool true := r'
        refine ⟨rfl, OldK.of_keep fun b o e => ?_, os, bare⟩
        cases q : H b with
        | none => exact uN.keep b o e q (by intro z; exact absurd (show b ∈ ([] : List Addr) from z) (by simp)) (by simp)
        | some u =>
          rcases hOnly b with z | ⟨ob, xs, z⟩
          · rw [q] at z; cases z
          · have z2 := uN.frzs b ob _ z
            obtain ⟨e1, _⟩ := hOk1 b _ z
            obtain ⟨e2, _⟩ := hOk1' b _ z2
            rw [e] at e1; cases e1
            exact e2
  cases hk : K.lookup a with
  | some o =>
    -- the script is one of the module's own objects
    have e := kin a o hk
    rw [ha] at e
    cases e
    refine atAny (fun _ => none) (fun _ => .inl rfl) (.inr ⟨_, vs.toArray, _, hk, rfl, rfl, rfl, by rw [List.size_toArray, lVs]; exact hl, by simpa using rVs⟩) (fun b u z => by have z' : (none : Option HO) = some u := z; cases z') (fun b z => absurd rfl z) fun z => absurd rfl z
  | none =>
    refine atAny (fun b => if b = a then some (.frz { cls := .type "list", data := .seq vs.toArray } (.lst (ns.map V.int))) else none) (fun b => ?_) (.inl (.inr ⟨{ cls := .type "list", data := .seq vs.toArray }, if_pos rfl⟩)) (fun b u z => ?_) (fun b z => ?_) fun _ => hk
    · by_cases hb : b = a
      · exact .inr ⟨_, _, if_pos hb⟩
      · exact .inl (if_neg hb)
    · by_cases hb : b = a
      · have z' := (if_pos hb).symm.trans z
        cases z'
        subst hb
        exact ⟨ha, by rw [List.length_map]; exact hl, vs, _, rVs, ha⟩
      · have z' := (if_neg hb).symm.trans z
        cases z'
    · by_cases hb : b = a
      · exact hb
      · exact absurd (if_neg hb) z
theorem walk_ofG {l : PySem.W.OpenLaw} {n k : Nat} {q : Program} {loose : List Str} {XP : (Str → Option Value) → Heap → Prop} {YP : World → Heap → Prop} {d : DefRec} {K : Params → PySem.W.Frag} {sp : World → Sp} {x : Str}
    (hn : l.most = some n) (hn2 : n ≤ sizeLine) (hdf : d.params.defaults = []) (hr : RoomG k callerA)
    (hY : ∀ (w : World) (h : Heap), YP w h → (K w.params).In h)
    (F : ∀ (w : World) (mg : Str → Option Value) (fa : Addr) (h : Heap), (K w.params).In h → h.Ns mainGlobals mg → mg d.name = some (.ref fa) →
      ∃ fd : FuncData, (∀ (s : Shared) (u : Value), BindsTo s fd ⟨[u], []⟩ [(x, u)]) ∧
        ∀ base : Heap, (K w.params).In base → base.Ns mainGlobals mg → FnG l.prog w (K w.params) mg base k fa fd [x] (sp w))
    (hSp : ∀ (w : World) (H : Hp) (a : Addr) (ns : List Int), ns.length ≤ n → (∀ z ∈ ns, Builtin.Int.intBits z ≤ 1048576) → L2.Only H → SqL (K w.params) H a (ns.map V.int) → sp w [.ref a] H (fun v _ => v = .bl true) fun _ _ _ => False) :
    PySem.W.WalkO q loose XP YP l.row.toRowW d [] (fun f vs => PySem.call f vs) := by
  refine Att.attach_callB hn hdf fun w s₀ sE mg mb fa o pm cd doc a vs ns G Y ho hd hcd hmg hObj hInts hlen hbits hg => ?_
  have kin := hY w _ Y
  obtain ⟨fd, hb, hF⟩ := F w mg fa _ kin G.T.g hmg
  exact law_callG kin G.T.g G.T.b G.T.builtins G.T.nolimit hg hObj hInts (Nat.le_trans hlen hn2) hr hF hb (fun H hOnly hScr => hSp w H a ns hlen hbits hOnly hScr)
end VL

namespace VL
open PySem PySem.Spec PyProof.Rows L2

/-! ### the law's source: made from the script -/
abbrev rInt1 : List V → Hp → VK → Prop := fun xs H Q => (∃ i, xs = [.int i] ∧ Q (.int i) H) ∨ ∃ k, xs = [.bl k] ∧ Q (.int (if k then 1 else 0)) H
abbrev rAbs1 : List V → Hp → VK → Prop := fun xs H Q => ∃ i, xs = [.int i] ∧ Q (.int (if i < 0 then -i else i)) H
abbrev rAddI : R2 := rI0 fun i j => .int (i + j)
abbrev rMulI : R2 := rI CMul fun i j => .int (i * j)
abbrev rModI : R2 := rI (fun _ j => 0 < j) fun i j => .int (i % j)
def tOpen (K : PySem.W.Frag) : TS :=
  tSeq (tAsg (tC (.int 11)) (gName 1))
    (tSeq (tFor (iList K (tVar 0)) (gName 2) (tAsg (tOp rModI (tCB rInt1 (tCons (tOp rAddI (tOp rAddI (tOp rMulI (tVar 1) (tC (.int 69069))) (tOp rMulI (tVar 2) (tC (.int 31)))) (tC (.int 5))) tNil)) (tC (.int 2147483629))) (gName 1)))
      (tSeq (tAsg (tLc (iList K (tVar 0)) (gName 2) tYes (tCB rAbs1 (tCons (tVar 2) tNil)) [2]) (gName 3))
        (tRet (tDisp [(tC (.str "cells"), tRevL K (tVar 3)), (tC (.str "left"), tC (.int 1)), (tC (.str "mixed"), tVar 1), (tC (.str "turn"), tC (.int 0))]))))
def spOpen (K : PySem.W.Frag) : Sp := fun vs H Q _ => ∃ (a : Addr) (ns : List Int), vs = [.ref a] ∧ SqL K H a (ns.map V.int) ∧ ns.length ≤ 63 ∧
  ∀ p q H', (∀ b o, H b = some o → H' b = some o) → H p = none → H q = none → IsSrc H' p q → Q (.ref p) H'
theorem iteT {A B : Prop} (h : A) : if true = true then A else B := h
theorem iteF' {A B : Prop} (h : B) : if false = true then A else B := by rw [if_neg Bool.false_ne_true]; exact h
theorem sq_keep {K : PySem.W.Frag} {H H' : Hp} {a : Addr} {xs : List V} (h : SqL K H a xs) (k : ∀ b o, H b = some o → H' b = some o) : SqL K H' a xs := Same.seq k h
theorem same_upd' {H : Hp} {p : Addr} {o : HO} (h : H p = none) : ∀ b u, H b = some u → upd H p o b = some u := fun b u e => by
  rw [upd_ne (by rintro rfl; rw [h] at e; cases e)]
  exact e
theorem open_run {K : PySem.W.Frag} {D : Ends} {H : Hp} {vs : List V} {E : XK} (h : spOpen K vs H D.rt E) : tOpen K D (L2.start ["script", "stirred", "cell", "cells"] vs) H := by
  obtain ⟨a, ns, rfl, hS, hl, k⟩ := h
  -- stirred = 11; the loop
  refine ⟨_, rfl, a, rfl, ⟨_, hS⟩, fun i m σ H3 => ∃ (z : Int) (y2 y3 : Option V), σ = [some (.ref a), some (.int z), y2, y3] ∧ i + m = ns.length ∧ H3 = H ∧ -(2 ^ 32) < z ∧ z < 2 ^ 32, ⟨ns.length, 11, none, none, rfl, by omega, rfl, by omega, by omega⟩, ?_⟩
  rintro i m σ H3 ⟨z, y2, y3, rfl, em, rfl, b1, b2⟩
  by_cases hi : i < ns.length
  · have g : (ns.map V.int)[i]? = some (.int ns[i]) := by
      rw [List.getElem?_map, List.getElem?_eq_getElem hi]; rfl
    refine .inr ⟨⟨_, _, hS, g⟩, fun σ' H' => ∃ (z : Int) (y2 y3 : Option V), σ' = [some (.ref a), some (.int z), y2, y3] ∧ H' = H3 ∧ -(2 ^ 32) < z ∧ z < 2 ^ 32, fun σ' H' ⟨z, y2, y3, e1, e2, e3, e4⟩ => ⟨m - 1, by omega, z, y2, y3, e1, by omega, e2, e3, e4⟩, fun x H' hy => ?_⟩
    obtain ⟨rfl, fv⟩ := hy
    have ex : x = .int ns[i] := Option.some.inj ((fv _ hS).symm.trans g)
    subst ex
    refine ⟨.int z, rfl, z, 69069, rfl, rfl, .inr ⟨by omega, by omega⟩, .int ns[i], rfl, _, 31, rfl, rfl, .inr ⟨by omega, by omega⟩, _, _, rfl, rfl, _, _, rfl, rfl, .inl ⟨_, rfl, _, _, rfl, rfl, by omega, ?_⟩⟩
    refine ⟨_, _, _, rfl, rfl, ?_, ?_⟩
    · have := Int.emod_nonneg (z * 69069 + ns[i] * 31 + 5) (by omega : (2147483629 : Int) ≠ 0); omega
    · have := Int.emod_lt_of_pos (z * 69069 + ns[i] * 31 + 5) (by omega : (0 : Int) < 2147483629); omega
  · refine .inl ⟨⟨_, hS, by rw [List.length_map]; omega⟩, ?_⟩
    -- cells = [abs(cell) for cell in script]
    refine ⟨_, rfl, a, rfl, ⟨_, hS⟩, fun c hc => ?_⟩
    have k1 := same_upd' (o := .lst []) hc
    let f : Int → Int := fun i => if i < 0 then -i else i
    refine ⟨fun i m H4 => i + m = ns.length ∧ (∀ b o, H3 b = some o → H4 b = some o) ∧ H4 c = some (.lst (((ns.take i).map f).map V.int)), ⟨ns.length, by omega, k1, by rw [upd_same]; rfl⟩, ?_⟩
    rintro i m H4 ⟨em, k4, hc4⟩
    have hS4 := sq_keep hS k4
    by_cases hi : i < ns.length
    · have g : (ns.map V.int)[i]? = some (.int ns[i]) := by
        rw [List.getElem?_map, List.getElem?_eq_getElem hi]; rfl
      refine .inr ⟨⟨_, _, hS4, g⟩, fun H' => (∀ b o, H3 b = some o → H' b = some o) ∧ H' c = some (.lst (((ns.take (i + 1)).map f).map V.int)), fun H' ⟨e1, e2⟩ => ⟨m - 1, by omega, by omega, e1, e2⟩, fun x H' hy => ?_⟩
      obtain ⟨rfl, fv⟩ := hy
      have ex : x = .int ns[i] := Option.some.inj ((fv _ hS4).symm.trans g)
      subst ex
      refine ⟨rfl, ?_⟩
      refine ⟨_, rfl, _, rfl, _, hc4, ?_, fun b o e => ?_, ?_⟩
      · rw [List.length_map, List.length_map, List.length_take]
        exact lim_lt (by have : LIM = 1000000 := rfl; omega)
      · have : b ≠ c := by rintro rfl; rw [hc] at e; cases e
        rw [upd_ne this]; exact k4 b o e
      · rw [upd_same, List.take_add_one, List.getElem?_eq_getElem hi, List.map_append, List.map_append]
        rfl
    · refine .inl ⟨⟨_, hS4, by rw [List.length_map]; omega⟩, ?_⟩
      rw [List.take_of_length_le (by omega)] at hc4
      -- the dict
      intro p hp
      have k5 := same_upd' (o := .dK []) hp
      have npc : c ≠ p := by rintro rfl; rw [hp] at hc4; cases hc4
      refine ⟨_, rfl, c, _, rfl, .inl (.inl (by rw [upd_ne npc]; exact hc4)), fun q hq => ?_⟩
      have npq : p ≠ q := by rintro rfl; rw [upd_same] at hq; cases hq
      have hq4 : H4 q = none := by rw [upd_ne (Ne.symm npq)] at hq; exact hq
      have h3q : H3 q = none := by
        cases e : H3 q with
        | none => rfl
        | some o => rw [k4 q o e] at hq4; cases hq4
      have h3p : H3 p = none := by
        cases e : H3 p with
        | none => rfl
        | some o => rw [k4 p o e] at hp; cases hp
      refine ⟨_, rfl, ?_, [(.inr "cells", .ref q), (.inr "left", .int 1), (.inr "mixed", .int z), (.inr "turn", .int 0)], rfl, (show 4 ≤ 15 by decide), ?_⟩
      · rw [upd_ne npq]; exact upd_same
      · refine k p q _ (fun b o e => ?_) h3p h3q ⟨npq, (ns.map f).reverse, 1, z, 0, ?_, ?_, ?_⟩
        · have n1 : b ≠ p := by rintro rfl; rw [h3p] at e; cases e
          have n2 : b ≠ q := by rintro rfl; rw [h3q] at e; cases e
          rw [upd_ne n1, upd_ne n2, upd_ne n1]
          exact k4 b o e
        · rw [List.length_reverse, List.length_map]; exact hl
        · rw [upd_ne (Ne.symm npq), upd_same, List.map_reverse]
        · rw [upd_same]; rfl
end VL

namespace VL
open PySem PySem.Spec PyProof.Rows L2

/-! ### the law's source: drawn from -/
def srcD (ca : Addr) (l m t : Int) : List (Key × V) := [(.inr "cells", .ref ca), (.inr "left", .int l), (.inr "mixed", .int m), (.inr "turn", .int t)]
theorem srcD_cells (ca : Addr) (l m t : Int) : valV (srcD ca l m t) (.inr "cells") = some (.ref ca) := rfl
theorem srcD_left (ca : Addr) (l m t : Int) : valV (srcD ca l m t) (.inr "left") = some (.int l) := rfl
theorem srcD_mixed (ca : Addr) (l m t : Int) : valV (srcD ca l m t) (.inr "mixed") = some (.int m) := rfl
theorem srcD_turn (ca : Addr) (l m t : Int) : valV (srcD ca l m t) (.inr "turn") = some (.int t) := rfl
theorem srcD_pleft (ca : Addr) (l m t l' : Int) : putK (srcD ca l m t) (.inr "left") (.int l') = srcD ca l' m t := rfl
theorem srcD_pturn (ca : Addr) (l m t l' : Int) : putK (srcD ca l m t) (.inr "turn") (.int l') = srcD ca l m l' := rfl
abbrev rDivI : R2 := rI (fun _ j => 0 < j ∧ j < 1073741824) fun i j => .int (i / j)
abbrev sk (x : Str) : TE := tC (.str x)
abbrev rLenI (K : PySem.W.Frag) : List V → Hp → VK → Prop := fun xs H Q => ∃ p ys, xs = [.ref p] ∧ (SqL K H p ys ∨ SqT K H p ys) ∧ Q (.int ys.length) H
def tPick (K : PySem.W.Frag) (rP : V → List V → Hp → VK → Prop) : TS :=
  tSeq (tIfS (tB (tLt (tVar 1) (tC (.int 2)))) (tRet (tC (.int 0))) tNext)
  (tSeq (tAsg (tDGet (tVar 0) (sk "cells")) (gName 2))
  (tSeq (tWhile (tAnd (tB (tLt (tDGet (tVar 0) (sk "left")) (tC (.int 2)))) (tB (tGt (tCB (rLenI K) (tCons (tVar 2) tNil)) (tC (.int 0))))) (sDPut (tVar 0) (sk "left") (tBM0 K "list" rP (tVar 2))))
  (tSeq (tAsg (tDGet (tVar 0) (sk "left")) (gName 3))
  (tSeq (tIfS (tB (tGt (tVar 3) (tC (.int 1)))) (tSeq (sDPut (tVar 0) (sk "left") (tOp rDivI (tVar 3) (tVar 1))) (tRet (tOp rModI (tCB rInt1 (tCons (tVar 3) tNil)) (tVar 1)))) tNext)
  (tSeq (sDPut (tVar 0) (sk "turn") (tOp rAddI (tDGet (tVar 0) (sk "turn")) (tC (.int 1))))
  (tSeq (tAsg (tDGet (tVar 0) (sk "turn")) (gName 4))
  (tSeq (tAsg (tOp rModI (tCB rInt1 (tCons (tOp rAddI (tDGet (tVar 0) (sk "mixed")) (tOp rMulI (tVar 4) (tC (.int 104729)))) tNil)) (tC (.int 998244353))) (gName 5))
  (tSeq (tAsg (tOp rModI (tCB rInt1 (tCons (tOp rAddI (tOp rMulI (tVar 5) (tVar 5)) (tOp rMulI (tVar 4) (tC (.int 17)))) tNil)) (tC (.int 2147483647))) (gName 5))
  (tRet (tOp rModI (tCB rInt1 (tCons (tOp rDivI (tVar 5) (tC (.int 16))) tNil)) (tVar 1)))))))))))
/-- any number below most -/
def φPick : FS := fun as Q => match as with
  | [.src, .val (.int most)] => most < 1073741824 ∧ ∀ r : Int, 0 ≤ r → (r = 0 ∨ r < most) → Q (.int r)
  | _ => False
/-- the source through the draw -/
structure SrcSt (H H1 : Hp) (sa ca : Addr) (l m t : Int) (cs : List Int) : Prop where
  ne : sa ≠ ca
  le : cs.length ≤ 63
  hc : H1 ca = some (.lst (cs.map V.int))
  hs : H1 sa = some (.dK (srcD ca l m t))
  k : ∀ b, b ≠ sa → b ≠ ca → H1 b = H b
theorem SrcSt.put {H H1 : Hp} {sa ca : Addr} {l m t l' m' t' : Int} {cs : List Int} (s : SrcSt H H1 sa ca l m t cs) : SrcSt H (upd H1 sa (.dK (srcD ca l' m' t'))) sa ca l' m' t' cs :=
  ⟨s.ne, s.le, by rw [upd_ne (Ne.symm s.ne)]; exact s.hc, upd_same, fun b n1 n2 => by rw [upd_ne n1]; exact s.k b n1 n2⟩
theorem SrcSt.cut {H H1 : Hp} {sa ca : Addr} {l m t : Int} {cs cs' : List Int} (s : SrcSt H H1 sa ca l m t cs) (h : cs'.length ≤ 63) : SrcSt H (upd H1 ca (.lst (cs'.map V.int))) sa ca l m t cs' :=
  ⟨s.ne, h, upd_same, by rw [upd_ne s.ne]; exact s.hs, fun b n1 n2 => by rw [upd_ne n2]; exact s.k b n1 n2⟩
theorem mod_le {a b : Int} (h : 0 < b) : 0 ≤ a % b ∧ a % b < b := ⟨Int.emod_nonneg a (by omega), Int.emod_lt_of_pos a h⟩
theorem pick_run {K : PySem.W.Frag} {H : Hp} {vs : List V} {Q : VK} {E : XK} (h : spV 2 φPick vs H Q E) : tPick K rPop { nx := fun _ H' => Q .non H', rt := Q } (L2.start ["source", "most", "cells", "others", "lap", "stirred"] vs) H := by
  obtain ⟨Z, sa, ca, ars, Q0, hl, al, hs, nz, nc, zd, hφ, k⟩ := h
  unfold φPick at hφ
  split at hφ
  · rename_i most
    obtain ⟨hm, hφ⟩ := hφ
    obtain ⟨v1, v2, rfl, e1, e2⟩ : ∃ v1 v2, vs = [v1, v2] ∧ v1 = .ref sa ∧ v2 = .int most := by
      cases al with
      | cons r1 al => cases al with
        | cons r2 al =>
          cases al
          refine ⟨_, _, rfl, r1, ?_⟩
          have r2 : Rp Z H _ (.int most) := r2
          cases r2
          rfl
    subst e1 e2
    obtain ⟨hne, cs0, l0, m0, t0, hcs0, hc0, hs0⟩ := hs
    have s0 : SrcSt H H sa ca l0 m0 t0 cs0 := ⟨hne, hcs0, hc0, hs0, fun _ _ _ => rfl⟩
    -- behind the draw
    have fin : ∀ {l m t : Int} {cs : List Int} {H1 : Hp} {r : Int}, SrcSt H H1 sa ca l m t cs → 0 ≤ r → (r = 0 ∨ r < most) → Q (.int r) H1 := fun {l m t cs H1 r} s h1 h2 => by
      refine k (.int r) (hφ r h1 h2) Z _ H1 ⟨⟨fun a h => h, fun a z => s.k a (by rintro rfl; exact nz z) (by rintro rfl; exact nc z)⟩, fun a z => .inl z, fun a z => ?_, nz, nc, ⟨s.ne, cs, l, m, t, s.le, s.hc, s.hs⟩, fun a o q n1 n2 => by rw [s.k a n1 n2]; exact q⟩ (.int r)
      rw [s.k a (by rintro rfl; exact nz z) (by rintro rfl; exact nc z)]
      exact zd a z
    -- if most < 2
    refine ⟨_, rfl, most, 2, rfl, rfl, _, rfl, ite2 (fun e => fin s0 (Int.le_refl 0) (.inl rfl)) fun e => ?_⟩
    have hm2 : 2 ≤ most := by
      have : ¬ most < 2 := fun h => e (decide_eq_true h)
      omega
    -- cells = source['cells']
    refine ⟨_, rfl, sa, _, rfl, DGet.k (k := .inr "cells") hs0, ?_⟩
    -- the walk over the cells
    refine ⟨fun n σ H1 => ∃ l cs, σ = [some (.ref sa), some (.int most), some (.ref ca), none, none, none] ∧ n = cs.length ∧ SrcSt H H1 sa ca l m0 t0 cs, ⟨_, l0, cs0, rfl, rfl, s0⟩, ?_⟩
    rintro n σ H1 ⟨l, cs, rfl, rfl, s⟩
    have rest : SrcSt H H1 sa ca l m0 t0 cs → tSeq (tAsg (tDGet (tVar 0) (sk "left")) (gName 3))
      (tSeq (tIfS (tB (tGt (tVar 3) (tC (.int 1)))) (tSeq (sDPut (tVar 0) (sk "left") (tOp rDivI (tVar 3) (tVar 1))) (tRet (tOp rModI (tCB rInt1 (tCons (tVar 3) tNil)) (tVar 1)))) tNext)
      (tSeq (sDPut (tVar 0) (sk "turn") (tOp rAddI (tDGet (tVar 0) (sk "turn")) (tC (.int 1))))
      (tSeq (tAsg (tDGet (tVar 0) (sk "turn")) (gName 4))
      (tSeq (tAsg (tOp rModI (tCB rInt1 (tCons (tOp rAddI (tDGet (tVar 0) (sk "mixed")) (tOp rMulI (tVar 4) (tC (.int 104729)))) tNil)) (tC (.int 998244353))) (gName 5))
      (tSeq (tAsg (tOp rModI (tCB rInt1 (tCons (tOp rAddI (tOp rMulI (tVar 5) (tVar 5)) (tOp rMulI (tVar 4) (tC (.int 17)))) tNil)) (tC (.int 2147483647))) (gName 5))
      (tRet (tOp rModI (tCB rInt1 (tCons (tOp rDivI (tVar 5) (tC (.int 16))) tNil)) (tVar 1)))))))) { nx := fun _ H' => Q .non H', rt := Q } [some (.ref sa), some (.int most), some (.ref ca), none, none, none] H1 := fun s => by
      refine ⟨_, rfl, sa, _, rfl, DGet.k (k := .inr "left") s.hs, ?_⟩
      refine ⟨_, rfl, l, 1, rfl, rfl, _, rfl, ite2 (fun e => ?_) fun e => ?_⟩
      · refine ⟨_, rfl, _, rfl, l, most, rfl, rfl, ⟨by omega, hm⟩, ?_⟩
        refine ⟨_, rfl, sa, _, rfl, DPut.k (k := .inr "left") s.hs (lim_lt (show 4 < LIM by decide)), ?_⟩
        rw [srcD_pleft]
        refine ⟨_, rfl, .inl ⟨_, rfl, _, rfl, l, most, rfl, rfl, by omega, ?_⟩⟩
        have := mod_le (a := l) (b := most) (by omega)
        exact fin (s.put (l' := l / most) (m' := m0) (t' := t0)) this.1 (.inr this.2)
      · refine ⟨_, rfl, sa, _, rfl, DGet.k (k := .inr "turn") s.hs, _, _, rfl, rfl, ?_⟩
        refine ⟨_, rfl, sa, _, rfl, DPut.k (k := .inr "turn") s.hs (lim_lt (show 4 < LIM by decide)), ?_⟩
        rw [srcD_pturn]
        have s2 := s.put (l' := l) (m' := m0) (t' := t0 + 1)
        refine ⟨_, rfl, sa, _, rfl, DGet.k (k := .inr "turn") s2.hs, ?_⟩
        refine ⟨_, rfl, sa, _, rfl, DGet.k (k := .inr "mixed") s2.hs, _, rfl, _, _, rfl, rfl, .inr ⟨by omega, by omega⟩, _, _, rfl, rfl, .inl ⟨_, rfl, _, _, rfl, rfl, by omega, ?_⟩⟩
        have h5 := mod_le (a := m0 + (t0 + 1) * 104729) (b := 998244353) (by omega)
        refine ⟨_, rfl, _, rfl, _, _, rfl, rfl, .inl ⟨by omega, by omega⟩, _, rfl, _, _, rfl, rfl, .inr ⟨by omega, by omega⟩, _, _, rfl, rfl, .inl ⟨_, rfl, _, _, rfl, rfl, by omega, ?_⟩⟩
        refine ⟨_, rfl, _, _, rfl, rfl, ⟨by omega, by omega⟩, .inl ⟨_, rfl, _, rfl, _, _, rfl, rfl, by omega, ?_⟩⟩
        have := mod_le (a := ((m0 + (t0 + 1) * 104729) % 998244353 * ((m0 + (t0 + 1) * 104729) % 998244353) + (t0 + 1) * 17) % 2147483647 / 16) (b := most) (by omega)
        exact fin s2 this.1 (.inr this.2)
    refine ⟨_, rfl, sa, _, rfl, DGet.k (k := .inr "left") s.hs, l, 2, rfl, rfl, _, rfl, ite2 (fun e => ?_) fun e => ?_⟩
    · refine ⟨_, rfl, ca, _, rfl, .inl (.inl (.inl s.hc)), _, _, rfl, rfl, _, rfl, ite2 (fun e2 => ?_) fun e2 => rest s⟩
      · have hn : 0 < cs.length := by
          have := of_decide_eq_true e2
          rw [List.length_map] at this
          omega
        refine ⟨fun σ H' => ∃ l' cs', σ = [some (.ref sa), some (.int most), some (.ref ca), none, none, none] ∧ cs'.length < cs.length ∧ SrcSt H H' sa ca l' m0 t0 cs', fun σ' H' ⟨l', cs', e1, e2, e3⟩ => ⟨_, e2, l', cs', e1, rfl, e3⟩, ?_⟩
        have hx : cs[cs.length - 1]? = some cs[cs.length - 1] := List.getElem?_eq_getElem (by omega)
        refine ⟨_, rfl, .inl ⟨rfl, _, .inl (.inl s.hc)⟩, ca, _, .int cs[cs.length - 1], rfl, rfl, s.hc, by rw [List.length_map, List.getElem?_map, hx]; rfl, ?_⟩
        have s2 := s.cut (cs' := cs.dropLast) (by rw [List.length_dropLast]; have := s.le; omega)
        rw [← List.map_dropLast]
        refine ⟨_, rfl, sa, _, rfl, DPut.k (k := .inr "left") s2.hs (lim_lt (show 4 < LIM by decide)), ?_⟩
        rw [srcD_pleft]
        exact ⟨_, cs.dropLast, rfl, by rw [List.length_dropLast]; omega, s2.put⟩
    · exact rest s
  · exact hφ.elim
end VL

namespace VL
open PySem PySem.Spec PyProof.Rows L2
theorem Rm.blk {X : Cx} (m : Rm X) {s : Shared} {H : Hp} {sc : Scope} {ce : Env} {fp : List Addr} : Rm (X.blk s H sc ce fp) := ⟨m.calm, m.un, m.gd⟩
theorem rm_of {X : Cx} {k : Nat} (hr : RoomG k X.A) (hc : X.calm = true) : Rm X := ⟨hc, by have := hr.r.un; omega, hr.g⟩
abbrev XX (P : Program) (w : World) (K : PySem.W.Frag) (mg : Str → Option Value) (base : Heap) (N : List Str) (qual : Str) (sc : Scope) (f : Addr) (cdv : Value) (A : Around) (outer : List Env) (s : Shared) (H : Hp) (E : XK) : Cx := (cxOf CX0 P w K mg base N qual sc f cdv A outer s H E).nox
section
variable {X : Cx} {k k' n : Nat} {x : Str} {sp : Sp} {e : Expr} {es : List Expr} {p pos : Pos} {t : TA}
theorem pe_callG {f : Addr} {fd : FuncData} {ps : List Str} (F : FnG X.prog X.w X.K X.mg X.base k f fd ps sp) (hm : X.mg x = some (.ref f)) (hkp : PySem.W.keepIn X.K (.ref f) = true) (hb : Binds X.K fd ps []) (hr : RoomG k' X.A) (hk : k ≤ k') (ha : PA X (e :: es) t) (hg : Gl X x := by rfl) (hdb : (x == ("__debug__" : Str)) = false := by decide)
    (he : starEach (e :: es) X.env = (false, eval e X.env) :: starEach es X.env := by rfl) (hpl : (backTo pos (starEach es X.env)).any (·.1) = false := by rfl) :
    PE X (.Call (.Name x p) (e :: es) [] pos) (tCall sp [] E0 t) := by
  refine ⟨fun pins s σ H Q I h => ?_⟩
  refine wpAny_Call_Name_kw (ld_glob I hg hm ?_ hdb)
  refine PySem.W.callWith_K (h₀ := X.base) I.ok.mod.kin hkp (thn (ha.run pos pins s σ H _ I h) fun us s1 ⟨vs, H1, I1, r, q⟩ => ⟨I1.kIn, ?_⟩) he hpl
  have r2 : Vals (vs ++ []) (us ++ []) := r.append .nil
  have hl : (us ++ ([] : List Value)).length = ps.length := by rw [← r2.length]; exact F.len _ _ _ _ q
  refine wpAny_call (codeAny_mono (F.run X.A X.stack s1 H1 ⟨us, []⟩ (us ++ []) (vs ++ []) Q E0 (hr.mono hk) I1.env0 (hb s1 us I1.kIn hl) r2 q) fun r s' hq => ?_)
  cases r with
  | error e => exact hq.elim
  | ok fl =>
    cases fl with
    | ret u => exact I1.after hq
    | next => exact False.elim hq
    | brk => exact False.elim hq
    | cont => exact False.elim hq
end
section
variable {X : Cx} {a b : Expr} {wa wb : WE} {rest : List Expr} {pos : Pos}
theorem v_one {op} (h : PE X a (tV wa)) : PE X (.BoolOp op [a] pos) (tV wa) := pe_one h
theorem v_andv (ha : PE X a (tV wa)) (hb : PE X (.BoolOp .And (b :: rest) pos) (tV wb)) : PE X (.BoolOp .And (a :: b :: rest) pos) (tV (wAndV wa wb)) := (pe_and ha hb).imp fun _ _ _ => tV_and
theorem v_orv (ha : PE X a (tV wa)) (hb : PE X (.BoolOp .Or (b :: rest) pos) (tV wb)) : PE X (.BoolOp .Or (a :: b :: rest) pos) (tV (wOrV wa wb)) := (pe_or ha hb).imp fun _ _ _ => tV_or
end
theorem spV_len {n : Nat} {φ : FS} {ps : List Str} (h : ps.length = n) : ∀ vs H Q E, spV n φ vs H Q E → vs.length = ps.length := by
  rintro vs H Q E ⟨Z, sa, ca, ars, Q0, hl, al, _⟩
  rw [al.length, hl, h]
theorem cb_of {P : Program} {w : World} {K : PySem.W.Frag} {mg : Str → Option Value} {base : Heap} {x : Str} {st : Stmt} {f : Addr} {fd : FuncData} {N ps : List Str} {k n : Nat} {φ : FS} {wf : WS} (F : Fun K x x st f fd) (S : FnScope N ps (defScope st)) (g : mg x = some (.ref f)) (b : Binds K fd ps []) (hn : ps.length = n) (hN : n ≤ N.length)
    (hm : ∀ ars Q0, ars.length = n → φ ars Q0 → wf (envOf N.length ars) (retQ Q0))
    (hp : ∀ (cdv : Value) (A : Around) (outer : List Env) (s : Shared) (H : Hp) (E : XK), RoomG k (A.deeper (envOfC x (defScope st) s.heap.objs.size f cdv)) → PSs (XX P w K mg base N x (defScope st) f cdv A outer s H E) (defBody st) (tS wf)) : Cb P w K mg base (k + 1) x n φ :=
  ⟨f, fd, ps, fnG_of F S (spV_len hn) (fun cdv A outer s H vs Q E hr h => ⟨_, hp cdv A outer s H E hr, entry hN hm h⟩), g, F.kp, b⟩
/-- the law's first statement, then data -/
theorem law_entry {K : PySem.W.Frag} {N : List Str} {w : WS} {a : Addr} {ns : List Int} {H : Hp} {Q : VK} (hN : 2 ≤ N.length) (hw : w (.emp :: .src :: List.replicate (N.length - 2) .emp) fun fl _ => fl = .rt (.bool true)) (hS : SqL K H a (ns.map V.int)) (hl : ns.length ≤ 63) (hq : ∀ H', Q (.bl true) H') :
    tSeq (tAsg (tCall (spOpen K) [] E0 (tCons (tVar 0) tNil)) (gName 1)) (tS w) { nx := fun _ H' => Q .non H', rt := Q } (L2.start N [.ref a]) H := by
  obtain ⟨m, hm⟩ : ∃ m, N.length = m + 2 := ⟨N.length - 2, by omega⟩
  have est : L2.start N [.ref a] = some (.ref a) :: none :: List.replicate m none := by
    unfold L2.start
    rw [hm]
    rfl
  rw [est]
  refine ⟨_, rfl, a, ns, rfl, hS, hl, fun p q H' k hp hq' src => ?_⟩
  show tS w _ (some (.ref a) :: some (.ref p) :: List.replicate m none) H'
  rw [hm] at hw
  have cases3 : ∀ {i : Nat} {s : Sl}, (Sl.emp :: Sl.src :: List.replicate (m + 2 - 2) Sl.emp)[i]? = some s → s = .emp ∨ (i = 1 ∧ s = .src) := fun {i s} h => by
    match i with
    | 0 => simp at h; exact .inl h.symm
    | 1 => simp at h; exact .inr ⟨rfl, h.symm⟩
    | i + 2 =>
      simp [List.getElem?_replicate] at h
      exact .inl h.2.symm
  have c : Cf ⟨H', fun _ => False, p, q⟩ (fun _ => False) (.emp :: .src :: List.replicate (m + 2 - 2) .emp) (some (.ref a) :: some (.ref p) :: List.replicate m none) H' := by
    refine ⟨by simp, fun i d h => ?_, fun i d h => ?_, fun i j d e b h => ?_, fun i h => ?_, src, id, id, fun _ z => z.elim, fun _ z => z.elim, fun _ z => z.elim, fun b o q _ _ => q⟩
    · rcases cases3 h with h | h <;> simp at h
    · rcases cases3 h with h | h <;> simp at h
    · rcases cases3 h with h | h <;> simp at h
    · rcases cases3 h with h | h
      · cases h
      · obtain ⟨rfl, _⟩ := h
        rfl
  refine ⟨_, _, _, _, c, hw, fun fl e' q Z' σ' H2 x c' => ?_⟩
  subst q
  intro v r
  cases r
  exact hq _
def spLaw (K : PySem.W.Frag) : Sp := fun vs H Q _ => ∃ (a : Addr) (ns : List Int), vs = [.ref a] ∧ SqL K H a (ns.map V.int) ∧ ns.length ≤ 63 ∧ ∀ H', Q (.bl true) H'
theorem room_callerA (k : Nat) (h : k ≤ 8) : RoomG k callerA := ⟨(show Room 8 callerA from ⟨rfl, by decide, by decide⟩).mono h, rfl⟩
end VL

namespace VL
open PySem PySem.Spec PyProof.Rows L2
/-! ### data of ints, pairs -/
def nD (i : Nat) : D := .int (i : Int)
def iD (i : Int) : D := .int i
def pD (p : Int × Int) : D := .tuple [.int p.1, .int p.2]
def oD : Option Nat → D
  | none => .none
  | some i => .int (i : Int)
section
variable {α β : Type}
theorem atI_map (F : α → D) (xs : List α) (i : Nat) : atI (xs.map F) (i : Int) = (xs[i]?).map F := by
  cases h : xs[i]? with
  | some a => exact atI_nat (by rw [List.getElem?_map, h]; rfl)
  | none =>
    have hl : xs.length ≤ i := List.getElem?_eq_none_iff.mp h
    unfold L2.atI L2.ixN
    rw [if_pos (by omega), if_neg (by rw [List.length_map]; omega)]
    rfl
theorem atI_neg1 (xs : List D) : atI xs (-1) = xs.getLast? := by
  rcases List.eq_nil_or_concat xs with rfl | ⟨ys, y, rfl⟩
  · rfl
  · rw [List.concat_eq_append, atI_last, List.getLast?_append]; rfl
theorem enumD_map (F : α → D) (xs : List α) : enumD (xs.map F) = xs.zipIdx.map fun p => .tuple [.int (p.2 : Nat), F p.1] := by
  unfold enumD
  rw [List.zipIdx_map, List.map_map]
  rfl
theorem zipD_map (F : α → D) (G : β → D) (xs : List α) (ys : List β) : zipD (xs.map F) (ys.map G) = (xs.zip ys).map fun p => .tuple [F p.1, G p.2] := by
  unfold zipD
  rw [List.zipWith_map, List.zip, List.map_zipWith]
theorem rangeD_zero (n : Nat) : rangeD 0 n = (List.range n).map nD := by
  unfold rangeD nD
  exact List.map_congr_left fun i _ => by rw [Int.zero_add]
end
/-! #### canLay0, depth -/
def okN (n : Nat) (d : D) : Prop := d.canLay0 = true ∧ d.depth ≤ n
theorem okD_iff {d : D} : okD d = true ↔ okN 60 d := by
  unfold okD okN
  rw [Bool.and_eq_true, decide_eq_true_eq]
theorem canAll {xs : List D} : PyData.canLayAll0 xs = true ↔ ∀ x ∈ xs, x.canLay0 = true := by
  induction xs with
  | nil => simp [PyData.canLayAll0]
  | cons x r ih => simp [PyData.canLayAll0, ih]
theorem depthAllLe {xs : List D} {n : Nat} : PyData.depthAll xs ≤ n ↔ ∀ x ∈ xs, x.depth ≤ n := by
  induction xs with
  | nil => simp [PyData.depthAll]
  | cons x r ih => simp [PyData.depthAll, ih, Nat.max_le]
theorem okN.mono {n m : Nat} {d : D} (h : okN n d) (l : n ≤ m) : okN m d := ⟨h.1, Nat.le_trans h.2 l⟩
theorem okN_int (n : Nat) (i : Int) : okN n (.int i) := ⟨rfl, Nat.zero_le _⟩
theorem okN_bool (n : Nat) (i : Bool) : okN n (.bool i) := ⟨rfl, Nat.zero_le _⟩
theorem okN_none (n : Nat) : okN n .none := ⟨rfl, Nat.zero_le _⟩
theorem okN_list {n : Nat} {xs : List D} (h : ∀ x ∈ xs, okN n x) : okN (n + 1) (.list xs) := ⟨by
  show PyData.canLayAll0 xs = true
  exact canAll.mpr fun x hx => (h x hx).1, by
  show PyData.depthAll xs + 1 ≤ n + 1
  exact Nat.succ_le_succ (depthAllLe.mpr fun x hx => (h x hx).2)⟩
theorem okN_tuple {n : Nat} {xs : List D} (h : ∀ x ∈ xs, okN n x) : okN (n + 1) (.tuple xs) := ⟨by
  show PyData.canLayAll0 xs = true
  exact canAll.mpr fun x hx => (h x hx).1, by
  show PyData.depthAll xs + 1 ≤ n + 1
  exact Nat.succ_le_succ (depthAllLe.mpr fun x hx => (h x hx).2)⟩
theorem ok_list {xs : List D} (h : ∀ x ∈ xs, okN 59 x) : okD (.list xs) = true := okD_iff.mpr (okN_list h)
theorem ok_tuple {xs : List D} (h : ∀ x ∈ xs, okN 59 x) : okD (.tuple xs) = true := okD_iff.mpr (okN_tuple h)
theorem ok_int (i : Int) : okD (.int i) = true := rfl
theorem ok_none : okD .none = true := rfl
theorem okN_nD (n i : Nat) : okN n (nD i) := okN_int n i
theorem okN_oD (n : Nat) (o : Option Nat) : okN n (oD o) := by cases o; exact okN_none n; exact okN_int n _
theorem okN_pD (n : Nat) (p : Int × Int) : okN (n + 1) (pD p) := okN_tuple (by simp; exact ⟨okN_int n _, okN_int n _⟩)
theorem okN_map {α : Type} {n : Nat} {F : α → D} {xs : List α} (h : ∀ x, okN n (F x)) : ∀ d ∈ xs.map F, okN n d := by
  intro d hd
  obtain ⟨x, _, rfl⟩ := List.mem_map.mp hd
  exact h x
/-! #### order -/
theorem lt_ii (a b : Int) : PySem.W.dataLt (.int a) (.int b) = decide (a < b) := by
  show PyProof.Rows.lexLt PyProof.Rows.itemOrd [.inl a] [.inl b] = _
  rw [PyProof.Rows.lex_cons]
  show (decide (a < b) || (!decide (b < a) && false)) = _
  simp
theorem lt_pp (p q : Int × Int) : PySem.W.dataLt (pD p) (pD q) = (decide (p.1 < q.1) || (decide (p.1 = q.1) && decide (p.2 < q.2))) := by
  show PyProof.Rows.lexLt PyProof.Rows.itemOrd [.inl 1, .inl p.1, .inl 1, .inl p.2, .inl 0] [.inl 1, .inl q.1, .inl 1, .inl q.2, .inl 0] = _
  rw [PyProof.Rows.lex_cons, PyProof.Rows.lex_cons, PyProof.Rows.lex_cons, PyProof.Rows.lex_cons, PyProof.Rows.lex_cons]
  show (decide ((1 : Int) < 1) || (!decide ((1 : Int) < 1) && (decide (p.1 < q.1) || (!decide (q.1 < p.1) && (decide ((1 : Int) < 1) || (!decide ((1 : Int) < 1) && (decide (p.2 < q.2) || (!decide (q.2 < p.2) && (decide ((0 : Int) < 0) || (!decide ((0 : Int) < 0) && false)))))))))) = _
  rcases Int.lt_trichotomy p.1 q.1 with h | h | h
  · have : ¬ q.1 < p.1 := by omega
    simp [h, this]
  · simp [h]
  · have : ¬ p.1 < q.1 := by omega
    have h3 : ¬ p.1 = q.1 := by omega
    simp [h, this, h3]
theorem alikeAll_ints (xs : List Int) : PySem.W.AlikeAll (xs.map iD) := by
  refine ⟨fun x hx y hy => ?_, fun x hx => ?_⟩
  · obtain ⟨a, _, rfl⟩ := List.mem_map.mp hx
    obtain ⟨b, _, rfl⟩ := List.mem_map.mp hy
    rfl
  · obtain ⟨a, _, rfl⟩ := List.mem_map.mp hx
    intro e; cases e
theorem alikeAll_pairs (xs : List (Int × Int)) : PySem.W.AlikeAll (xs.map pD) := by
  refine ⟨fun x hx y hy => ?_, fun x hx => ?_⟩
  · obtain ⟨a, _, rfl⟩ := List.mem_map.mp hx
    obtain ⟨b, _, rfl⟩ := List.mem_map.mp hy
    rfl
  · obtain ⟨a, _, rfl⟩ := List.mem_map.mp hx
    intro e; cases e
def maxI (x : Int) (xs : List Int) : Int := xs.foldl (fun a y => if a < y then y else a) x
def minI (x : Int) (xs : List Int) : Int := xs.foldl (fun a y => if y < a then y else a) x
def pLt (p q : Int × Int) : Bool := decide (p.1 < q.1) || (decide (p.1 = q.1) && decide (p.2 < q.2))
def maxP (x : Int × Int) (xs : List (Int × Int)) : Int × Int := xs.foldl (fun a y => if pLt a y then y else a) x
theorem maxD_ints (x : Int) (xs : List Int) : PySem.W.maxD (iD x) (xs.map iD) = iD (maxI x xs) := by
  unfold PySem.W.maxD maxI
  induction xs generalizing x with
  | nil => rfl
  | cons y r ih =>
    rw [List.map_cons, List.foldl_cons, List.foldl_cons, ← ih]
    congr 1
    show (if PySem.W.dataLt (.int x) (.int y) = true then iD y else iD x) = _
    rw [lt_ii]
    by_cases h : x < y <;> simp [h]
theorem minD_ints (x : Int) (xs : List Int) : PySem.W.minD (iD x) (xs.map iD) = iD (minI x xs) := by
  unfold PySem.W.minD minI
  induction xs generalizing x with
  | nil => rfl
  | cons y r ih =>
    rw [List.map_cons, List.foldl_cons, List.foldl_cons, ← ih]
    congr 1
    show (if PySem.W.dataLt (.int y) (.int x) = true then iD y else iD x) = _
    rw [lt_ii]
    by_cases h : y < x <;> simp [h]
theorem maxD_pairs (x : Int × Int) (xs : List (Int × Int)) : PySem.W.maxD (pD x) (xs.map pD) = pD (maxP x xs) := by
  unfold PySem.W.maxD maxP
  induction xs generalizing x with
  | nil => rfl
  | cons y r ih =>
    rw [List.map_cons, List.foldl_cons, List.foldl_cons, ← ih]
    congr 1
    rw [lt_pp]
    show (if pLt x y = true then pD y else pD x) = _
    by_cases h : pLt x y = true
    · rw [if_pos h, if_pos h]
    · rw [if_neg h, if_neg h]
theorem maxI_mem (x : Int) (xs : List Int) : maxI x xs ∈ x :: xs := by
  unfold maxI
  induction xs generalizing x with
  | nil => simp
  | cons y r ih =>
    rw [List.foldl_cons]
    by_cases h : x < y
    · rw [if_pos h]; exact List.mem_cons_of_mem _ (ih y)
    · rw [if_neg h]
      rcases List.mem_cons.mp (ih x) with e | e
      · rw [e]; exact List.mem_cons_self ..
      · exact List.mem_cons_of_mem _ (List.mem_cons_of_mem _ e)
theorem maxI_le (x : Int) (xs : List Int) : ∀ y ∈ x :: xs, y ≤ maxI x xs := by
  unfold maxI
  induction xs generalizing x with
  | nil => intro y hy; simp at hy; subst hy; exact Int.le_refl _
  | cons z r ih =>
    intro y hy
    rw [List.foldl_cons]
    by_cases h : x < z
    · rw [if_pos h]
      have := ih z
      rcases List.mem_cons.mp hy with e | e
      · subst e; have := this z (List.mem_cons_self ..); omega
      · exact this y e
    · rw [if_neg h]
      have := ih x
      rcases List.mem_cons.mp hy with e | e
      · subst e; exact this y (List.mem_cons_self ..)
      · rcases List.mem_cons.mp e with e | e
        · subst e; have := this x (List.mem_cons_self ..); omega
        · exact this y (List.mem_cons_of_mem _ e)
/-! #### equality -/
theorem anyEq_nD (i : Nat) (xs : List Nat) : anyEq (nD i) (xs.map nD) = decide (i ∈ xs) := by
  unfold anyEq
  induction xs with
  | nil => rfl
  | cons x r ih =>
    rw [List.map_cons, List.any_cons, ih]
    have : PyData.eqv (nD x) (nD i) = decide (x = i) := by
      show (((x : Nat) : Int) == ((i : Nat) : Int)) = _
      rw [Bool.eq_iff_iff]; simp; omega
    rw [this]
    by_cases h : x = i
    · simp [h]
    · simp [h, Ne.symm h]
theorem anyEq_oD (i : Nat) (xs : List (Option Nat)) : anyEq (nD i) (xs.map oD) = decide (some i ∈ xs) := by
  unfold anyEq
  induction xs with
  | nil => rfl
  | cons x r ih =>
    rw [List.map_cons, List.any_cons, ih]
    have : PyData.eqv (oD x) (nD i) = decide (x = some i) := by
      cases x with
      | none => rfl
      | some x =>
        show (((x : Nat) : Int) == ((i : Nat) : Int)) = _
        rw [Bool.eq_iff_iff]; simp; omega
    rw [this]
    by_cases h : x = some i
    · simp [h]
    · simp [h, Ne.symm h]
theorem eqv_nn (a b : Nat) : PyData.eqv (nD a) (nD b) = decide (a = b) := by
  show (((a : Nat) : Int) == ((b : Nat) : Int)) = _
  rw [Bool.eq_iff_iff]; simp; omega
theorem eqv_no (a : Nat) (o : Option Nat) : PyData.eqv (nD a) (oD o) = decide (some a = o) := by
  cases o with
  | none => rfl
  | some b => rw [show oD (some b) = nD b from rfl, eqv_nn]; simp
theorem eqv_ii (a b : Int) : PyData.eqv (.int a) (.int b) = decide (a = b) := by
  show (a == b) = _
  rw [Bool.beq_eq_decide_eq]
mutual
theorem eqv_self : ∀ d : D, d.canLay0 = true → PyData.eqv d d = true
  | .none, _ => rfl
  | .bool b, _ => by cases b <;> rfl
  | .int i, _ => by show (i == i) = true; simp
  | .str x, _ => by show (x == x) = true; simp
  | .list xs, h => eqvAll_self xs h
  | .tuple xs, h => eqvAll_self xs h
  | .dict _, h => by simp [PyData.canLay0] at h
theorem eqvAll_self : ∀ xs : List D, PyData.canLayAll0 xs = true → PyData.eqvAll xs xs = true
  | [], _ => rfl
  | x :: r, h => by
    simp only [PyData.canLayAll0, Bool.and_eq_true] at h
    show (PyData.eqv x x && PyData.eqvAll r r) = true
    rw [eqv_self x h.1, eqvAll_self r h.2]; rfl
end
/-! #### texts -/
mutual
def shL : D → Nat
  | .none => 4
  | .bool _ => 5
  | .int i => i.natAbs.log2 + 3
  | .str _ => 0
  | .list xs => shLs xs + 3
  | .tuple xs => shLs xs + 3
  | .dict _ => 0
def shLs : List D → Nat
  | [] => 0
  | x :: r => shL x + 2 + shLs r
end
mutual
def plainD : D → Bool
  | .none => true
  | .bool _ => true
  | .int i => decide (i.natAbs.log2 < 1920)
  | .str _ => false
  | .list xs => plainDs xs
  | .tuple xs => plainDs xs
  | .dict _ => false
def plainDs : List D → Bool
  | [] => true
  | x :: r => plainD x && plainDs r
end
theorem join_len (ts : List Str) : (Str.join ", " ts).length ≤ piled ts := by
  by_cases h : ts = []
  · subst h; exact Nat.zero_le _
  · have := join_length_add ts h; omega
theorem tupT_len (ts : List Str) : (tupleText ts).length ≤ piled ts + 3 := by
  unfold tupleText
  rw [strLen_append, strLen_append]
  have e1 : ((("(" : String) : Str)).length = 1 := rfl
  have e3 : (((if ts.length == 1 then ",)" else ")" : String) : Str)).length ≤ 2 := by split <;> decide
  have := join_len ts
  omega
theorem textFrom_le : ∀ (ts : List Str) (k : Nat) (acc : Str), (textFrom k acc ts).length ≤ acc.length + piled ts
  | [], k, acc => Nat.le_add_right _ _
  | t :: r, k, acc => by
    have ih := textFrom_le r (k + 1) (acc ++ (if k > 0 then ", " else "" : String) ++ t)
    have e : (acc ++ (if k > 0 then ", " else "" : String) ++ t).length ≤ acc.length + 2 + t.length := by
      rw [strLen_append, strLen_append]
      have : (((if k > 0 then ", " else "" : String) : Str)).length ≤ 2 := by split <;> decide
      omega
    rw [piled_cons]
    show (textFrom (k + 1) _ r).length ≤ _
    omega
theorem lstT_len (ts : List Str) : (listText ts).length ≤ piled ts + 3 := by
  unfold listText
  rw [strLen_append]
  have := textFrom_le ts 0 "["
  have e1 : ((("[" : String) : Str)).length = 1 := rfl
  have e2 : ((("]" : String) : Str)).length = 1 := rfl
  omega
end VL

namespace VL
open PySem PySem.Spec PyProof.Rows L2
theorem ofS_len (s : String) : (Str.ofString s).length = s.length := by
  simp only [Str.length, Str.ofString_eq_toList, List.size_toArray, List.length_map, String.length_toList]
theorem nat_len (n : Nat) : (Nat.repr n).length ≤ n.log2 + 1 := nat_repr_length_le (by omega) (Nat.lt_log2_self)
theorem int_len (i : Int) : (toString i : Str).length ≤ i.natAbs.log2 + 3 := by
  show (Str.ofString (toString i)).length ≤ _
  rw [ofS_len]
  cases i with
  | ofNat m =>
    have : (toString (Int.ofNat m)).length ≤ m.log2 + 1 := nat_len m
    show (toString (Int.ofNat m)).length ≤ m.log2 + 3
    omega
  | negSucc m =>
    have e : toString (Int.negSucc m) = "-" ++ Nat.repr (m + 1) := rfl
    rw [e, String.length_append]
    have := nat_len (m + 1)
    have h1 : ("-" : String).length = 1 := rfl
    show _ ≤ (m + 1).log2 + 3
    omega
mutual
theorem shown_le : ∀ d : D, plainD d = true → d.shown.length ≤ shL d
  | .none, _ => by show (("None" : String) : Str).length ≤ 4; decide
  | .bool b, _ => by cases b <;> decide
  | .int i, _ => int_len i
  | .str x, h => by simp [plainD] at h
  | .list xs, h => by
    show (listText (PyData.shownAll xs)).length ≤ shLs xs + 3
    have := lstT_len (PyData.shownAll xs)
    have := showns_le xs h
    omega
  | .tuple xs, h => by
    show (tupleText (PyData.shownAll xs)).length ≤ shLs xs + 3
    have := tupT_len (PyData.shownAll xs)
    have := showns_le xs h
    omega
  | .dict _, h => by simp [plainD] at h
theorem showns_le : ∀ xs : List D, plainDs xs = true → piled (PyData.shownAll xs) ≤ shLs xs
  | [], _ => Nat.le_refl _
  | x :: r, h => by
    simp only [plainDs, Bool.and_eq_true] at h
    show piled (x.shown :: PyData.shownAll r) ≤ shL x + 2 + shLs r
    rw [piled_cons]
    have := shown_le x h.1
    have := showns_le r h.2
    omega
end
mutual
theorem plain_lay : ∀ d : D, plainD d = true → d.canLay0 = true ∧ d.showable = true
  | .none, _ => ⟨rfl, rfl⟩
  | .bool b, _ => ⟨rfl, rfl⟩
  | .int i, h => ⟨rfl, h⟩
  | .str x, h => by simp [plainD] at h
  | .list xs, h => plain_lays xs h
  | .tuple xs, h => plain_lays xs h
  | .dict _, h => by simp [plainD] at h
theorem plain_lays : ∀ xs : List D, plainDs xs = true → PyData.canLayAll0 xs = true ∧ PyData.showableAll xs = true
  | [], _ => ⟨rfl, rfl⟩
  | x :: r, h => by
    simp only [plainDs, Bool.and_eq_true] at h
    have h1 := plain_lay x h.1
    have h2 := plain_lays r h.2
    exact ⟨by show (x.canLay0 && PyData.canLayAll0 r) = true; rw [h1.1, h2.1]; rfl, by show (x.showable && PyData.showableAll r) = true; rw [h1.2, h2.2]; rfl⟩
end
/-- small enough to be shown: c a bound of what each piece takes -/
theorem okR_of {d : D} (h1 : plainD d = true) (h2 : d.depth ≤ 60) (h3 : shL d ≤ LIM) : okR d :=
  ⟨okD_iff.mpr ⟨(plain_lay d h1).1, h2⟩, (plain_lay d h1).2, Nat.le_trans (shown_le d h1) (lim_le h3)⟩
theorem shLs_le {c : Nat} : ∀ xs : List D, (∀ x ∈ xs, shL x ≤ c) → shLs xs ≤ (c + 2) * xs.length
  | [], _ => Nat.zero_le _
  | x :: r, h => by
    have h1 := h x (List.mem_cons_self ..)
    have h2 := shLs_le r fun y hy => h y (List.mem_cons_of_mem _ hy)
    show shL x + 2 + shLs r ≤ (c + 2) * (r.length + 1)
    rw [Nat.mul_add, Nat.mul_one]
    omega
theorem plainDs_of : ∀ xs : List D, (∀ x ∈ xs, plainD x = true) → plainDs xs = true
  | [], _ => rfl
  | x :: r, h => by
    show (plainD x && plainDs r) = true
    rw [h x (List.mem_cons_self ..), plainDs_of r fun y hy => h y (List.mem_cons_of_mem _ hy)]; rfl
theorem log2_small {n k : Nat} (h : n < 2 ^ (k + 1)) : n.log2 ≤ k := by
  by_cases h0 : n = 0
  · subst h0; simp
  · have := (Nat.log2_lt h0).mpr h; omega
theorem plain_nat {i : Nat} (h : i < 1073741824) : plainD (nD i) = true ∧ shL (nD i) ≤ 32 := by
  have : i.log2 ≤ 29 := log2_small (by omega)
  refine ⟨decide_eq_true ?_, ?_⟩
  · show (Int.natAbs (i : Int)).log2 < 1920
    rw [Int.natAbs_natCast]; omega
  · show (Int.natAbs (i : Int)).log2 + 3 ≤ 32
    rw [Int.natAbs_natCast]; omega
/-- a tuple of indices -/
theorem okR_nats {xs : List Nat} (h : ∀ i ∈ xs, i < 1073741824) (hl : xs.length ≤ 20000) : okR (.tuple (xs.map nD)) := by
  refine okR_of (plainDs_of _ fun x hx => ?_) ?_ ?_
  · obtain ⟨i, hi, rfl⟩ := List.mem_map.mp hx
    exact (plain_nat (h i hi)).1
  · show PyData.depthAll (xs.map nD) + 1 ≤ 60
    have : PyData.depthAll (xs.map nD) ≤ 0 := depthAllLe.mpr fun x hx => by
      obtain ⟨i, hi, rfl⟩ := List.mem_map.mp hx
      exact Nat.le_refl _
    omega
  · show shLs (xs.map nD) + 3 ≤ LIM
    have : shLs (xs.map nD) ≤ (32 + 2) * (xs.map nD).length := shLs_le _ fun x hx => by
      obtain ⟨i, hi, rfl⟩ := List.mem_map.mp hx
      exact (plain_nat (h i hi)).2
    rw [List.length_map] at this
    have e : LIM = 1000000 := rfl
    omega
theorem okR_opts {xs : List (Option Nat)} (h : ∀ i, some i ∈ xs → i < 1073741824) (hl : xs.length ≤ 20000) : okR (.tuple (xs.map oD)) := by
  refine okR_of (plainDs_of _ fun x hx => ?_) ?_ ?_
  · obtain ⟨i, hi, rfl⟩ := List.mem_map.mp hx
    cases i with
    | none => rfl
    | some i => exact (plain_nat (h i hi)).1
  · show PyData.depthAll (xs.map oD) + 1 ≤ 60
    have : PyData.depthAll (xs.map oD) ≤ 0 := depthAllLe.mpr fun x hx => by
      obtain ⟨i, hi, rfl⟩ := List.mem_map.mp hx
      cases i <;> exact Nat.le_refl _
    omega
  · show shLs (xs.map oD) + 3 ≤ LIM
    have : shLs (xs.map oD) ≤ (32 + 2) * (xs.map oD).length := shLs_le _ fun x hx => by
      obtain ⟨i, hi, rfl⟩ := List.mem_map.mp hx
      cases i with
      | none => show 4 ≤ 32; decide
      | some i => exact (plain_nat (h i hi)).2
    rw [List.length_map] at this
    have e : LIM = 1000000 := rfl
    omega

/-! ### walks of readings -/
theorem for_inv {g : WG} {b : WS} {Q : Fl → VE → Prop} (I : List D → VE → Prop) : ∀ (ds : List D) (e : VE), I ds e → (∀ e, I [] e → Q .nx e) →
    (∀ d r e, I (d :: r) e → ∀ K : Fl → VE → Prop, (∀ e', I r e' → K .nx e') → g d e fun e1 => b e1 K) → wForW g b ds e Q
  | [], e, h, hq, _ => hq e h
  | d :: r, e, h, hq, hs => hs d r e h _ fun e' h' => for_inv I r e' h' hq hs
/-- over xs.map F -/
theorem for_on {α : Type} {g : WG} {b : WS} {Q : Fl → VE → Prop} (F : α → D) (I : List α → VE → Prop) : ∀ (xs : List α) (e : VE), I xs e → (∀ e, I [] e → Q .nx e) →
    (∀ x r e, I (x :: r) e → ∀ K : Fl → VE → Prop, (∀ e', I r e' → K .nx e') → g (F x) e fun e1 => b e1 K) → wForW g b (xs.map F) e Q
  | [], e, h, hq, _ => hq e h
  | x :: r, e, h, hq, hs => hs x r e h _ fun e' h' => for_on F I r e' h' hq hs
/-- a pure comprehension over xs.map F -/
theorem comp_on {α : Type} {own : List Nat} {g : WG} {tt : WT} {te : WE} {wt : Wt} {e : VE} (F : α → D) (p : α → Bool) (f : α → D) (hwt : WtOk e wt) {Q : List D → VE → Prop} : ∀ (xs : List α) (acc : List D), acc.length + xs.length ≤ LIM →
    (∀ x ∈ xs, ∀ (Qt : D → VE → Prop) (Qf : VE → Prop), (p x = true → ∀ e4, wipeE e4 own = e → Qt (f x) e4) → (p x = false → ∀ e2, wipeE e2 own = e → Qf e2) →
      g (F x) e fun e1 => tt e1 fun b e2 => (b = true → te e2 fun r e3 => onS (frz1 e3 r) fun q => Qt q.1 q.2) ∧ (b = false → Qf e2)) →
    Q (acc ++ (xs.filter p).map f) e → wCompW own g tt te wt (xs.map F) acc e Q
  | [], acc, _, _, h => ⟨hwt, by simpa using h⟩
  | x :: r, acc, hl, hs, h => by
    refine ⟨hwt, hs x (List.mem_cons_self ..) (fun d e4 => acc.length < LIM ∧ wCompW own g tt te wt (r.map F) (acc ++ [d]) (wipeE e4 own) Q) (fun e2 => wCompW own g tt te wt (r.map F) acc (wipeE e2 own) Q) (fun hp e4 he => ⟨?_, ?_⟩) fun hp e2 he => ?_⟩
    · rw [List.length_cons] at hl; omega
    · rw [he]
      refine comp_on F p f hwt r _ (by rw [List.length_cons] at hl; rw [List.length_append]; show acc.length + 1 + _ ≤ _; omega) (fun y hy => hs y (List.mem_cons_of_mem _ hy)) ?_
      rw [List.filter_cons_of_pos hp] at h
      simpa using h
    · rw [he]
      refine comp_on F p f hwt r _ (by rw [List.length_cons] at hl; omega) (fun y hy => hs y (List.mem_cons_of_mem _ hy)) ?_
      rw [List.filter_cons_of_neg (by rw [hp]; exact Bool.false_ne_true)] at h
      exact h
end VL

namespace VL
open PySem PySem.Spec PyProof.Rows L2
/-! ### t[::-1], t a tuple -/
theorem back_adjust (n : Nat) : Builtin.Slice.sliceAdjust none none (-1) (n : Int) = ((n : Int) - 1, -1) := by
  unfold Builtin.Slice.sliceAdjust
  simp
theorem back_places (n : Nat) : Builtin.Slice.slicePlaces ((n : Int) - 1) (-1) (-1) = n := by
  unfold Builtin.Slice.slicePlaces
  simp
  omega
theorem fm_map {α β : Type} {f : α → Option β} {g : α → β} : ∀ l : List α, (∀ x ∈ l, f x = some (g x)) → l.filterMap f = l.map g
  | [], _ => rfl
  | x :: r, h => by rw [List.filterMap_cons, h x (List.mem_cons_self ..), List.map_cons, fm_map r fun y hy => h y (List.mem_cons_of_mem _ hy)]
theorem back_pick (xs : Array Value) : ((List.range xs.size).filterMap fun (m : Nat) => xs[(((xs.size : Int) - 1) + (m : Int) * (-1)).toNat]?).toArray = xs.toList.reverse.toArray := by
  congr 1
  apply List.ext_getElem?
  intro i
  have e : ((List.range xs.size).filterMap fun (m : Nat) => xs[(((xs.size : Int) - 1) + (m : Int) * (-1)).toNat]?) = (List.range xs.size).map fun m => xs[xs.size - 1 - m]?.getD .none := by
    refine fm_map _ fun m hm => ?_
    have hm := List.mem_range.mp hm
    have : (((xs.size : Int) - 1) + (m : Int) * (-1)).toNat = xs.size - 1 - m := by omega
    rw [this, Array.getElem?_eq_getElem (by omega)]
    rfl
  rw [e, List.getElem?_map]
  by_cases hi : i < xs.size
  · rw [List.getElem?_range hi, List.getElem?_reverse (by rw [Array.length_toList]; exact hi), Array.length_toList]
    show some (xs[xs.size - 1 - i]?.getD .none) = _
    rw [Array.getElem?_eq_getElem (by omega), Array.getElem?_toList, Array.getElem?_eq_getElem (by omega)]
    rfl
  · rw [List.getElem?_eq_none (by rw [List.length_range]; omega), List.getElem?_eq_none (by rw [List.length_reverse, Array.length_toList]; omega)]
    rfl
section
variable {prog : Program} {w : World} {A : Around} {E : Value → Shared → Prop} {s : Shared}
theorem back_applied {sl : Addr} {v1 v2 v3 : Value} {n : Nat} {Q : Int × Int × Nat → Shared → Prop} (hs : s.heap.IsSliceOf sl v1 v2 v3) (p1 : IsPart v1 none) (p2 : IsPart v2 none) (p3 : IsPart v3 (some (-1)))
    (h : Q ((n : Int) - 1, -1, n) s) : wpAny (model prog w) A (Builtin.Slice.sliceApplied (.ref sl) (pure (n : Int))) Q E s := by
  obtain ⟨ob, h1, h2, h3⟩ := id hs
  unfold Builtin.Slice.sliceApplied Builtin.Slice.sliceFields
  refine wpAny_bind (wpAny_bind (wpAny_field h1 h3 (x := v1) rfl (wpAny_bind (wpAny_field h1 h3 (x := v2) rfl (wpAny_bind (wpAny_field h1 h3 (x := v3) rfl (wpAny_pure ?_)))))))
  refine wpAny_bind (HT.slicePart_ p3 ?_)
  show wpAny _ _ (if ((-1 : Int) == 0) = true then _ else _) _ _ s
  rw [if_neg (by decide)]
  refine wpAny_bind (HT.slicePart_ p1 (wpAny_bind (HT.slicePart_ p2 (wpAny_bind (wpAny_pure ?_)))))
  show wpAny _ _ (match Builtin.Slice.sliceAdjust none none (-1) (n : Int) with | (lo, hi) => pure (lo, (-1 : Int), Builtin.Slice.slicePlaces lo hi (-1))) _ _ s
  rw [back_adjust n]
  show wpAny _ _ (pure ((n : Int) - 1, (-1 : Int), Builtin.Slice.slicePlaces ((n : Int) - 1) (-1) (-1))) _ _ s
  rw [back_places]
  exact wpAny_pure h
theorem back_item {t sl : Addr} {items : Array Value} {v1 v2 v3 : Value} {Q : Value → Shared → Prop} (ht : IsTup s.heap t items) (hs : s.heap.IsSliceOf sl v1 v2 v3) (p1 : IsPart v1 none) (p2 : IsPart v2 none) (p3 : IsPart v3 (some (-1)))
    (h : Q (.ref s.heap.objs.size) { s with heap := s.heap.push { cls := .type "tuple", data := .seq items.toList.reverse.toArray } })
    (hz : items.size ≤ sizeLine) : wpAny (model prog w) A (getItem (.ref t) (.ref sl)) Q E s := by
  have hk : sizeOk (.seq items.toList.reverse.toArray) := by
    show items.toList.reverse.toArray.size ≤ sizeLine
    rw [List.size_toArray, List.length_reverse, Array.length_toList]
    exact hz
  obtain ⟨ob, h1, h2, h3⟩ := id hs
  have hT : s.TypeIs (.ref sl) "slice" := ⟨ob, h1, h2⟩
  unfold getItem
  try with_reducible refine wpAny_holding ?_
  first | refine wpAny_bind (wpAny_pure ?_) | skip
  refine wpAny_bind (wpAny_sequenceKey ht.typeIs (by decide) ?_)
  refine wpAny_bind (wpAny_callSpecial?_slot (name := Str.ofString "__getitem__") ht.typeIs slot_tuple_getitem (wpAny_call_entry slot_tuple_getitem ht.typeIs entry_tuple_getitem ?_ (args_tuple_getitem _ _)))
  show wpAny _ _ (Builtin.Tuple.tupleItemsOf (.ref t) >>= _) _ _ s
  refine wpAny_bind (tupleItemsOf_ ht ?_)
  refine wpAny_bind (wpAny_typeOf hT ?_)
  rw [if_pos (by decide)]
  refine wpAny_bind (back_applied hs p1 p2 p3 ?_)
  have no : ¬ ((((items.size : Int) - 1) == 0 && (-1 : Int) == 1 && items.size == items.size) = true) := by
    intro q
    rw [Bool.and_eq_true, Bool.and_eq_true] at q
    exact absurd q.1.2 (by decide)
  show wpAny _ _ (if (((items.size : Int) - 1) == 0 && (-1 : Int) == 1 && items.size == items.size) = true then _ else _) _ _ s
  rw [if_neg no, back_pick]
  first
    | exact wpAny_bind (m := Builtin.Tuple.tupleExact _) (wpAny_newObj_type (wpAny_pure ⟨_, rfl, wpAny_pure h⟩) hk)
    | exact wpAny_bind (m := Builtin.Tuple.tupleExact _) (wpAny_newObj_type (wpAny_bind (wpAny_pure (wpAny_pure ⟨_, rfl, wpAny_pure h⟩))) hk)
    | exact wpAny_bind (wpAny_bind (m := Builtin.Tuple.tupleExact _) (wpAny_newObj_type (wpAny_pure (wpAny_pure ⟨_, rfl, wpAny_pure h⟩)) hk))
    | exact wpAny_bind (wpAny_bind (m := Builtin.Tuple.tupleExact _) (wpAny_newObj_type (wpAny_pure ⟨_, rfl, wpAny_pure h⟩) hk))
end
def tRevA (K : PySem.W.Frag) (te : TE) : TE := fun σ H Q => te σ H fun x H1 => ∃ a xs, x = .ref a ∧ ((SqL K H1 a xs ∧ ∀ p, H1 p = none → Q (.ref p) (upd H1 p (.lst xs.reverse))) ∨ (SqT K H1 a xs ∧ ∀ p, H1 p = none → Q (.ref p) (upd H1 p (.tup xs.reverse))))
section
variable {X : Cx}
theorem pe_revA {e : Expr} {te : TE} {k : Nat} {p1 p2 p3 pos : Pos} (he : PE X e te) : PE X (.Subscript e (.Slice none none (some (.UnaryOp .USub (.Constant (.int 1) k p1) p2)) p3) pos) (tRevA X.K te) := by
  refine ⟨fun pins s σ H Q I h => ?_⟩
  refine Subscript_ (thn (he.run pins s σ H _ I h) fun v s1 ⟨x, H1, I1, r1, q1⟩ => ?_)
  obtain ⟨a, xs, ex, hx⟩ := q1
  subst ex
  cases r1
  have part : PO X (some (.UnaryOp .USub (.Constant (.int 1) k p1) p2)) (tPart (tUn (rU fun i => .int (-i)) (tC (.int 1)))) := po_some (pe_un un_neg pe_int)
  refine wpAny_Slice (thn (po_none.run pins s1 σ H1 (fun o H2 => o = none ∧ H2 = H1) I1 ⟨rfl, rfl⟩) fun vl s2 ⟨l, H2, I2, pl, el, e2⟩ => ?_)
  subst el e2
  refine thn (po_none.run pins s2 σ H2 (fun o H3 => o = none ∧ H3 = H2) I2 ⟨rfl, rfl⟩) fun vu s3 ⟨u, H3, I3, pu, eu, e3⟩ => ?_
  subst eu e3
  refine thn (part.run pins s3 σ H3 (fun o H4 => o = some (-1) ∧ H4 = H3) I3 ⟨1, rfl, -1, rfl, rfl, rfl⟩) fun vs s4 ⟨o, H4, I4, ps, eo, e4⟩ => ?_
  subst eo e4
  have I5 : Inv X pins σ H4 { s4 with heap := s4.heap.push { cls := .type "slice", data := .fields #[vl, vu, vs] } } := I4.kept (t' := s4.toks) fun b ob q => Heap.get?_push_of_some _ q
  show wpAny (model X.prog X.w) X.A (subscriptTail e (.Slice none none (some (.UnaryOp .USub (.Constant (.int 1) k p1) p2)) p3) (.ref a) (.ref s4.heap.objs.size)) (EP X pins σ Q) X.xe { s4 with heap := s4.heap.push { cls := .type "slice", data := .fields #[vl, vu, vs] } }
  rcases hx with ⟨hx, q⟩ | ⟨hx, q⟩
  · obtain ⟨its, r, ht, hz⟩ := I5.list hx
    have hlen := r.length
    refine tail_any (ops := [.ref a, .ref s4.heap.objs.size]) ht.isList.typeIs (PySem.slot_list_getitem.lookup) ?_ (by with_unfolding_all rfl)
    refine wpAny_getItem_list_slice ht.isList (Heap.IsSliceOf.new _ vl vu vs) pl pu ps (by decide) ?_ (by rw [List.size_toArray]; omega)
    rw [PySem.W.krv_pick]
    refine ⟨.ref _, _, I5.laid (t' := s4.toks) (o := .lst xs.reverse) (fun b ob q => Heap.get?_push_of_some _ q) (Nat.le_refl _) ?_, rfl, q _ (I5.hok.fresh (Nat.le_refl _))⟩
    exact ⟨by rw [List.length_reverse]; exact hz, _, 0, r.reverse, Heap.get?_push_size _ rfl⟩
  · obtain ⟨its, r, ht, hz⟩ := I5.tuple hx
    have hlen := r.length
    refine tail_any (ops := [.ref a, .ref s4.heap.objs.size]) ht.typeIs (slot_tuple_getitem.lookup) ?_ (by with_unfolding_all rfl)
    refine back_item ht (Heap.IsSliceOf.new _ vl vu vs) pl pu ps ?_ (by rw [List.size_toArray]; omega)
    refine ⟨.ref _, _, I5.laid (t' := s4.toks) (o := .tup xs.reverse) (fun b ob q => Heap.get?_push_of_some _ q) (Nat.le_refl _) ?_, rfl, q _ (I5.hok.fresh (Nat.le_refl _))⟩
    exact ⟨by rw [List.length_reverse]; exact hz, _, r.reverse, IsTup.new _ _⟩
def wRev (w : WE) : WE := fun env Q => w env fun r e => onS (opd e r) fun d => match d with
  | .list ds => Q (.new (.list ds.reverse)) e
  | .tuple ds => Q (.val (.tuple ds.reverse)) e
  | _ => False
theorem tV_rev {K : PySem.W.Frag} {w : WE} {σ : L2.St} {H : Hp} {Q : VK} (h : tV (wRev w) σ H Q) : tRevA K (tV w) σ H Q := by
  obtain ⟨F, Z, env, Q0, c, h, k⟩ := h
  refine ⟨F, Z, env, _, c, h, fun r1 e1 q1 Z1 x H1 x1 c1 rr1 => ?_⟩
  obtain ⟨Z1', x1', c1', hd1⟩ := rr1.hold c1
  obtain ⟨d1, o1, q1⟩ := onS_some q1
  have p1 := hd1.opd c1' (by rw [opd_hold]; exact o1)
  split at q1
  · obtain ⟨a, vs, rfl, ha, l⟩ := rd_list p1
    refine ⟨a, vs, rfl, .inl ⟨SqL.of ha, fun p hp => ?_⟩⟩
    obtain ⟨Z3, x3, c3, rr3⟩ := (Made.lst hp l.reverse).cf c1'
    exact k _ _ q1 Z3 _ _ ((x1.trans x1').trans x3) c3 rr3
  · obtain ⟨a, vs, rfl, _, ha, l⟩ := rd_tuple p1
    refine ⟨a, vs, rfl, .inr ⟨SqT.of ha, fun p hp => ?_⟩⟩
    obtain ⟨Z3, x3, c3, rr3⟩ := (Made.tup hp l.reverse).cf c1'
    exact k _ _ q1 Z3 _ _ ((x1.trans x1').trans x3) c3 rr3
  · exact q1.elim
theorem v_revA {e : Expr} {w : WE} {k : Nat} {p1 p2 p3 pos : Pos} (h : PE X e (tV w)) : PE X (.Subscript e (.Slice none none (some (.UnaryOp .USub (.Constant (.int 1) k p1) p2)) p3) pos) (tV (wRev w)) := (pe_revA h).imp fun _ _ _ => tV_rev
end
end VL

namespace VL
open PySem PySem.Spec PyProof.Rows L2
section
variable {X : Cx} {e a b c o : Expr} {es : List Expr} {w wa wb wc : WE} {ws : WEs} {pos p p2 apos : Pos} {x y : Str}
/-! ### isinstance -/
theorem pe_tyN {T : String} (hg : Gl X x) (hm : X.mg x = none) (hv : bootBuiltins x = some (.type T)) (hn : x ≠ "__name__" := by decide) (hdb : (x == ("__debug__" : Str)) = false := by decide) : PE X (.Name x pos) (tC (.ty T)) :=
  ⟨fun pins s σ H Q I h => ld_blt I hg hm hv ⟨.ty T, H, I, rfl, h⟩ hn hdb⟩
theorem boot_ty (t : Ty) : bootBuiltins t.nm = some (.type t.nm) := by
  cases t <;> decide +kernel
theorem v_isa (t : Ty) (hi : X.mg "isinstance" = none) (ht : X.mg (Str.ofString t.nm) = none) (he : PE X e (tV w)) (hg : Gl X "isinstance" := by rfl) (hgt : Gl X (Str.ofString t.nm) := by rfl) (hn : (Str.ofString t.nm) ≠ "__name__" := by decide) (hdb : ((Str.ofString t.nm) == ("__debug__" : Str)) = false := by decide)
    (hs : starEach [e, .Name (Str.ofString t.nm) p2] X.env = (false, eval e X.env) :: starEach [.Name (Str.ofString t.nm) p2] X.env := by rfl) (hs2 : starEach [.Name (Str.ofString t.nm) p2] X.env = (false, eval (.Name (Str.ofString t.nm) p2) X.env) :: starEach [] X.env := by rfl)
    (hpl : (backTo pos (starEach [.Name (Str.ofString t.nm) p2] X.env)).any (·.1) = false := by rfl) :
    PE X (.Call (.Name "isinstance" p) [e, .Name (Str.ofString t.nm) p2] [] pos) (tV (wOp1 (fIsa t) w)) :=
  (pe_callB (cr_isa (t := t)) hg hi PyProof.Rows.boot_isinstance (pa_cons he (pa_cons (pe_tyN hgt ht (boot_ty t) hn hdb) pa_nil hs2) hs) (by decide) (by decide) hs hpl).imp fun _ _ _ => tV_isa
/-! ### len(dict(ps)), the keys ints -/
def keysOf : List D → Option (List Int)
  | [] => some []
  | .tuple [.int k, _] :: r => match keysOf r with
    | some ks => some (k :: ks)
    | none => none
  | _ => none
def addK (ks : List Int) (k : Int) : List Int := if k ∈ ks then ks else ks ++ [k]
def dlen (ks : List Int) : Nat := (ks.foldl addK []).length
theorem keys_paired {Z : ZS} {H : Hp} {K : PySem.W.Frag} : ∀ {vs : List V} {ds : List D} {ks : List Int}, RpL Z H vs ds → keysOf ds = some ks → ∃ (ps : List Addr) (kvs : List (Key × V)), vs = ps.map V.ref ∧ Paired (fun p kv => SqT K H p [kV kv.1, kv.2]) ps kvs ∧ kvs.map (·.1) = ks.map Sum.inl
  | _, [], ks, .nil, e => by
    cases e
    exact ⟨[], [], rfl, .nil, rfl⟩
  | _, d :: ds, ks, .cons (v := v) r l, e => by
    unfold keysOf at e
    split at e
    · cases ‹_ :: _ = []›
    · rename_i k d' r' eq
      cases eq
      split at e
      · rename_i ks' e2
        cases e
        obtain ⟨ps, kvs, h1, h2, h3⟩ := keys_paired l e2
        cases r with
        | tup z ha l2 =>
          rename_i ad ws
          cases l2 with
          | cons q1 l3 => cases l3 with
            | cons q2 l4 =>
              cases l4
              cases q1
              rename_i v2
              exact ⟨ad :: ps, (.inl k, v2) :: kvs, by rw [h1]; rfl, .cons (SqT.of ha) h2, by rw [List.map_cons, h3]; rfl⟩
      · cases e
    · cases e
theorem putK_in {kvs : List (Key × V)} {k : Key} {v : V} (h : k ∈ kvs.map (·.1)) : (putK kvs k v).map (·.1) = kvs.map (·.1) := by
  unfold putK
  obtain ⟨q, hq, e⟩ := List.mem_map.mp h
  rw [if_pos (List.any_eq_true.mpr ⟨q, hq, decide_eq_true e⟩), List.map_map]
  refine List.map_congr_left fun p _ => ?_
  show (if p.1 = k then (p.1, v) else p).1 = p.1
  split <;> rfl
theorem putK_out {kvs : List (Key × V)} {k : Key} {v : V} (h : ¬ k ∈ kvs.map (·.1)) : (putK kvs k v).map (·.1) = kvs.map (·.1) ++ [k] := by
  unfold putK
  rw [if_neg, List.map_append]; rfl
  intro ha
  obtain ⟨q, hq, e⟩ := List.any_eq_true.mp ha
  exact h (List.mem_map.mpr ⟨q, hq, of_decide_eq_true e⟩)
theorem mergeK_keys : ∀ (more kvs : List (Key × V)) (ks js : List Int), more.map (·.1) = ks.map Sum.inl → kvs.map (·.1) = js.map Sum.inl → (mergeK kvs more).map (·.1) = (ks.foldl addK js).map Sum.inl
  | [], kvs, ks, js, h, h2 => by
    cases ks with
    | nil => exact h2
    | cons _ _ => simp at h
  | m :: more, kvs, ks, js, h, h2 => by
    cases ks with
    | nil => simp at h
    | cons k ks =>
      rw [List.map_cons, List.map_cons, List.cons.injEq] at h
      refine mergeK_keys more (putK kvs m.1 m.2) ks (addK js k) h.2 ?_
      unfold addK
      by_cases hk : k ∈ js
      · rw [if_pos hk, putK_in (by rw [h2, h.1]; exact List.mem_map_of_mem hk), h2]
      · rw [if_neg hk, putK_out, h2, h.1, List.map_append]; rfl
        rw [h2, h.1]
        intro hm
        obtain ⟨j, hj, e⟩ := List.mem_map.mp hm
        cases e
        exact hk hj
theorem mergeK_len {kvs : List (Key × V)} {ks : List Int} (h : kvs.map (·.1) = ks.map Sum.inl) : (mergeK [] kvs).length = dlen ks := by
  have := congrArg List.length (mergeK_keys kvs [] ks [] h rfl)
  rw [List.length_map, List.length_map] at this
  exact this
def wLenDict (w : WE) : WE := fun env Q => w env fun r e => onS (opd e r) fun d => match d with
  | .list ds => onS (keysOf ds) fun ks => Q (.val (.int (dlen ks))) e
  | _ => False
theorem v_lenDict {pl : Pos} (mlen : X.mg "len" = none) (mdict : X.mg "dict" = none) (m : Rm X) (he : PE X e (tV w)) (hg : Gl X "len" := by rfl) (hg2 : Gl X "dict" := by rfl)
    (hs : starEach [e] X.env = (false, eval e X.env) :: starEach [] X.env := by rfl) (hpl : (backTo p2 (starEach [] X.env)).any (·.1) = false := by rfl)
    (hs2 : starEach [.Call (.Name "dict" p) [e] [] p2] X.env = (false, eval (.Call (.Name "dict" p) [e] [] p2) X.env) :: starEach [] X.env := by rfl) (hpl2 : (backTo pos (starEach [] X.env)).any (·.1) = false := by rfl) :
    PE X (.Call (.Name "len" pl) [.Call (.Name "dict" p) [e] [] p2] [] pos) (tV (wLenDict w)) := by
  refine (pe_callB call_lenD hg mlen PySem.boot_len (pa_cons (pe_callTy (call_dictP m.calm) hg2 mdict PyProof.Rows.boot_dict (pa_cons he pa_nil hs) (by decide) (by decide) hs hpl) pa_nil hs2) (by decide) (by decide) hs2 hpl2).imp fun σ H Q h => ?_
  obtain ⟨F, Z, env, Q0, c, h, k⟩ := h
  refine ⟨F, Z, env, _, c, h, fun r1 e1 q1 Z1 v H1 x1 c1 rr1 => ?_⟩
  obtain ⟨Z1', x1', c1', hd1⟩ := rr1.hold c1
  obtain ⟨d1, o1, q1⟩ := onS_some q1
  have p1 := hd1.opd c1' (by rw [opd_hold]; exact o1)
  split at q1
  · obtain ⟨ks, ek, q1⟩ := onS_some q1
    obtain ⟨a, vs, rfl, ha, l⟩ := rd_list p1
    obtain ⟨ps, kvs, rfl, hp, hk⟩ := keys_paired (K := X.K) l ek
    refine ⟨a, ps, kvs, rfl, SqL.of ha, hp, fun q hq => ?_⟩
    obtain ⟨c2, x2⟩ := c1'.lay (o := .dK (mergeK [] kvs)) hq
    refine ⟨q, _, rfl, upd_same, ?_⟩
    rw [mergeK_len hk]
    exact k _ _ q1 Z1' _ _ ((x1.trans x1').trans x2) c2 (.int _)
  · exact q1.elim
/-! ### x[i] = v, x an owned list -/
theorem s_setIx (i : Nat) {px pos2 : Pos} (he : PE X e (tV wa)) (hi : PE X b (tV wb)) (hN : X.N[i]? = some x := by rfl) (hv : Vis X.env.scope x := by first | exact Or.inl rfl | exact Or.inr (Or.inl rfl) | exact Or.inr (Or.inr rfl)) (hd : (x == ("__debug__" : Str)) = false := by decide)
    (hcd : (x == ("__classdict__" : Str)) = false := by decide)
    (ha : ∀ v, assign (.Subscript (.Name x px) b pos2) X.env v = (do
      let ov ← holding [v] (eval (.Name x px) X.env)
      let iv ← holding [v, ov] (eval b X.env)
      standAt pos2
      holding [v, ov, iv] (setItem ov iv v)
      release [v, ov, iv] []) := by intro _; rfl)
    (hs : swapsWithSole [.Subscript (.Name x px) b pos2] e pos.line X.env = pure false := by rfl) (hw : swappedStores [.Subscript (.Name x px) b pos2] e X.env = pure none := by rfl)
    (h1 : (assignEach [.Subscript (.Name x px) b pos2] X.env).map (·.2) = [assign (.Subscript (.Name x px) b pos2) X.env] := by rfl) :
    PS X (.Assign [.Subscript (.Name x px) b pos2] e pos) (tS (wSetIx i wb wa)) :=
  (ps_asg he (pg_sub (pe_var hN hv hd hcd) hi set_list ha) hs hw h1).imp fun _ _ _ => tS_setIx
end
end VL

namespace VL
open PySem PySem.Spec PyProof.Rows L2
/-! ### sorted(t, key=f), t a tuple too -/
section
variable {prog : Program} {w : World} {A : Around} {E : Value → Shared → Prop} {s : Shared}
theorem gather_tup {l : Addr} {vs : List Value} {Q : List Value → Shared → Prop} (hl : IsTup s.heap l vs.toArray) (hz : vs.length ≤ sizeLine)
    (h : Q vs { s with heap := (s.heap.push (seqObj "list" #[] 0)).update s.heap.objs.size (Obj.mapSeq (· ++ vs.toArray)) }) : wpAny (model prog w) A (collect (.ref l)) Q E s := by
  obtain ⟨ob, h1, h2, n, h3⟩ := id hl
  unfold collect
  refine wpAny_bind (wpAny_runValue (codeAny_builtin entry_proto_collect' ?_))
  show wpAny _ _ (do again (.builtin "list.__iadd__" ⟨[← newList [], .ref l], []⟩)) _ _ s
  refine wpAny_bind (wpAny_newList (wpAny_pure ⟨Code.quiet_builtin _ (by decide +kernel), codeAny_builtin entry_list_iadd' ?_⟩))
  show wpAny _ _ (Builtin.List.listExtendWith (.ref s.heap.objs.size) (.ref l) (.ref s.heap.objs.size)) _ _ { s with heap := s.heap.push (seqObj "list" #[] 0) }
  unfold Builtin.List.listExtendWith
  have h1' : (s.heap.push (seqObj "list" #[] 0)).get? l = some ob := Heap.get?_push_of_some _ h1
  refine wpAny_bind (wpAny_typeOf (T := "tuple") ⟨ob, h1', h2⟩ ?_)
  have ht : (Value.type "tuple" == Value.type "tuple") = true := by rfl
  rw [if_pos (by rw [ht]; simp)]
  refine wpAny_bind (listItems_at h1' h3 ?_)
  refine wpAny_bind (listItems_at (xs := #[]) (n := 0) (Heap.get?_push_size _ rfl) rfl ?_)
  rw [if_neg (by simp)]
  refine wpAny_bind (listUpdate_at (xs := #[]) (n := 0) (Heap.get?_push_size _ rfl) rfl ?_ (Nat.zero_le _) (by show (#[] ++ vs.toArray).size ≤ sizeLine + 1; simp only [Array.size_append, List.size_toArray, List.length_nil]; omega))
  refine wpAny_pure ?_
  show wpAny (model prog w) A (do
      let o ← load s.heap.objs.size
      match o.data with
      | .seq xs _ => pure xs.toList
      | _ => unsupported "internal:collect") Q E { s with heap := (s.heap.push (seqObj "list" #[] 0)).update s.heap.objs.size (Obj.mapSeq (· ++ vs.toArray)) }
  refine wpAny_bind (wpAny_load (get?_update_seq (Heap.get?_push_size _ rfl) _) ?_)
  show wpAny _ _ (pure ((#[] : Array Value) ++ vs.toArray).toList) Q E _
  rw [show ((#[] : Array Value) ++ vs.toArray).toList = vs by simp]
  exact wpAny_pure h
open PySem.W in
theorem sorted_of_tup {l : Addr} {vs : List Value} {kw : List (Str × Value)} {Q : Value → Shared → Prop} (hl : IsTup s.heap l vs.toArray) (hL : vs.length ≤ sizeLine) (a1 : argsOk "sorted" ⟨[.ref l], kw⟩) (a2 : ∀ x, argsOk "list.sort" ⟨[.ref x], kw⟩)
    (body : ∀ E' : Value → Shared → Prop, wpAny (model prog w) A.in1.in1 (Builtin.«list.sort» ⟨[.ref (s.heap.objs.size + 1)], kw⟩) (fun f s' => f = .done (.ret .none) ∧ Q (.ref (s.heap.objs.size + 1)) s') E' { s with heap := copyHeap s.heap vs }) :
    wpAny (model prog w) A (call (.builtin "sorted") [.ref l] kw) Q E s := by
  refine call_function_entry_kw kind_sorted plain_sorted entry_sorted a1 ?_
  unfold Builtin.«sorted»
  refine wpAny_bind (m := checkCount "sorted" 1 1 _) (wpAny_pure ?_)
  refine wpAny_bind (gather_tup hl hL ?_)
  refine wpAny_bind (wpAny_newList ?_ hL)
  have hsz : ((s.heap.push (seqObj "list" #[] 0)).update s.heap.objs.size (Obj.mapSeq (· ++ vs.toArray))).objs.size = s.heap.objs.size + 1 := by
    rw [Heap.size_update, size_push']
  show wpAny _ _ _ _ _ { s with heap := copyHeap s.heap vs }
  rw [hsz]
  refine wpAny_bind (wpAny_holding (wpAny_call_entry_kw slot_list_sort ⟨_, copyHeap_at s.heap vs, rfl⟩ entry_list_sort ?body (a2 _)))
  case body =>
    show wpAny (model prog w) A.in1.in1 (Builtin.«list.sort» ⟨[.ref (s.heap.objs.size + 1)], kw⟩) _ _ _
    refine wpAny_mono (body _) (fun f s' hf => ?_) fun _ _ e => e
    obtain ⟨rfl, hq⟩ := hf
    exact ⟨_, rfl, wpAny_pure ⟨_, rfl, hq⟩⟩
open PySem.W in
theorem sorted_key_tup {β : Type} {R : Value → β → Prop} {l : Addr} {vs : List Value} {bs : List β} {f : Value} {kw : List (Str × Value)} {b : Bool} {Q : Value → Shared → Prop} (k : β → PyData) (hl : IsTup s.heap l vs.toArray) (e : EachIs R vs bs) (al : AllAlike (bs.map k)) (so : Sortable (bs.map k)) (hL : bs.length ≤ sizeLine)
    (hu : ∀ x, x ∈ bs → A.units + 2 + (k x).depth < cLine) (a1 : argsOk "sorted" ⟨[.ref l], kw⟩) (a2 : ∀ x, argsOk "list.sort" ⟨[.ref x], kw⟩) (ht : ∀ x, Builtin.«list.sort» ⟨[.ref x], kw⟩ = ksk_tree x f b)
    (turn : ∀ (v : Value) (x : β), R v x → x ∈ bs → ∀ (h : Heap) (tk : Nat), (∀ b o, s.heap.get? b = some o → h.get? b = some o) → wpAny (model prog w) A.in1.in1 (call f [v]) (KeyPure (k x) { s with heap := h, toks := tk }) (fun _ _ => False) { s with heap := h, toks := tk })
    (h : ∀ out c h' tk, (∀ b o, s.heap.get? b = some o → h'.get? b = some o) → s.heap.get? (s.heap.objs.size + 1) = none → h'.get? (s.heap.objs.size + 1) = some (seqObj "list" (List.toArray out) c) → out.length = bs.length → EachIs R out (bs.mergeSort (dataLe b k)) → Q (.ref (s.heap.objs.size + 1)) { s with heap := h', toks := tk }) :
    wpAny (model prog w) A (call (.builtin "sorted") [.ref l] kw) Q E s := by
  have new : s.heap.get? (s.heap.objs.size + 1) = none := Heap.get?_none_of_le (Nat.le_succ _)
  have up : ∀ {g : Heap}, KeepsBut (s.heap.objs.size + 1) (copyHeap s.heap vs) g → ∀ b o, s.heap.get? b = some o → g.get? b = some o := fun {g} kp b o q => kp b o (Nat.ne_of_lt (Nat.lt_succ_of_lt (Heap.lt_size q))) (copyHeap_old q)
  refine sorted_of_tup hl (by rw [e.length]; exact hL) a1 a2 fun E' => ?_
  rw [ht]
  refine keyH_tree (kz := bs.map k) (s := { s with heap := copyHeap s.heap vs }) (copyHeap_at s.heap vs) (by rw [List.length_map]; exact e.length.symm) (by rw [e.length]; exact hL) al so (bound_map (A := A.in1.in1) hu)
    (keyH_turns (s := { s with heap := copyHeap s.heap vs }) e fun v x hR hx h tk kp => turn v x hR hx h tk (up kp)) fun h' tk out c kp hD ko => ⟨rfl, ?_⟩
  exact h out c h' tk (up kp) new hD ((ko.length (by rw [List.length_map]; exact e.length.symm)).trans e.length) (keyedOut_each k ko e)
end
/-! ### a def that gives its argument's item 1 -/
section
variable {P : Program} {w : World} {K : PySem.W.Frag} {A : Around} {s : Shared}
theorem at1_turn {x y : Str} {st : Stmt} {f : Addr} {fd : FuncData} {p1 p2 p3 p4 : Pos} {k1 : Nat} (F : Fun K x x st f fd) (hb : defBody st = [.Return (some (.Subscript (.Name y p1) (.Constant (.int 1) k1 p2) p3)) p4]) (S : FnScope [y] [y] (defScope st)) (hy : (defScope st).names.lookup y = some .local)
    (hd : (y == ("__debug__" : Str)) = false) (b : Binds K fd [y] []) (kin : K.In s.heap) (lim : s.heap.NoLimit) (room : A.depth < recursionLimit) {v : Value} {a c : Int} {as : List Addr} (r : Reads s.heap v (.tuple [.int a, .int c]) as) :
    wpAny (model P w) A (call (.ref f) [v]) (PySem.W.KeyPure (.int c) s) (fun _ _ => False) s := by
  obtain ⟨oc, od, kV, doc, pm, an, cdv, ct, osl, rfl, lk, hcd⟩ := F.ex
  have kinds : ∀ q ∈ [y].zip [v], (defScope st).names.lookup q.1 = some .local ∨ ((defScope st).names.lookup q.1 = some .cell ∧ ((cellsFrom (s.heap.objs.size + 1) (defScope st).names []).lookup q.1).isSome = true) := fun q hq => by
    rw [List.mem_singleton.mp (show q ∈ [(y, v)] from hq)]
    exact .inl hy
  refine wpAny_call (codeAny_call_function room (kin _ _ lk) rfl S.co S.gen rfl (PySem.W.codeRec_of kin hcd) (b s [v] kin rfl _ _ _ _ ?_))
  refine wpAny_newFunctionEnv_cells S.kind kinds fun env he s1 q => ?_
  subst he
  refine ⟨lim.keeps q.toInCall.keep, codeAny_func ?_⟩
  obtain ⟨h1, tk, rfl, keep⟩ := q.done
  have r1 := PyProof.Rows.Reads.keeps keep r
  rw [hb]
  refine wpAny_execs_cons (wpAny_Return_some (Subscript_ ?_))
  refine wpAny_Name (wpAny_loadName_local S.kind hy q.toInCall.ns (v := v) ?_ ?_) hd
  · have := bindL_get (kindOf := (envOfC x (defScope st) s.heap.objs.size f cdv).kindOf) (P := [y]) (vs := [v]) (i := 0) (List.nodup_cons.mpr ⟨by simp, List.nodup_nil⟩) rfl rfl hy (m := fun _ => none)
    exact this
  · refine wpAny_Constant_int ?_
    cases r1 with
    | tuple g1 g2 g3 g4 =>
      rename_i ad ob vs n
      obtain ⟨vl⟩ := vs
      have g4 : ReadsAll h1 vl [.int a, .int c] as := g4
      cases g4 with
      | cons ra rb => cases rb with
        | cons rc rd =>
          cases rd
          cases ra
          cases rc
          rename_i t1 t2
          refine item_tupleL (l := [Value.int a t1, Value.int c t2]) (j := 1) ⟨ob, g1, g2, n, g3⟩ (by decide) (by decide) rfl rfl ?_
          exact ⟨_, _, rfl, keep, .int c t2⟩
end
/-- a def of the module whose call keeps the heap and gives item 1 of a pair of ints -/
structure Key1 (P : Program) (w : World) (K : PySem.W.Frag) (mg : Str → Option Value) (x : Str) : Prop where
  ex : ∃ f : Addr, mg x = some (.ref f) ∧ ∀ (A : Around) (s : Shared) (v : Value) (a c : Int) (as : List Addr), K.In s.heap → s.heap.NoLimit → A.depth < recursionLimit → Reads s.heap v (.tuple [.int a, .int c]) as →
    wpAny (model P w) A (call (.ref f) [v]) (PySem.W.KeyPure (.int c) s) (fun _ _ => False) s
def item1 : D → D
  | .tuple [_, c] => c
  | _ => .none
def isP2 : D → Bool
  | .tuple [.int _, .int _] => true
  | _ => false
theorem isP2_of {d : D} (h : isP2 d = true) : ∃ a c, d = .tuple [.int a, .int c] := by
  unfold isP2 at h
  split at h
  · exact ⟨_, _, rfl⟩
  · cases h
def sortK (ds : List D) : List D := ds.mergeSort (PySem.W.dataLe false item1)
theorem each_and {α β : Type} {R S : α → β → Prop} : ∀ {xs : List α} {ys : List β}, PySem.W.EachIs R xs ys → PySem.W.EachIs S xs ys → PySem.W.EachIs (fun x y => R x y ∧ S x y) xs ys
  | _, _, .nil, .nil => .nil
  | _, _, .cons r l, .cons q t => .cons ⟨r, q⟩ (each_and l t)
def rSortK (K : PySem.W.Frag) (f : Addr) : List V → List V → Hp → VK → Prop := fun xs zs H Q => ∃ (Rel : V → D → Prop) (a : Addr) (vs : List V) (ds : List D), xs = [V.ref a] ∧ zs = [V.ref f] ∧ (SqL K H a vs ∨ SqT K H a vs) ∧ DpAll K H vs ds ∧ PySem.W.EachIs Rel vs ds ∧ ds.all isP2 = true ∧
  ∀ p ws, H p = none → PySem.W.EachIs Rel ws (sortK ds) → Q (.ref p) (upd H p (.lst ws))
section
variable {X : Cx}
theorem cr_sortK {f : Addr} (m : Rm X) (hd : X.A.depth < recursionLimit) (turn : ∀ (A : Around) (s : Shared) (v : Value) (a c : Int) (as : List Addr), X.K.In s.heap → s.heap.NoLimit → A.depth < recursionLimit → Reads s.heap v (.tuple [.int a, .int c]) as →
    wpAny (model X.prog X.w) A (call (.ref f) [v]) (PySem.W.KeyPure (.int c) s) (fun _ _ => False) s) : CallRK X (.builtin "sorted") [Str.ofString "key"] (rSortK X.K f) := by
  intro pins s σ H xs zs us ws Q I r rz h
  obtain ⟨Rel, a, vs, ds, rfl, rfl, hs, dp, ea, hp, q⟩ := h
  rw [Vals.ref1 r, Vals.ref1 rz]
  have un := m.un
  have hle : ds.length = vs.length := by
    have : ∀ {vs : List V} {ds : List D}, DpAll X.K H vs ds → ds.length = vs.length := by
      intro vs ds h
      induction ds generalizing vs with
      | nil => cases h; rfl
      | cons d r ih => cases h with
        | cons _ l => simp [ih l]
    exact this dp
  have p2 : ∀ d ∈ ds, ∃ a c, d = .tuple [.int a, .int c] := fun d hd => isP2_of (List.all_eq_true.mp hp d hd)
  have k2 : ∀ d ∈ ds, ∃ c : Int, item1 d = .int c := fun d hd => by
    obtain ⟨a, c, rfl⟩ := p2 d hd
    exact ⟨c, rfl⟩
  have al : PySem.W.AllAlike (ds.map item1) := fun x hx y hy => by
    obtain ⟨d, hd, rfl⟩ := List.mem_map.mp hx
    obtain ⟨d', hd', rfl⟩ := List.mem_map.mp hy
    obtain ⟨c, e⟩ := k2 d hd
    obtain ⟨c', e'⟩ := k2 d' hd'
    rw [e, e']; rfl
  have so : PySem.W.Sortable (ds.map item1) := .inr fun x hx => by
    obtain ⟨d, hd, rfl⟩ := List.mem_map.mp hx
    obtain ⟨c, e⟩ := k2 d hd
    rw [e]
    exact ⟨fun z => (by cases z), fun z z' => (by cases z')⟩
  have dep : ∀ x, x ∈ ds → X.A.units + 2 + (item1 x).depth < cLine := fun x hx => by
    obtain ⟨c, e⟩ := k2 x hx
    rw [e]
    show X.A.units + 2 + 0 < cLine
    omega
  -- from the items as they stand
  have main : ∀ its : List Value, Vals vs its → vs.length ≤ sizeLine → (s.heap.IsList a its.toArray ∨ IsTup s.heap a its.toArray) → wpAny (model X.prog X.w) X.A (call (.builtin "sorted") [.ref a] ([Str.ofString "key"].zip [Value.ref f])) (EP X pins σ Q) X.xe s := fun its rv hz hx => by
    obtain ⟨as, ra⟩ := Dp.readsAll I _ _ _ dp rv
    have ra' : ReadsAll s.heap its (ds.map id) as := by rw [List.map_id]; exact ra
    have each := each_and (each_vals rv ea) (PySem.W.readsAll_each id ra')
    have tn : ∀ (v : Value) (x : D), ((∃ u, RelV u v ∧ Rel u x) ∧ ∃ as, Reads s.heap v (id x) as) → x ∈ ds → ∀ (h : Heap) (tk : Nat), (∀ b o, s.heap.get? b = some o → h.get? b = some o) →
        wpAny (model X.prog X.w) X.A.in1.in1 (call (.ref f) [v]) (PySem.W.KeyPure (item1 x) { s with heap := h, toks := tk }) (fun _ _ => False) { s with heap := h, toks := tk } := fun v x ⟨_, as, rd⟩ hx h tk kp => by
      obtain ⟨a', c, rfl⟩ := p2 x hx
      exact turn X.A.in1.in1 { s with heap := h, toks := tk } v a' c as (I.kIn.keeps kp) (I.nolimit.keeps kp) hd (PyProof.Rows.Reads.keeps kp rd)
    have fin : ∀ (out : List Value) (c : Nat) (h' : Heap) (tk : Nat), (∀ b o, s.heap.get? b = some o → h'.get? b = some o) → s.heap.get? (s.heap.objs.size + 1) = none → h'.get? (s.heap.objs.size + 1) = some (seqObj "list" (List.toArray out) c) → out.length = ds.length →
        PySem.W.EachIs (fun v x => (∃ u, RelV u v ∧ Rel u x) ∧ ∃ as, Reads s.heap v (id x) as) out (ds.mergeSort (PySem.W.dataLe false item1)) → EP X pins σ Q (.ref (s.heap.objs.size + 1)) { s with heap := h', toks := tk } := fun out c h' tk kp _ hD hlo e => by
      obtain ⟨ws, v2, e2⟩ := each_split (e.mono fun _ _ h => h.1)
      have hlen : ws.length ≤ sizeLine := by rw [v2.length, hlo, hle]; exact hz
      exact ⟨.ref _, upd H (s.heap.objs.size + 1) (.lst ws), I.laid (t' := tk) kp (Nat.le_succ _) ⟨hlen, out, c, v2, hD⟩, rfl, q _ _ (I.hok.fresh (Nat.le_succ _)) e2⟩
    rcases hx with hx | hx
    · exact PySem.W.sorted_key_data (b := false) item1 hx each al so (by rw [hle]; exact hz) dep (PyProof.Rows.ksk_s1 _ _) (fun _ => PyProof.Rows.ksk_l1 _ _) (fun _ => PyProof.Rows.ksk_t1 _ _) tn fin
    · exact sorted_key_tup (b := false) item1 hx each al so (by rw [hle]; exact hz) dep (PyProof.Rows.ksk_s1 _ _) (fun _ => PyProof.Rows.ksk_l1 _ _) (fun _ => PyProof.Rows.ksk_t1 _ _) tn fin
  rcases hs with hs | hs
  · obtain ⟨its, rv, hl, hz⟩ := I.list hs
    exact main its rv hz (.inl hl.isList)
  · obtain ⟨its, rv, hl, hz⟩ := I.tuple hs
    exact main its rv hz (.inr hl)
def wSortK (w : WE) : WE := fun env Q => w env fun r e => onS (opd e r) fun d => match d with
  | .list ds => ds.all isP2 = true ∧ okD (.list ds) = true ∧ Q (.new (.list (sortK ds))) e
  | .tuple ds => ds.all isP2 = true ∧ okD (.list ds) = true ∧ Q (.new (.list (sortK ds))) e
  | _ => False
theorem v_sortK {k : Nat} {x : Str} {e : Expr} {w : WE} {p p2 pos kpos : Pos} (C : Key1 X.prog X.w X.K X.mg x) (m : Rm X) (hr : RoomG k X.A) (ms : X.mg "sorted" = none) (he : PE X e (tV w)) (hg : Gl X "sorted" := by rfl) (hgx : Gl X x := by rfl) (hdx : (x == ("__debug__" : Str)) = false := by decide)
    (hs : backTo pos (starEach [e] X.env) = (false, eval e X.env) :: backTo pos (starEach [] X.env) := by rfl) (hs0 : starEach [e] X.env = (false, eval e X.env) :: starEach [] X.env := by rfl) (hpl : (backTo pos (starEach [e] X.env)).any (·.1) = false := by rfl)
    (hall : (backToKw pos (keywordEach [⟨some (Str.ofString "key"), .Name x p2, kpos⟩] X.env)).all (·.1.isSome) = true := by rfl) (hnone : (backToKw pos (keywordEach [⟨some (Str.ofString "key"), .Name x p2, kpos⟩] X.env)).any (·.1.isNone) = false := by rfl) (hks : (backToKw pos (keywordEach [⟨some (Str.ofString "key"), .Name x p2, kpos⟩] X.env)).filterMap (·.1) = [Str.ofString "key"] := by rfl) :
    PE X (.Call (.Name "sorted" p) [e] [⟨some (Str.ofString "key"), .Name x p2, kpos⟩] pos) (tV (wSortK w)) := by
  obtain ⟨f, hf, turn⟩ := C.ex
  refine (pe_callBK (cr_sortK m hr.r.depth turn) hg ms PyProof.Rows.boot_sorted (pa_cons he pa_nil hs0) (pk_cons (pe_glob (v := V.ref f) hgx hf rfl hdx) pk_nil) (by decide) (by decide) hs hpl hall hnone hks).imp fun σ H Q h => ?_
  obtain ⟨F, Z, env, Q0, c, h, k⟩ := h
  refine ⟨F, Z, env, _, c, h, fun r1 e1 q1 Z1 v H1 x1 c1 rr1 => ?_⟩
  obtain ⟨Z1', x1', c1', hd1⟩ := rr1.hold c1
  obtain ⟨d1, o1, q1⟩ := onS_some q1
  have p1 := hd1.opd c1' (by rw [opd_hold]; exact o1)
  split at q1
  · obtain ⟨h1, h2, q1⟩ := q1
    obtain ⟨a, vs, rfl, ha, l⟩ := rd_list p1
    refine ⟨Rp Z1' H1, a, vs, _, rfl, rfl, .inl (SqL.of ha), l.dp (okD_list h2), rpl_each l, h1, fun q ws hq e => ?_⟩
    obtain ⟨Z3, x3, c3, rr3⟩ := (Made.lst hq (each_rpl e)).cf c1'
    exact k _ _ q1 Z3 _ _ ((x1.trans x1').trans x3) c3 rr3
  · obtain ⟨h1, h2, q1⟩ := q1
    obtain ⟨a, vs, rfl, _, ha, l⟩ := rd_tuple p1
    refine ⟨Rp Z1' H1, a, vs, _, rfl, rfl, .inr (SqT.of ha), l.dp (okD_list h2), rpl_each l, h1, fun q ws hq e => ?_⟩
    obtain ⟨Z3, x3, c3, rr3⟩ := (Made.lst hq (each_rpl e)).cf c1'
    exact k _ _ q1 Z3 _ _ ((x1.trans x1').trans x3) c3 rr3
  · exact q1.elim
end
end VL

namespace VL
open PySem PySem.Spec PyProof.Rows L2
section
variable {X : Cx} {e a b c o : Expr} {es : List Expr} {w wa wb wc : WE} {ws : WEs} {pos p p2 apos : Pos} {x y : Str}
/-! ### list(range(n)) -/
theorem vals_int : ∀ (n k : Nat) (l : List Value), l.length = n → (∀ j v, l[j]? = some v → ∃ t, v = Value.int ((k + j : Nat) : Int) t) → Vals ((List.range' k n).map fun i : Nat => V.int (i : Int)) l
  | 0, k, l, h, _ => by
    have : l = [] := List.eq_nil_of_length_eq_zero h
    subst this
    exact .nil
  | n + 1, k, [], h, _ => by cases h
  | n + 1, k, v :: r, h, hv => by
    rw [List.range'_succ, List.map_cons]
    refine .cons ?_ (vals_int n (k + 1) r (by simpa using h) fun j u hu => ?_)
    · obtain ⟨t, e⟩ := hv 0 v rfl
      exact ⟨t, e⟩
    · obtain ⟨t, e⟩ := hv (j + 1) u hu
      exact ⟨t, by rw [e, show k + (j + 1) = k + 1 + j by omega]⟩
theorem pe_listRange {ta : TA} {p1 q1 q2 : Pos} (m : Rm X) (hgl : Gl X "list") (hml : X.mg "list" = none) (hgr : Gl X "range") (hmr : X.mg "range" = none) (ha : PA X [a] ta)
    (hs : starEach [a] X.env = (false, eval a X.env) :: starEach [] X.env) (hs2 : starEach [.Call (.Name "range" p2) [a] [] q2] X.env = (false, eval (.Call (.Name "range" p2) [a] [] q2) X.env) :: starEach [] X.env) :
    PE X (.Call (.Name "list" p1) [.Call (.Name "range" p2) [a] [] q2] [] q1) (fun σ H Q => ta σ H fun vs H1 => ∃ j : Int, vs = [.int j] ∧ 0 ≤ j ∧ j ≤ 1000000 ∧ ∀ l, H1 l = none → Q (.ref l) (upd H1 l (.lst ((List.range' 0 j.toNat).map fun i : Nat => V.int (i : Int))))) := by
  refine ⟨fun pins s σ H Q I h => ?_⟩
  refine Call_ (ld_blt I hgl hml PyProof.Rows.boot_list (PyProof.Rows.callWith_type1 ?_ hs2 rfl))
  rw [hs2]
  show wpAny _ _ (spliced ((false, eval (.Call (.Name "range" p2) [a] [] q2) X.env) :: backTo q1 (starEach [] X.env))) _ _ s
  refine Calls.spliced_cons ?_
  refine Call_ (ld_blt I hgr hmr boot_range (PyProof.Rows.callWith_type1 (thn (ha.run q2 pins s σ H _ I h) fun us s1 ⟨vs, H1, I1, r1, q1⟩ => ?_) hs rfl))
  obtain ⟨j, e, j0, j1, q⟩ := q1
  subst e
  cases r1 with
  | cons r rr =>
    cases rr
    obtain ⟨t, rfl⟩ := r
    refine call_range_1 ?_
    refine Calls.spliced_nil ?_
    obtain ⟨s2, es2⟩ : ∃ s2 : Shared, s2 = { s1 with heap := s1.heap.push { cls := .type "range", data := .fields #[.int 0 s1.toks, .int j t, .int 1 (s1.toks + 1)] }, toks := s1.toks + 1 + 1 } := ⟨_, rfl⟩
    have I2 : Inv X pins σ H1 s2 := by rw [es2]; exact I1.kept fun b o e => Heap.get?_push_of_some _ e
    rw [← es2]
    refine call_list_range (I2.ok.hd m.calm) (n := j.toNat) (by rw [es2]; exact IsRange.new ..) (small_one (by omega) (by omega) (by omega) (by omega)) (by rw [rangeSize_one]; split <;> omega) (by omega) fun h' tk acc c kp e it => ?_
    refine ⟨.ref s2.heap.objs.size, _, I2.laid (t' := tk) kp (Nat.le_refl _) (show ObjOk X.prog X.w _ h' _ (.lst ((List.range' 0 j.toNat).map fun i : Nat => V.int (i : Int))) from ⟨?_, acc.toList, c, vals_int _ _ _ (by simpa using it.1) fun k v hv => ?_, by simpa using e⟩), rfl, q _ (I2.hok.fresh (Nat.le_refl _))⟩
    · simp only [List.length_map, List.length_range']; exact lim_le (show j.toNat ≤ LIM by show j.toNat ≤ 1000000; omega)
    · obtain ⟨t, e⟩ := it.2 k v (by simpa using hv)
      exact ⟨t, by rw [e]; simp⟩
def wListRange (w : WE) : WE := fun env Q => w env fun r e => match opd e r with
  | some (.int j) => 0 ≤ j ∧ j ≤ 1000000 ∧ Q (.new (.list ((List.range j.toNat).map nD))) e
  | _ => False
theorem rdl_range (Z : ZS) (H : Hp) : ∀ l : List Nat, RpL Z H (l.map fun i : Nat => V.int (i : Int)) (l.map nD)
  | [] => .nil
  | i :: r => .cons (.int _) (rdl_range Z H r)
theorem v_listRange {p1 q1 q2 : Pos} (m : Rm X) (hml : X.mg "list" = none) (hmr : X.mg "range" = none) (he : PE X e (tV w)) (hgl : Gl X "list" := by rfl) (hgr : Gl X "range" := by rfl)
    (hs : starEach [e] X.env = (false, eval e X.env) :: starEach [] X.env := by rfl) (hs2 : starEach [.Call (.Name "range" p2) [e] [] q2] X.env = (false, eval (.Call (.Name "range" p2) [e] [] q2) X.env) :: starEach [] X.env := by rfl) :
    PE X (.Call (.Name "list" p1) [.Call (.Name "range" p2) [e] [] q2] [] q1) (tV (wListRange w)) := by
  refine (pe_listRange m hgl hml hgr hmr (pa_cons he pa_nil hs) hs hs2).imp fun σ H Q h => ?_
  obtain ⟨F, Z, env, Q0, c, h, k⟩ := h
  refine ⟨F, Z, env, _, c, h, fun r1 e1 q1 Z1 v H1 x1 c1 rr1 => ?_⟩
  obtain ⟨Z1', x1', c1', hd1⟩ := rr1.hold c1
  split at q1
  · rename_i j o
    have ev := rd_int (hd1.opd c1' (by rw [opd_hold]; exact o))
    subst ev
    refine ⟨j, rfl, q1.1, q1.2.1, fun l hl => ?_⟩
    rw [← List.range_eq_range']
    obtain ⟨Z3, x3, c3, rr3⟩ := (Made.lst hl (rdl_range _ _ _)).cf c1'
    exact k _ _ q1.2.2 Z3 _ _ ((x1.trans x1').trans x3) c3 rr3
  · exact q1.elim
end
end VL

namespace k58
open PySem PySem.Spec PyProof.Rows L2 VL
/-! taken_of: 0 spans, 1 some, 2 end, 3 found, 4 i, 5 a, 6 b -/
@[irreducible] def w_taken_of_1 : WS := (wDrop (wApp 3 (wVar 4)))
@[irreducible] def w_taken_of_2 : WS := (wIfS (wTOr (wTestB (wOp2 gIsN (wVar 2) (wC .none))) (wTestB (wOp2 fLe (wVar 2) (wVar 5)))) (wSeq (wSet 2 (wVar 6)) (w_taken_of_1)) wNext)
@[irreducible] def w_taken_of_3 : WS := (wSeq (wAsg (wgTup 2 (wgCons (wgName 5) (wgCons (wgName 6) wgNil))) (wOp2 fIx (wVar 0) (wVar 4))) (w_taken_of_2))
@[irreducible] def w_taken_of_4 : WS := (wRet (wCB cTuple (wCons (wVar 3) wNil)))
@[irreducible] def w_taken_of_5 : WS := (wSeq (wFor (wiSeq (wVar 1)) (wgName 4) (w_taken_of_3)) (w_taken_of_4))
@[irreducible] def w_taken_of : WS := (wSeq (wPar2 2 3 (wC .none) (wLst wNil)) (w_taken_of_5))
/-! taken_when_free: 0 spans -/
@[irreducible] def w_taken_when_free (φ_taken_of : FS) : WS := (wRet (wCall φ_taken_of (wCons (wVar 0) (wCons (wListRange (wCB cLen (wCons (wVar 0) wNil))) wNil))))
/-! worth_of: 0 spans, 1 lot, 2 i -/
@[irreducible] def w_worth_of : WS := (wRet (wCB cSum (wCons (wComp [2] (wiSeq (wVar 1)) (wgName 2) wYes (wOp2 fSub (wOp2 fIx (wOp2 fIx (wVar 0) (wVar 2)) (wC (.int 1))) (wOp2 fIx (wOp2 fIx (wVar 0) (wVar 2)) (wC (.int 0))))) wNil)))
/-! best_worth: 0 spans, 1 best, 2 a, 3 b, 4 ahead, 5 end, 6 worth -/
@[irreducible] def w_best_worth_1 : WS := (wDrop (wApp 1 (wTup (wCons (wVar 3) (wCons (wCB cMax (wCons (wOp2 fIx (wOp2 fIx (wVar 1) (wOp1 fNeg (wC (.int 1)))) (wC (.int 1))) (wCons (wOp2 fSub (wOp2 fAdd (wVar 4) (wVar 3)) (wVar 2)) wNil))) wNil)))))
@[irreducible] def w_best_worth_2 : WS := (wSeq (wSet 4 (wCB cMax (wCons (wComp [5, 6] (wiSeq (wVar 1)) (wgTup 2 (wgCons (wgName 5) (wgCons (wgName 6) wgNil))) (wTOr (wTestB (wOp2 gIsN (wVar 5) (wC .none))) (wTestB (wOp2 fLe (wVar 5) (wVar 2)))) (wVar 6)) wNil))) (w_best_worth_1))
@[irreducible] def w_best_worth_3 : WS := (wRet (wOp2 fIx (wOp2 fIx (wVar 1) (wOp1 fNeg (wC (.int 1)))) (wC (.int 1))))
@[irreducible] def w_best_worth_4 : WS := (wSeq (wFor (wiSeq (wSortK (wVar 0))) (wgTup 2 (wgCons (wgName 2) (wgCons (wgName 3) wgNil))) (w_best_worth_2)) (w_best_worth_3))
@[irreducible] def w_best_worth : WS := (wSeq (wSet 1 (wLst (wCons (wTup (wCons (wC .none) (wCons (wC (.int 0)) wNil))) wNil))) (w_best_worth_4))
/-! _law_draw_spans: 0 source, 1 many, 2 far, 3 most, 4 rows, 5 i, 6 a, 7 begins, 8 b, 9 early, 10 late -/
@[irreducible] def w__law_draw_spans_1 (φ__law_pick : FS) : WS := (wDrop (wApp 4 (wTup (wCons (wVar 6) (wCons (wOp2 fAdd (wOp2 fAdd (wVar 6) (wC (.int 1))) (wCall φ__law_pick (wCons (wVar 0) (wCons (wVar 3) wNil)))) wNil)))))
@[irreducible] def w__law_draw_spans_2 (φ__law_pick : FS) : WS := (wSeq (wSet 6 (wCall φ__law_pick (wCons (wVar 0) (wCons (wVar 2) wNil)))) (w__law_draw_spans_1 φ__law_pick))
@[irreducible] def w__law_draw_spans_3 (φ__law_pick : FS) : WS := (wRet (wCB cTuple (wCons (wComp [6, 9, 10] (wiZip (wVar 7) (wVar 4)) (wgTup 2 (wgCons (wgName 6) (wgCons (wgTup 2 (wgCons (wgName 9) (wgCons (wgName 10) wgNil))) wgNil))) wYes (wTup (wCons (wVar 6) (wCons (wOp2 fSub (wOp2 fAdd (wVar 6) (wVar 10)) (wVar 9)) wNil)))) wNil)))
@[irreducible] def w__law_draw_spans_4 (φ__law_pick : FS) : WS := (wSeq (wSet 7 (wCB cSorted (wCons (wComp [6, 8] (wiSeq (wVar 4)) (wgTup 2 (wgCons (wgName 6) (wgCons (wgName 8) wgNil))) wYes (wVar 6)) wNil))) (w__law_draw_spans_3 φ__law_pick))
@[irreducible] def w__law_draw_spans_5 (φ__law_pick : FS) : WS := (wSeq (wFor (wiRange1 (wCall φ__law_pick (wCons (wVar 0) (wCons (wOp2 fAdd (wVar 1) (wC (.int 1))) wNil)))) (wgName 5) (w__law_draw_spans_2 φ__law_pick)) (w__law_draw_spans_4 φ__law_pick))
@[irreducible] def w__law_draw_spans (φ__law_pick : FS) : WS := (wSeq (wSet 4 (wLst wNil)) (w__law_draw_spans_5 φ__law_pick))
/-! _law_at_once: 0 spans, 1 place, 2 a, 3 b -/
@[irreducible] def w__law_at_once : WS := (wRet (wCB cMax (wCons (wOp2 fAdd (wLst (wCons (wC (.int 0)) wNil)) (wComp [1] (wiSeq (wComp [2, 3] (wiSeq (wVar 0)) (wgTup 2 (wgCons (wgName 2) (wgCons (wgName 3) wgNil))) wYes (wVar 2))) (wgName 1) wYes (wCB cLen (wCons (wComp [2, 3] (wiSeq (wVar 0)) (wgTup 2 (wgCons (wgName 2) (wgCons (wgName 3) wgNil))) (wTestB (wChain fLe fLt (wVar 2) (wVar 1) (wVar 3))) (wC (.int 1))) wNil)))) wNil)))
/-! _law_best: 0 spans, 1 sizes, 2 best, 3 n, 4 code, 5 some, 6 total, 7 i -/
@[irreducible] def w__law_best_1 (φ__law_at_once : FS) : WS := (wIfS (wTAnd (wTestB (wOp2 fGt (wVar 6) (wVar 2))) (wTestB (wOp2 fLt (wCall φ__law_at_once (wCons (wComp [7] (wiSeq (wVar 5)) (wgName 7) wYes (wOp2 fIx (wVar 0) (wVar 7))) wNil)) (wC (.int 2))))) (wSet 2 (wVar 6)) wNext)
@[irreducible] def w__law_best_2 (φ__law_at_once : FS) : WS := (wSeq (wSet 6 (wCB cSum (wCons (wComp [7] (wiSeq (wVar 5)) (wgName 7) wYes (wOp2 fIx (wVar 1) (wVar 7))) wNil))) (w__law_best_1 φ__law_at_once))
@[irreducible] def w__law_best_3 (φ__law_at_once : FS) : WS := (wSeq (wSet 5 (wComp [7] (wiRange1 (wVar 3)) (wgName 7) (wTestB (wOp2 fEq (wOp2 fMod (wOp2 fDiv (wVar 4) (wOp2 fShl (wC (.int 1)) (wVar 7))) (wC (.int 2))) (wC (.int 1)))) (wVar 7))) (w__law_best_2 φ__law_at_once))
@[irreducible] def w__law_best_4 (φ__law_at_once : FS) : WS := (wRet (wVar 2))
@[irreducible] def w__law_best_5 (φ__law_at_once : FS) : WS := (wSeq (wFor (wiRange1 (wOp2 fShl (wC (.int 1)) (wVar 3))) (wgName 4) (w__law_best_3 φ__law_at_once)) (w__law_best_4 φ__law_at_once))
@[irreducible] def w__law_best (φ__law_at_once : FS) : WS := (wSeq (wPar2 2 3 (wC (.int 0)) (wCB cLen (wCons (wVar 0) wNil))) (w__law_best_5 φ__law_at_once))
/-! law: 0 script, 1 source, 2 lap, 3 d, 4 spans, 5 free, 6 end, 7 i, 8 a, 9 b, 10 sizes, 11 worth, 12 best, 13 lot, 14 bar, 15 span, 16 size -/
@[irreducible] def w_law_1 (φ__law_pick : FS) (φ__law_draw_spans : FS) (φ_taken_when_free : FS) (φ__law_best : FS) (φ_worth_of : FS) (φ_best_worth : FS) : WS := (wIfS (wTOr (wTestB (wOp2 gIsN (wVar 6) (wC .none))) (wTestB (wOp2 fGe (wVar 8) (wVar 6)))) (wPar2 5 6 (wOp2 fAdd (wVar 5) (wLst (wCons (wVar 7) wNil))) (wVar 9)) wNext)
@[irreducible] def w_law_2 (φ__law_pick : FS) (φ__law_draw_spans : FS) (φ_taken_when_free : FS) (φ__law_best : FS) (φ_worth_of : FS) (φ_best_worth : FS) : WS := (wIfS (wTAnd (wTestB (wOp2 fLt (wLenDict (wComp [16] (wiSeq (wVar 10)) (wgName 16) wYes (wTup (wCons (wVar 16) (wCons (wC (.int 0)) wNil))))) (wC (.int 2)))) (wTestB (wOp2 fNe (wCB cLen (wCons (wVar 5) wNil)) (wCall φ__law_best (wCons (wVar 4) (wCons (wComp [15] (wiSeq (wVar 4)) (wgName 15) wYes (wC (.int 1))) wNil)))))) (wRet (wC (.bool false))) wNext)
@[irreducible] def w_law_3 (φ__law_pick : FS) (φ__law_draw_spans : FS) (φ_taken_when_free : FS) (φ__law_best : FS) (φ_worth_of : FS) (φ_best_worth : FS) : WS := (wSeq (wIfS (wTestB (wOp2 fNe (wCall φ_worth_of (wCons (wVar 4) (wCons (wVar 13) wNil))) (wCB cSum (wCons (wComp [7] (wiSeq (wVar 13)) (wgName 7) wYes (wOp2 fIx (wVar 10) (wVar 7))) wNil)))) (wRet (wC (.bool false))) wNext) (w_law_2 φ__law_pick φ__law_draw_spans φ_taken_when_free φ__law_best φ_worth_of φ_best_worth))
@[irreducible] def w_law_4 (φ__law_pick : FS) (φ__law_draw_spans : FS) (φ_taken_when_free : FS) (φ__law_best : FS) (φ_worth_of : FS) (φ_best_worth : FS) : WS := (wSeq (wSet 13 (wCB cTuple (wCons (wComp [7] (wiRange1 (wCB cLen (wCons (wVar 4) wNil))) (wgName 7) (wTestB (wOp2 fEq (wCall φ__law_pick (wCons (wVar 1) (wCons (wC (.int 2)) wNil))) (wC (.int 0)))) (wVar 7)) wNil))) (w_law_3 φ__law_pick φ__law_draw_spans φ_taken_when_free φ__law_best φ_worth_of φ_best_worth))
@[irreducible] def w_law_5 (φ__law_pick : FS) (φ__law_draw_spans : FS) (φ_taken_when_free : FS) (φ__law_best : FS) (φ_worth_of : FS) (φ_best_worth : FS) : WS := (wSeq (wIfS (wTOr (wTestB (wOp2 fNe (wCall φ_worth_of (wCons (wVar 4) (wCons (wCB cTuple (wCons (wVar 5) wNil)) wNil))) (wVar 11))) (wTOr (wTestB (wOp2 fNe (wCall φ_best_worth (wCons (wVar 4) wNil)) (wVar 12))) (wTestB (wOp2 fGt (wVar 12) (wOp2 fMul (wVar 3) (wVar 11)))))) (wRet (wC (.bool false))) wNext) (w_law_4 φ__law_pick φ__law_draw_spans φ_taken_when_free φ__law_best φ_worth_of φ_best_worth))
@[irreducible] def w_law_6 (φ__law_pick : FS) (φ__law_draw_spans : FS) (φ_taken_when_free : FS) (φ__law_best : FS) (φ_worth_of : FS) (φ_best_worth : FS) : WS := (wSeq (wPar2 11 12 (wCB cSum (wCons (wComp [7] (wiSeq (wVar 5)) (wgName 7) wYes (wOp2 fIx (wVar 10) (wVar 7))) wNil)) (wCall φ__law_best (wCons (wVar 4) (wCons (wVar 10) wNil)))) (w_law_5 φ__law_pick φ__law_draw_spans φ_taken_when_free φ__law_best φ_worth_of φ_best_worth))
@[irreducible] def w_law_7 (φ__law_pick : FS) (φ__law_draw_spans : FS) (φ_taken_when_free : FS) (φ__law_best : FS) (φ_worth_of : FS) (φ_best_worth : FS) : WS := (wSeq (wSet 10 (wComp [8, 9] (wiSeq (wVar 4)) (wgTup 2 (wgCons (wgName 8) (wgCons (wgName 9) wgNil))) wYes (wOp2 fSub (wVar 9) (wVar 8)))) (w_law_6 φ__law_pick φ__law_draw_spans φ_taken_when_free φ__law_best φ_worth_of φ_best_worth))
@[irreducible] def w_law_8 (φ__law_pick : FS) (φ__law_draw_spans : FS) (φ_taken_when_free : FS) (φ__law_best : FS) (φ_worth_of : FS) (φ_best_worth : FS) : WS := (wSeq (wIfS (wTestB (wOp2 fNe (wCB cRepr (wCons (wCall φ_taken_when_free (wCons (wVar 4) wNil)) wNil)) (wCB cRepr (wCons (wCB cTuple (wCons (wVar 5) wNil)) wNil)))) (wRet (wC (.bool false))) wNext) (w_law_7 φ__law_pick φ__law_draw_spans φ_taken_when_free φ__law_best φ_worth_of φ_best_worth))
@[irreducible] def w_law_9 (φ__law_pick : FS) (φ__law_draw_spans : FS) (φ_taken_when_free : FS) (φ__law_best : FS) (φ_worth_of : FS) (φ_best_worth : FS) : WS := (wSeq (wFor (wiEnum (wVar 4)) (wgTup 2 (wgCons (wgName 7) (wgCons (wgTup 2 (wgCons (wgName 8) (wgCons (wgName 9) wgNil))) wgNil))) (w_law_1 φ__law_pick φ__law_draw_spans φ_taken_when_free φ__law_best φ_worth_of φ_best_worth)) (w_law_8 φ__law_pick φ__law_draw_spans φ_taken_when_free φ__law_best φ_worth_of φ_best_worth))
@[irreducible] def w_law_10 (φ__law_pick : FS) (φ__law_draw_spans : FS) (φ_taken_when_free : FS) (φ__law_best : FS) (φ_worth_of : FS) (φ_best_worth : FS) : WS := (wSeq (wPar2 5 6 (wLst wNil) (wC .none)) (w_law_9 φ__law_pick φ__law_draw_spans φ_taken_when_free φ__law_best φ_worth_of φ_best_worth))
@[irreducible] def w_law_11 (φ__law_pick : FS) (φ__law_draw_spans : FS) (φ_taken_when_free : FS) (φ__law_best : FS) (φ_worth_of : FS) (φ_best_worth : FS) : WS := (wSeq (wIfS (wTestB (wOp2 fEq (wCall φ__law_pick (wCons (wVar 1) (wCons (wC (.int 3)) wNil))) (wC (.int 0)))) (wPar2 4 3 (wCB cTuple (wCons (wComp [8, 9] (wiSeq (wVar 4)) (wgTup 2 (wgCons (wgName 8) (wgCons (wgName 9) wgNil))) wYes (wTup (wCons (wVar 8) (wCons (wOp2 fAdd (wVar 8) (wVar 3)) wNil)))) wNil)) (wVar 3)) wNext) (w_law_10 φ__law_pick φ__law_draw_spans φ_taken_when_free φ__law_best φ_worth_of φ_best_worth))
@[irreducible] def w_law_12 (φ__law_pick : FS) (φ__law_draw_spans : FS) (φ_taken_when_free : FS) (φ__law_best : FS) (φ_worth_of : FS) (φ_best_worth : FS) : WS := (wSeq (wSet 4 (wCall φ__law_draw_spans (wCons (wVar 1) (wCons (wC (.int 9)) (wCons (wOp2 fIx (wLst (wCons (wC (.int 8)) (wCons (wC (.int 12)) (wCons (wC (.int 20)) wNil)))) (wVar 2)) (wCons (wVar 3) wNil)))))) (w_law_11 φ__law_pick φ__law_draw_spans φ_taken_when_free φ__law_best φ_worth_of φ_best_worth))
@[irreducible] def w_law_13 (φ__law_pick : FS) (φ__law_draw_spans : FS) (φ_taken_when_free : FS) (φ__law_best : FS) (φ_worth_of : FS) (φ_best_worth : FS) : WS := (wSeq (wSet 3 (wOp2 fAdd (wC (.int 1)) (wCall φ__law_pick (wCons (wVar 1) (wCons (wOp2 fIx (wLst (wCons (wC (.int 1)) (wCons (wC (.int 4)) (wCons (wC (.int 8)) wNil)))) (wVar 2)) wNil))))) (w_law_12 φ__law_pick φ__law_draw_spans φ_taken_when_free φ__law_best φ_worth_of φ_best_worth))
@[irreducible] def w_law_14 (φ__law_pick : FS) (φ__law_draw_spans : FS) (φ_taken_when_free : FS) (φ__law_best : FS) (φ_worth_of : FS) (φ_best_worth : FS) : WS := (wRet (wAndV (wOp2 fEq (wCall φ_worth_of (wCons (wVar 14) (wCons (wCall φ_taken_when_free (wCons (wVar 14) wNil)) wNil))) (wC (.int 1))) (wOp2 fEq (wCall φ_best_worth (wCons (wVar 14) wNil)) (wVar 3))))
@[irreducible] def w_law_15 (φ__law_pick : FS) (φ__law_draw_spans : FS) (φ_taken_when_free : FS) (φ__law_best : FS) (φ_worth_of : FS) (φ_best_worth : FS) : WS := (wSeq (wSet 14 (wTup (wCons (wTup (wCons (wC (.int 0)) (wCons (wC (.int 1)) wNil))) (wCons (wTup (wCons (wC (.int 0)) (wCons (wVar 3) wNil))) wNil)))) (w_law_14 φ__law_pick φ__law_draw_spans φ_taken_when_free φ__law_best φ_worth_of φ_best_worth))
@[irreducible] def w_law_16 (φ__law_pick : FS) (φ__law_draw_spans : FS) (φ_taken_when_free : FS) (φ__law_best : FS) (φ_worth_of : FS) (φ_best_worth : FS) : WS := (wSeq (wSet 3 (wOp2 fAdd (wC (.int 1)) (wCall φ__law_pick (wCons (wVar 1) (wCons (wC (.int 30)) wNil))))) (w_law_15 φ__law_pick φ__law_draw_spans φ_taken_when_free φ__law_best φ_worth_of φ_best_worth))
@[irreducible] def w_law (φ__law_pick : FS) (φ__law_draw_spans : FS) (φ_taken_when_free : FS) (φ__law_best : FS) (φ_worth_of : FS) (φ_best_worth : FS) : WS := (wSeq (wFor (wiRange1 (wC (.int 3))) (wgName 2) (w_law_13 φ__law_pick φ__law_draw_spans φ_taken_when_free φ__law_best φ_worth_of φ_best_worth)) (w_law_16 φ__law_pick φ__law_draw_spans φ_taken_when_free φ__law_best φ_worth_of φ_best_worth))
end k58

namespace k58
open PySem PySem.Spec PyProof.Rows L2 VL
theorem wtNil {e : VE} : WtOk e [] := fun _ h => nomatch h
theorem wt1 {e : VE} {i : Nat} {d : D} (h : e[i]? = some (.own d)) : WtOk e [(i, d)] := fun p hp => by rw [List.mem_singleton.mp hp]; exact h
theorem onS_of {α : Type} {o : Option α} {a : α} {Q : α → Prop} (h : o = some a) (q : Q a) : onS o Q := by rw [h]; exact q
abbrev Sp2 := List (Int × Int)
def begOf (sp : Sp2) (i : Nat) : Int := (sp[i]?.getD (0, 0)).1
def endOf (sp : Sp2) (i : Nat) : Int := (sp[i]?.getD (0, 0)).2
theorem ix_sp {sp : Sp2} {i : Nat} (h : i < sp.length) : atI (sp.map pD) (i : Int) = some (.tuple [.int (begOf sp i), .int (endOf sp i)]) := by
  rw [atI_map, List.getElem?_eq_getElem h]
  unfold begOf endOf
  rw [List.getElem?_eq_getElem h]
  rfl
def spD (sp : Sp2) : D := .tuple (sp.map pD)
def isD (is : List Nat) : D := .list (is.map nD)
def tupD (is : List Nat) : D := .tuple (is.map nD)
theorem no_false {P : Prop} (h : (false = true)) : P := by cases h
theorem no_true {P : Prop} (h : (true = false)) : P := by cases h
theorem big_n {n : Nat} (h : n ≤ 1000000) : big62 ((n : Nat) : Int) := by unfold big62; omega
theorem range_n {α : Type} {F : α → D} (xs : List α) : rangeD 0 (((xs.map F).length : Nat) : Int).toNat = (List.range xs.length).map nD := by
  rw [Int.toNat_natCast, rangeD_zero, List.length_map]
/-! ### sorted ints -/
theorem dataLe_ints (a b : Int) : PySem.W.dataLe false id (iD a) (iD b) = decide (a ≤ b) := by
  show (!PySem.W.dataLt (.int b) (.int a)) = _
  rw [lt_ii, ← decide_not, decide_eq_decide]
  omega
def sortI (xs : List Int) : List Int := xs.mergeSort fun a b => decide (a ≤ b)
theorem sortD_ints (xs : List Int) : sortD (xs.map iD) = (sortI xs).map iD := by
  unfold sortD sortI
  exact (List.map_mergeSort fun a _ b _ => (dataLe_ints a b).symm).symm
theorem sortI_len (xs : List Int) : (sortI xs).length = xs.length := List.length_mergeSort _
theorem sortI_sorted (xs : List Int) : (sortI xs).Pairwise (· ≤ ·) := by
  have := List.pairwise_mergeSort (le := fun (a b : Int) => decide (a ≤ b)) (fun a b c h1 h2 => by simp at *; omega) (fun a b => by simp; omega) xs
  exact this.imp fun h => by simpa using h
theorem sortable_ints (xs : List Int) : PySem.W.AllAlike (xs.map iD) ∧ PySem.W.Sortable (xs.map iD) := by
  refine ⟨fun x hx y hy => (alikeAll_ints xs).1 x hx y hy, .inr fun d hd => ?_⟩
  obtain ⟨a, _, rfl⟩ := List.mem_map.mp hd
  exact ⟨fun e => (by cases e), fun xs e => (by cases e)⟩
/-! ### _law_draw_spans -/
abbrev φ__law_pick := φPick
theorem l__law_pick : ∀ as Q, φPick as Q → as.length = 2 := by
  intro as Q h
  unfold φPick at h
  split at h
  · rfl
  · exact h.elim
def φ__law_draw_spans : FS := fun as Q => ∃ (many far most : Int), as = [.src, .val (.int many), .val (.int far), .val (.int most)] ∧ 0 ≤ many ∧ many ≤ 1000 ∧ 0 < far ∧ far ≤ 1000 ∧ 0 < most ∧ most ≤ 1000 ∧
  ∀ sp : Sp2, (sp.length : Int) ≤ many → sp.Pairwise (fun p q => p.1 ≤ q.1) → (∀ p ∈ sp, p.1 < p.2 ∧ p.2 - p.1 ≤ most) → Q (spD sp)
theorem l__law_draw_spans : ∀ as Q, φ__law_draw_spans as Q → as.length = 4 := by
  rintro as Q ⟨many, far, most, rfl, _⟩; rfl
def mkSp (xs : List Int) (rows : Sp2) : Sp2 := (xs.zip rows).map fun p => (p.1, p.1 + p.2.2 - p.2.1)
theorem mkSp_ok {xs : List Int} {rows : Sp2} (hs : xs.Pairwise (· ≤ ·)) {most : Int} (hr : ∀ p ∈ rows, p.1 < p.2 ∧ p.2 - p.1 ≤ most) : (mkSp xs rows).Pairwise (fun p q => p.1 ≤ q.1) ∧ (∀ p ∈ mkSp xs rows, p.1 < p.2 ∧ p.2 - p.1 ≤ most) := by
  unfold mkSp
  induction xs generalizing rows with
  | nil => simp
  | cons x r ih =>
    cases rows with
    | nil => simp
    | cons q t =>
      rw [List.pairwise_cons] at hs
      have := ih hs.2 fun p hp => hr p (List.mem_cons_of_mem _ hp)
      have hq := hr q (List.mem_cons_self ..)
      rw [List.zip_cons_cons, List.map_cons, List.pairwise_cons]
      refine ⟨⟨fun p hp => ?_, this.1⟩, fun p hp => ?_⟩
      · obtain ⟨z, hz, rfl⟩ := List.mem_map.mp hp
        exact hs.1 _ (List.of_mem_zip hz).1
      · rcases List.mem_cons.mp hp with rfl | hp
        · show x < x + q.2 - q.1 ∧ x + q.2 - q.1 - x ≤ most; omega
        · exact this.2 p hp
theorem m__law_draw_spans : ∀ ars Q0, ars.length = 4 → φ__law_draw_spans ars Q0 → w__law_draw_spans φ__law_pick (envOf 11 ars) (retQ Q0) := by
  rintro ars Q0 - ⟨many, far, most, rfl, h1, h2, h3, h4, h5, h6, hQ⟩
  have hL : LIM = 1000000 := rfl
  unfold w__law_draw_spans
  refine ⟨Nat.zero_le _, ?_⟩
  change w__law_draw_spans_5 _ [.src, .val (.int many), .val (.int far), .val (.int most), .own (.list []), .emp, .emp, .emp, .emp, .emp, .emp] _
  unfold w__law_draw_spans_5
  refine ⟨by omega, fun n hn0 hn => ⟨⟨by omega, by omega⟩, rfl, ?_⟩⟩
  have hn : n ≤ many := by omega
  refine for_inv (fun rest e => ∃ rows s5 s6, e = [.src, .val (.int many), .val (.int far), .val (.int most), .own (.list (rows.map pD)), s5, s6, .emp, .emp, .emp, .emp] ∧ (∀ p ∈ rows, p.1 < p.2 ∧ p.2 - p.1 ≤ most) ∧ rows.length + rest.length ≤ n.toNat ∧ slOk (some s6) = true) _ _ ⟨[], .emp, .emp, rfl, by simp, by simp [rangeD], rfl⟩ ?_ ?_
  · rintro e ⟨rows, s5, s6, rfl, r1, r2, r3⟩
    unfold w__law_draw_spans_4
    refine ⟨(by cases s6 <;> first | rfl | cases r3), rfl, comp_on pD (fun _ => true) (fun p => iD p.1) (wt1 rfl) rows [] (by rw [List.length_nil]; simp at r2; omega) (fun p h Qt Qf q1 q2 => ⟨rfl, rfl, fun _ => q1 rfl _ rfl, fun h => absurd h Bool.noConfusion⟩) ?_⟩
    rw [List.nil_append, List.filter_eq_self.mpr (fun _ _ => rfl)]
    have e1 : (rows.map fun p => iD p.1) = (rows.map (·.1)).map iD := by rw [List.map_map]; rfl
    rw [e1]
    refine ⟨(sortable_ints _).1, (sortable_ints _).2, ok_list (okN_map fun i => okN_int _ _), ?_⟩
    rw [sortD_ints]
    change w__law_draw_spans_3 _ [.src, .val (.int many), .val (.int far), .val (.int most), .own (.list (rows.map pD)), s5, s6, .own (.list ((sortI (rows.map (·.1))).map iD)), .emp, .emp, .emp] _
    unfold w__law_draw_spans_3
    refine ⟨(by cases s6 <;> first | rfl | cases r3), rfl, ?_⟩
    rw [zipD_map]
    refine comp_on (fun p : Int × (Int × Int) => PyData.tuple [iD p.1, pD p.2]) (fun _ => true) (fun p => pD (p.1, p.1 + p.2.2 - p.2.1)) (fun q hq => ?_) ((sortI (rows.map (·.1))).zip rows) [] ?len (fun p h Qt Qf q1 q2 => ?inn) ?out
    case inn => exact ⟨rfl, rfl, rfl, rfl, fun _ => ⟨(show 2 ≤ LIM by decide), q1 rfl _ rfl⟩, fun h => absurd h Bool.noConfusion⟩
    · simp at hq
      rcases hq with rfl | rfl <;> rfl
    case len => rw [List.length_nil, List.length_zip, sortI_len, List.length_map]; simp at r2; omega
    case out =>
      rw [List.nil_append, List.filter_eq_self.mpr (fun _ _ => rfl)]
      have ok := mkSp_ok (sortI_sorted (rows.map (·.1))) r1
      have := hQ (mkSp (sortI (rows.map (·.1))) rows) ?_ ok.1 ok.2
      · have e2 : ((sortI (rows.map (·.1))).zip rows).map (fun p : Int × (Int × Int) => pD (p.1, p.1 + p.2.2 - p.2.1)) = (mkSp (sortI (rows.map (·.1))) rows).map pD := by unfold mkSp; rw [List.map_map]; rfl
        rw [e2]
        exact this
      · unfold mkSp
        rw [List.length_map, List.length_zip, sortI_len, List.length_map]; simp at r2; omega
  · rintro d r e ⟨rows, s5, s6, rfl, r1, r2, r3⟩ K hK
    rw [List.length_cons] at r2
    change w__law_draw_spans_2 _ [.src, .val (.int many), .val (.int far), .val (.int most), .own (.list (rows.map pD)), .val d, s6, .emp, .emp, .emp, .emp] _
    unfold w__law_draw_spans_2
    refine ⟨by omega, fun a ha0 ha => ?_⟩
    change w__law_draw_spans_1 _ [.src, .val (.int many), .val (.int far), .val (.int most), .own (.list (rows.map pD)), .val d, .val (.int a), .emp, .emp, .emp, .emp] _
    unfold w__law_draw_spans_1
    refine ⟨by omega, fun b hb0 hb => ⟨(show 2 ≤ LIM by decide), ?_⟩⟩
    refine ⟨by rw [List.length_map, hL]; omega, hK _ ⟨rows ++ [(a, a + 1 + b)], .val d, .val (.int a), by rw [List.map_append]; rfl, fun p hp => ?_, by rw [List.length_append]; simp; omega, rfl⟩⟩
    rcases List.mem_append.mp hp with hp | hp
    · exact r1 p hp
    · rw [List.mem_singleton.mp hp]; show a < a + 1 + b ∧ a + 1 + b - a ≤ most; omega

/-! ### taken_of, worth_of -/
def oeD : Option Int → D
  | none => .none
  | some e => .int e
def freeE : Option Int → Int → Bool
  | none, _ => true
  | some e, a => decide (e ≤ a)
def tkn (sp : Sp2) : List Nat → Option Int → List Nat
  | [], _ => []
  | i :: r, en => if freeE en (begOf sp i) = true then i :: tkn sp r (some (endOf sp i)) else tkn sp r en
def worth (sp : Sp2) (lot : List Nat) : Int := (lot.map fun i => endOf sp i - begOf sp i).sum
theorem tkn_sub (sp : Sp2) : ∀ (l : List Nat) (en : Option Int), ∀ i ∈ tkn sp l en, i ∈ l
  | [], _, i, h => by cases h
  | j :: r, en, i, h => by
    unfold tkn at h
    split at h
    · rcases List.mem_cons.mp h with rfl | h
      · exact List.mem_cons_self ..
      · exact List.mem_cons_of_mem _ (tkn_sub sp r _ i h)
    · exact List.mem_cons_of_mem _ (tkn_sub sp r _ i h)
theorem tkn_len (sp : Sp2) : ∀ (l : List Nat) (en : Option Int), (tkn sp l en).length ≤ l.length
  | [], _ => Nat.le_refl _
  | j :: r, en => by
    unfold tkn
    split
    · rw [List.length_cons, List.length_cons]; have := tkn_len sp r (some (endOf sp j)); omega
    · rw [List.length_cons]; have := tkn_len sp r en; omega
def φ_taken_of : FS := fun as Q => ∃ (sp : Sp2) (l : List Nat), as = [.val (spD sp), .val (isD l)] ∧ (∀ i ∈ l, i < sp.length) ∧ l.length ≤ 1000 ∧ Q (tupD (tkn sp l none))
theorem l_taken_of : ∀ as Q, φ_taken_of as Q → as.length = 2 := by
  rintro as Q ⟨sp, l, rfl, _⟩; rfl
theorem m_taken_of : ∀ ars Q0, ars.length = 2 → φ_taken_of ars Q0 → w_taken_of (envOf 7 ars) (retQ Q0) := by
  rintro ars Q0 - ⟨sp, l, rfl, hl, hn, hQ⟩
  have hL : LIM = 1000000 := rfl
  unfold w_taken_of
  refine ⟨Nat.zero_le _, ?_⟩
  change w_taken_of_5 [.val (spD sp), .val (isD l), .val .none, .own (.list []), .emp, .emp, .emp] _
  unfold w_taken_of_5
  refine ⟨rfl, for_on nD (fun rest e => ∃ en fo s4 s5 s6, e = [.val (spD sp), .val (isD l), .val (oeD en), .own (isD fo), s4, s5, s6] ∧ fo ++ tkn sp rest en = tkn sp l none ∧ (∀ i ∈ rest, i < sp.length) ∧ fo.length + rest.length ≤ l.length) l _ ⟨none, [], .emp, .emp, .emp, rfl, rfl, hl, by simp⟩ ?_ ?_⟩
  · rintro e ⟨en, fo, s4, s5, s6, rfl, h1, h2, h3⟩
    unfold w_taken_of_4
    show Q0 (tupD fo)
    rw [show fo = tkn sp l none by simpa [tkn] using h1]
    exact hQ
  · rintro i r e ⟨en, fo, s4, s5, s6, rfl, h1, h2, h3⟩ K hK
    have hi := h2 i (List.mem_cons_self ..)
    rw [List.length_cons] at h3
    change w_taken_of_3 [.val (spD sp), .val (isD l), .val (oeD en), .own (isD fo), .val (nD i), s5, s6] K
    unfold w_taken_of_3
    refine onS_of (ix_sp hi) ⟨rfl, rfl, ?_⟩
    change w_taken_of_2 [.val (spD sp), .val (isD l), .val (oeD en), .own (isD fo), .val (nD i), .val (.int (begOf sp i)), .val (.int (endOf sp i))] K
    have yes : freeE en (begOf sp i) = true → w_taken_of_1 [.val (spD sp), .val (isD l), .val (.int (endOf sp i)), .own (isD fo), .val (nD i), .val (.int (begOf sp i)), .val (.int (endOf sp i))] K := fun hf => by
      unfold w_taken_of_1
      refine ⟨by rw [List.length_map]; omega, hK _ ⟨some (endOf sp i), fo ++ [i], .val (nD i), .val (.int (begOf sp i)), .val (.int (endOf sp i)), ?_, ?_, fun j hj => h2 j (List.mem_cons_of_mem _ hj), by rw [List.length_append]; simp; omega⟩⟩
      · show [_, _, _, Sl.own (.list (fo.map nD ++ [nD i])), _, _, _] = _
        unfold isD; rw [List.map_append]; rfl
      · rw [← h1, List.append_assoc]
        show fo ++ ([i] ++ _) = fo ++ (if freeE en (begOf sp i) = true then i :: tkn sp r (some (endOf sp i)) else tkn sp r en)
        rw [if_pos hf]; rfl
    have no : freeE en (begOf sp i) = false → K .nx [.val (spD sp), .val (isD l), .val (oeD en), .own (isD fo), .val (nD i), .val (.int (begOf sp i)), .val (.int (endOf sp i))] := fun hf => by
      refine hK _ ⟨en, fo, _, _, _, rfl, ?_, fun j hj => h2 j (List.mem_cons_of_mem _ hj), by omega⟩
      rw [← h1]
      show _ = fo ++ (if freeE en (begOf sp i) = true then i :: tkn sp r (some (endOf sp i)) else tkn sp r en)
      rw [hf, if_neg Bool.false_ne_true]
    unfold w_taken_of_2
    cases en with
    | none => exact ⟨rfl, fun _ => ⟨fun _ => yes rfl, fun h => no_true h⟩, fun h => no_true h⟩
    | some x => exact ⟨rfl, fun h => no_false h, fun _ => ⟨fun h => yes h, fun h => no h⟩⟩
theorem ints_map {α : Type} (f : α → Int) : ∀ xs : List α, intsOf (xs.map fun x => iD (f x)) = some (xs.map f)
  | [] => rfl
  | x :: r => by
    show (intsOf (r.map fun x => iD (f x))).map (f x :: ·) = _
    rw [ints_map f r]; rfl
def φ_worth_of : FS := fun as Q => ∃ (sp : Sp2) (l : List Nat), as = [.val (spD sp), .val (tupD l)] ∧ (∀ i ∈ l, i < sp.length) ∧ l.length ≤ 1000 ∧ Q (.int (worth sp l))
theorem l_worth_of : ∀ as Q, φ_worth_of as Q → as.length = 2 := by
  rintro as Q ⟨sp, l, rfl, _⟩; rfl
theorem m_worth_of : ∀ ars Q0, ars.length = 2 → φ_worth_of ars Q0 → w_worth_of (envOf 3 ars) (retQ Q0) := by
  rintro ars Q0 - ⟨sp, l, rfl, hl, hn, hQ⟩
  have hL : LIM = 1000000 := rfl
  unfold w_worth_of
  refine ⟨rfl, rfl, comp_on nD (fun _ => true) (fun i => iD (endOf sp i - begOf sp i)) wtNil l [] (by rw [List.length_nil]; omega) (fun i h Qt Qf q1 q2 => ⟨fun _ => ?inn, fun h => no_true h⟩) ?out⟩
  case inn =>
    refine onS_of (ix_sp (hl i h)) ?_
    refine onS_of (ix_sp (hl i h)) ?_
    refine (?_ : Qt (iD (endOf sp i - begOf sp i)) _)
    exact q1 rfl _ rfl
  case out =>
    rw [List.nil_append, List.filter_eq_self.mpr (fun _ _ => rfl)]
    exact onS_of (ints_map (fun i => endOf sp i - begOf sp i) l) hQ
/-! ### taken_when_free -/
def φ_taken_when_free : FS := fun as Q => ∃ (sp : Sp2), as = [.val (spD sp)] ∧ sp.length ≤ 1000 ∧ Q (tupD (tkn sp (List.range sp.length) none))
theorem l_taken_when_free : ∀ as Q, φ_taken_when_free as Q → as.length = 1 := by
  rintro as Q ⟨sp, rfl, _⟩; rfl
theorem m_taken_when_free : ∀ ars Q0, ars.length = 1 → φ_taken_when_free ars Q0 → w_taken_when_free φ_taken_of (envOf 1 ars) (retQ Q0) := by
  rintro ars Q0 - ⟨sp, rfl, hn, hQ⟩
  unfold w_taken_when_free
  have e : ((((sp.map pD).length : Nat) : Int)).toNat = sp.length := by rw [Int.toNat_natCast, List.length_map]
  refine ⟨by omega, by rw [List.length_map]; omega, sp, List.range sp.length, ?_, fun i h => List.mem_range.mp h, by rw [List.length_range]; exact hn, hQ⟩
  rw [e]; rfl
/-! ### _law_at_once -/
def lawAt (sp : Sp2) : Int := maxI 0 (sp.map fun p => (((sp.filter fun q => decide (q.1 ≤ p.1) && decide (p.1 < q.2)).length : Nat) : Int))
def φ__law_at_once : FS := fun as Q => ∃ (sp : Sp2), as = [.val (.list (sp.map pD))] ∧ sp.length ≤ 1000 ∧ Q (.int (lawAt sp))
theorem l__law_at_once : ∀ as Q, φ__law_at_once as Q → as.length = 1 := by
  rintro as Q ⟨sp, rfl, _⟩; rfl
theorem m__law_at_once : ∀ ars Q0, ars.length = 1 → φ__law_at_once ars Q0 → w__law_at_once (envOf 4 ars) (retQ Q0) := by
  rintro ars Q0 - ⟨sp, rfl, hn, hQ⟩
  have hL : LIM = 1000000 := rfl
  unfold w__law_at_once
  refine ⟨(by decide : 1 ≤ 1000000), rfl, rfl, comp_on pD (fun _ => true) (fun p => iD p.1) wtNil sp [] (by rw [List.length_nil]; omega) (fun p h Qt Qf q1 q2 => ⟨rfl, rfl, fun _ => q1 rfl _ rfl, fun h => absurd h Bool.noConfusion⟩) ?_⟩
  rw [List.nil_append, List.filter_eq_self.mpr (fun _ _ => rfl)]
  have e1 : (sp.map fun p => iD p.1) = (sp.map (·.1)).map iD := by rw [List.map_map]; rfl
  rw [e1]
  refine ⟨rfl, rfl, comp_on iD (fun _ => true) (fun x => iD (((sp.filter fun q => decide (q.1 ≤ x) && decide (x < q.2)).length : Nat) : Int)) wtNil (sp.map (·.1)) [] (by rw [List.length_nil, List.length_map]; omega) (fun x h Qt Qf q1 q2 => ⟨fun _ => ?inn, fun h => absurd h Bool.noConfusion⟩) ?out⟩
  case inn =>
    refine ⟨rfl, rfl, comp_on pD (fun q => decide (q.1 ≤ x) && decide (x < q.2)) (fun _ => .int 1) wtNil sp [] (by rw [List.length_nil]; omega) (fun q h Rt Rf r1 r2 => ⟨rfl, rfl, fun hb => ?_, fun hb => ?_⟩) ?_⟩
    · have hb : decide (q.1 ≤ x) = true := hb
      refine ⟨fun hc => r1 ?_ _ rfl, fun hc => r2 ?_ _ rfl⟩
      · have hc : decide (x < q.2) = true := hc
        rw [hb, hc]; rfl
      · have hc : decide (x < q.2) = false := hc
        rw [hb, hc]; rfl
    · have hb : decide (q.1 ≤ x) = false := hb
      refine ⟨fun hc => absurd hc Bool.noConfusion, fun _ => r2 ?_ _ rfl⟩
      rw [hb]; rfl
    · have := q1 rfl [.val (.list (sp.map pD)), .val (.int x), .emp, .emp] rfl
      rw [List.nil_append]
      show Qt (.int ((((sp.filter fun q => decide (q.1 ≤ x) && decide (x < q.2)).map fun _ => (PyData.int 1)).length : Nat) : Int)) _
      rw [List.length_map]
      exact this
  case out =>
    rw [List.nil_append, List.filter_eq_self.mpr (fun _ _ => rfl)]
    have e2 : ((sp.map (·.1)).map fun x => iD (((sp.filter fun q => decide (q.1 ≤ x) && decide (x < q.2)).length : Nat) : Int)) = (sp.map fun p => (((sp.filter fun q => decide (q.1 ≤ p.1) && decide (p.1 < q.2)).length : Nat) : Int)).map iD := by
      rw [List.map_map, List.map_map]; rfl
    rw [e2]
    refine ⟨?_, ?_⟩
    · show 1 + _ ≤ LIM
      rw [List.length_map, List.length_map]; omega
    · refine ⟨?_, ok_list ?_, ?_⟩
      · exact alikeAll_ints (0 :: _)
      · exact okN_map (F := iD) (xs := 0 :: _) fun i => okN_int _ _
      · show Q0 (PySem.W.maxD (iD 0) (List.map iD (List.map _ sp)))
        rw [maxD_ints]
        exact hQ
end k58

namespace k58
open PySem PySem.Spec PyProof.Rows L2 VL
/-! ### best_worth -/
def sumL (S : Sp2) : Int := (S.map fun p => p.2 - p.1).sum
def Chain (S : Sp2) : Prop := S.Pairwise fun p q => p.2 ≤ q.1
/-- a worth that spans which meet no other have -/
def Att (sp : Sp2) (w : Int) : Prop := ∃ S : Sp2, (∀ p ∈ S, p ∈ sp) ∧ Chain S ∧ w = sumL S
def φ_best_worth : FS := fun as Q => ∃ (sp : Sp2), as = [.val (spD sp)] ∧ sp.length ≤ 1000 ∧ (∀ p ∈ sp, p.1 < p.2) ∧ ∀ w, Att sp w → (∀ S : Sp2, (∀ p ∈ S, p ∈ sp) → Chain S → sumL S ≤ w) → Q (.int w)
theorem l_best_worth : ∀ as Q, φ_best_worth as Q → as.length = 1 := by
  rintro as Q ⟨sp, rfl, _⟩; rfl
def sortP (sp : Sp2) : Sp2 := sp.mergeSort fun p q => decide (p.2 ≤ q.2)
theorem sortK_pairs (sp : Sp2) : sortK (sp.map pD) = (sortP sp).map pD := by
  unfold sortK sortP
  refine (List.map_mergeSort fun p _ q _ => ?_).symm
  show decide (p.2 ≤ q.2) = (!PySem.W.dataLt (.int q.2) (.int p.2))
  rw [lt_ii, ← decide_not, decide_eq_decide]
  omega
theorem sortP_mem {sp : Sp2} {p : Int × Int} : p ∈ sortP sp ↔ p ∈ sp := (List.mergeSort_perm _ _).mem_iff
theorem sortP_len (sp : Sp2) : (sortP sp).length = sp.length := List.length_mergeSort _
theorem sortP_sorted (sp : Sp2) : (sortP sp).Pairwise fun p q => p.2 ≤ q.2 := by
  have := List.pairwise_mergeSort (le := fun (p q : Int × Int) => decide (p.2 ≤ q.2)) (fun a b c h1 h2 => by simp at *; omega) (fun a b => by simp; omega) sp
  exact this.imp fun h => by simpa using h
abbrev En := Option Int × Int
def enD (x : En) : D := .tuple [oeD x.1, .int x.2]
/-- what an entry of the table is -/
def EnOk (sp : Sp2) (x : En) : Prop := ∃ S : Sp2, (∀ p ∈ S, p ∈ sp) ∧ Chain S ∧ x.2 = sumL S ∧ match x.1 with
  | none => S = []
  | some e => ∀ p ∈ S, p.2 ≤ e
theorem EnOk.later {sp : Sp2} {x : En} (h : EnOk sp x) {b : Int} (hb : ∀ e, x.1 = some e → e ≤ b) : EnOk sp (some b, x.2) := by
  obtain ⟨S, h1, h2, h3, h4⟩ := h
  refine ⟨S, h1, h2, h3, fun p hp => ?_⟩
  cases hx : x.1 with
  | none => rw [hx] at h4; rw [show S = [] from h4] at hp; cases hp
  | some e =>
    rw [hx] at h4
    have := h4 p hp
    have := hb e hx
    omega
theorem EnOk.more {sp : Sp2} {x : En} (h : EnOk sp x) {a b : Int} (hm : (a, b) ∈ sp) (hab : a < b) (hf : freeE x.1 a = true) : EnOk sp (some b, x.2 + b - a) := by
  obtain ⟨S, h1, h2, h3, h4⟩ := h
  have le : ∀ p ∈ S, p.2 ≤ a := fun p hp => by
    cases hx : x.1 with
    | none => rw [hx] at h4; rw [show S = [] from h4] at hp; cases hp
    | some e =>
      rw [hx] at h4 hf
      have := h4 p hp
      have := of_decide_eq_true (show decide (e ≤ a) = true from hf)
      omega
  refine ⟨S ++ [(a, b)], fun p hp => ?_, ?_, ?_, fun p hp => ?_⟩
  · rcases List.mem_append.mp hp with hp | hp
    · exact h1 p hp
    · rw [List.mem_singleton.mp hp]; exact hm
  · unfold Chain
    rw [List.pairwise_append]
    exact ⟨h2, by simp, fun p hp q hq => by rw [List.mem_singleton.mp hq]; exact le p hp⟩
  · unfold sumL at *
    rw [List.map_append, List.sum_append, ← h3]
    show x.2 + b - a = x.2 + ((b - a) + 0)
    omega
  · rcases List.mem_append.mp hp with hp | hp
    · have := le p hp; show p.2 ≤ b; omega
    · rw [List.mem_singleton.mp hp]; exact Int.le_refl _
theorem okN_enD (x : En) : okN 58 (enD x) := okN_tuple (by
  intro d hd
  rcases List.mem_cons.mp hd with rfl | hd
  · cases x.1; exact okN_none _; exact okN_int _ _
  · rw [List.mem_singleton.mp hd]; exact okN_int _ _)
/-- the table covers the spans done -/
def Cov (bl : List En) (dn : Sp2) : Prop := ∀ S : Sp2, (∀ p ∈ S, p ∈ dn) → Chain S → ∃ x ∈ bl, sumL S ≤ x.2 ∧ ∀ a, (∀ p ∈ S, p.2 ≤ a) → freeE x.1 a = true
theorem chain_last {S : Sp2} {q : Int × Int} (hC : Chain S) (hp : ∀ p ∈ S, p.1 < p.2) (hb : ∀ p ∈ S, p.2 ≤ q.2) (hq : q ∈ S) : ∃ T, S = T ++ [q] ∧ ∀ p ∈ T, p.2 ≤ q.1 := by
  obtain ⟨T, U, rfl⟩ := List.append_of_mem hq
  unfold Chain at hC
  rw [List.pairwise_append] at hC
  obtain ⟨_, h2, h3⟩ := hC
  rw [List.pairwise_cons] at h2
  have : U = [] := by
    cases U with
    | nil => rfl
    | cons u r =>
      have a1 := h2.1 u (List.mem_cons_self ..)
      have a2 := hp u (by simp)
      have a3 := hb u (by simp)
      omega
  subst this
  exact ⟨T, rfl, fun p hp => h3 p hp q (List.mem_cons_self ..)⟩
theorem sumL_app (S : Sp2) (q : Int × Int) : sumL (S ++ [q]) = sumL S + (q.2 - q.1) := by
  unfold sumL
  rw [List.map_append, List.sum_append]
  show _ + ((q.2 - q.1) + 0) = _
  omega
theorem Cov.more {bl : List En} {dn : Sp2} {a b w ah : Int} (h : Cov bl dn) (hab : a < b) (hd : ∀ p ∈ dn, p.1 < p.2 ∧ p.2 ≤ b) (hah : ∀ x ∈ bl, freeE x.1 a = true → x.2 ≤ ah) (hw : ah + b - a ≤ w) : Cov (bl ++ [(some b, w)]) (dn ++ [(a, b)]) := by
  intro S h1 h2
  by_cases hq : (a, b) ∈ S
  · have hS : ∀ p ∈ S, p.1 < p.2 ∧ p.2 ≤ b := fun p hp => by
      rcases List.mem_append.mp (h1 p hp) with h | h
      · exact hd p h
      · rw [List.mem_singleton.mp h]; exact ⟨hab, Int.le_refl _⟩
    obtain ⟨T, rfl, hT⟩ := chain_last h2 (fun p hp => (hS p hp).1) (fun p hp => (hS p hp).2) hq
    have hT : ∀ p ∈ T, p.2 ≤ a := hT
    obtain ⟨x, x1, x2, x3⟩ := h T (fun p hp => by
      rcases List.mem_append.mp (h1 p (List.mem_append_left _ hp)) with h | h
      · exact h
      · have := hT p hp
        rw [List.mem_singleton.mp h] at this
        have : b ≤ a := this
        omega) (h2.sublist (List.sublist_append_left _ _))
    have := hah x x1 (x3 a hT)
    refine ⟨(some b, w), by simp, ?_, fun a' ha' => decide_eq_true (ha' (a, b) hq)⟩
    rw [sumL_app]
    show sumL T + (b - a) ≤ w
    omega
  · obtain ⟨x, x1, x2, x3⟩ := h S (fun p hp => by
      rcases List.mem_append.mp (h1 p hp) with h | h
      · exact h
      · rw [List.mem_singleton.mp h] at hp; exact absurd hp hq) h2
    exact ⟨x, List.mem_append_left _ x1, x2, x3⟩
theorem m_best_worth : ∀ ars Q0, ars.length = 1 → φ_best_worth ars Q0 → w_best_worth (envOf 7 ars) (retQ Q0) := by
  rintro ars Q0 - ⟨sp, rfl, hn, hp, hQ⟩
  have hL : LIM = 1000000 := rfl
  unfold w_best_worth
  refine ⟨(by decide : 2 ≤ 1000000), (by decide : 1 ≤ 1000000), ?_⟩
  change w_best_worth_4 [.val (spD sp), .own (.list [enD (none, 0)]), .emp, .emp, .emp, .emp, .emp] _
  unfold w_best_worth_4
  refine ⟨List.all_eq_true.mpr fun d hd => ?_, ok_list (okN_map fun p => okN_pD 58 p), rfl, ?_⟩
  · obtain ⟨p, _, rfl⟩ := List.mem_map.mp hd
    rfl
  rw [sortK_pairs]
  refine for_on pD (fun rest e => ∃ (bl : List En) (lst : En) (s2 s3 s4 : Sl), e = [.val (spD sp), .own (.list (bl.map enD)), s2, s3, s4, .emp, .emp] ∧ bl.head? = some (none, 0) ∧ bl.getLast? = some lst ∧ (∀ x ∈ bl, EnOk sp x) ∧
      (∀ x, lst.1 = some x → ∀ p ∈ rest, x ≤ p.2) ∧ (∀ p ∈ rest, p ∈ sp) ∧ rest.Pairwise (fun p q => p.2 ≤ q.2) ∧ bl.length + rest.length ≤ sp.length + 1 ∧ (∀ x ∈ bl, x.2 ≤ lst.2) ∧ ∃ dn, dn ++ rest = sortP sp ∧ Cov bl dn) (sortP sp) _
    ⟨[(none, 0)], (none, 0), .emp, .emp, .emp, rfl, rfl, rfl, fun x hx => ?_, fun x hx => (by cases hx), fun p hp => sortP_mem.mp hp, sortP_sorted sp, by rw [sortP_len]; simp; omega, fun x hx => (by rw [List.mem_singleton.mp hx]; exact Int.le_refl _), [], rfl, fun S h1 h2 => ⟨(none, 0), by simp, by cases S with | nil => exact Int.le_refl 0 | cons p r => exact absurd (h1 p (List.mem_cons_self ..)) (by simp), fun a _ => rfl⟩⟩ ?_ ?_
  · rw [List.mem_singleton.mp hx]
    exact ⟨[], by simp, List.Pairwise.nil, rfl, rfl⟩
  · rintro e ⟨bl, lst, s2, s3, s4, rfl, h1, h2, h3, h4, h5, h6, h7, h8, dn, h9, h10⟩
    rw [List.append_nil] at h9
    unfold w_best_worth_3
    have i1 : atI (bl.map enD) (-1) = some (.tuple [oeD lst.1, .int lst.2]) := by rw [atI_neg1, List.getLast?_map, h2]; rfl
    refine onS_of i1 ?_
    refine (?_ : Q0 (.int lst.2))
    obtain ⟨S, g1, g2, g3, _⟩ := h3 lst (List.mem_of_getLast? h2)
    refine hQ _ ⟨S, g1, g2, g3⟩ fun T t1 t2 => ?_
    obtain ⟨x, x1, x2, _⟩ := h10 T (fun p hp => by rw [h9]; exact sortP_mem.mpr (t1 p hp)) t2
    have := h8 x x1
    omega
  · rintro ⟨a, b⟩ r e ⟨bl, lst, s2, s3, s4, rfl, h1, h2, h3, h4, h5, h6, h7, h8, dn, h9, h10⟩ K hK
    rw [List.length_cons] at h7
    rw [List.pairwise_cons] at h6
    have hm := h5 (a, b) (List.mem_cons_self ..)
    have hab := hp _ hm
    refine ⟨rfl, rfl, ?_⟩
    change w_best_worth_2 [.val (spD sp), .own (.list (bl.map enD)), .val (.int a), .val (.int b), s4, .emp, .emp] K
    unfold w_best_worth_2
    refine ⟨rfl, rfl, comp_on enD (fun x => freeE x.1 a) (fun x => iD x.2) (wt1 rfl) bl [] (by rw [List.length_nil]; omega) (fun x hx Qt Qf q1 q2 => ⟨rfl, rfl, ?inn⟩) ?out⟩
    case inn =>
      obtain ⟨e, w⟩ := x
      cases e with
      | none => exact ⟨rfl, fun _ => ⟨fun _ => q1 rfl _ rfl, fun h => no_true h⟩, fun h => no_true h⟩
      | some e => exact ⟨rfl, fun h => no_false h, fun _ => ⟨fun h => q1 h _ rfl, fun h => q2 h _ rfl⟩⟩
    case out =>
      rw [List.nil_append]
      obtain ⟨bl', ebl⟩ : ∃ bl', bl = (none, 0) :: bl' := by
        cases bl with
        | nil => cases h1
        | cons x r => cases h1; exact ⟨r, rfl⟩
      have ef : (bl.filter fun x => freeE x.1 a).map (fun x => iD x.2) = iD 0 :: ((bl'.filter fun x => freeE x.1 a).map (·.2)).map iD := by
        rw [ebl, List.filter_cons_of_pos rfl, List.map_cons, List.map_map]; rfl
      rw [ef]
      refine ⟨by rw [← List.map_cons]; exact alikeAll_ints _, ok_list (by rw [← List.map_cons]; exact okN_map fun i => okN_int _ _), ?_⟩
      rw [maxD_ints]
      obtain ⟨ah, eah⟩ : ∃ ah, ah = maxI 0 ((bl'.filter fun x => freeE x.1 a).map (·.2)) := ⟨_, rfl⟩
      have hah : ∃ x ∈ bl, freeE x.1 a = true ∧ x.2 = ah := by
        rcases List.mem_cons.mp (maxI_mem 0 ((bl'.filter fun x => freeE x.1 a).map (·.2))) with h | h
        · exact ⟨(none, 0), by rw [ebl]; simp, rfl, by rw [eah, h]⟩
        · obtain ⟨x, hx, ex⟩ := List.mem_map.mp h
          obtain ⟨g1, g2⟩ := List.mem_filter.mp hx
          exact ⟨x, by rw [ebl]; exact List.mem_cons_of_mem _ g1, g2, by rw [eah, ex]⟩
      have hup : ∀ x ∈ bl, freeE x.1 a = true → x.2 ≤ ah := fun x hx hf => by
        rw [eah]
        refine maxI_le _ _ _ ?_
        rw [ebl] at hx
        rcases List.mem_cons.mp hx with rfl | hx
        · exact List.mem_cons_self ..
        · exact List.mem_cons_of_mem _ (List.mem_map.mpr ⟨x, List.mem_filter.mpr ⟨hx, hf⟩, rfl⟩)
      rw [← eah]
      change w_best_worth_1 [.val (spD sp), .own (.list (bl.map enD)), .val (.int a), .val (.int b), .val (.int ah), .emp, .emp] K
      unfold w_best_worth_1
      have i1 : atI (bl.map enD) (-1) = some (.tuple [oeD lst.1, .int lst.2]) := by rw [atI_neg1, List.getLast?_map, h2]; rfl
      refine onS_of i1 ?_
      refine ⟨(by decide : 2 ≤ 1000000), by rw [List.length_map]; omega, ?_⟩
      refine hK _ ⟨bl ++ [(some b, if ah + b - a > lst.2 then ah + b - a else lst.2)], (some b, if ah + b - a > lst.2 then ah + b - a else lst.2), .val (.int a), .val (.int b), .val (.int ah), ?_, ?_, by rw [List.getLast?_append]; rfl, fun x hx => ?_, fun x hx p hp => ?_, fun p hp => h5 p (List.mem_cons_of_mem _ hp), h6.2, by rw [List.length_append]; simp; omega, fun x hx => ?_, dn ++ [(a, b)], by rw [← h9, List.append_assoc]; rfl, h10.more hab ?_ hup ?_⟩
      · rw [List.map_append]; rfl
      · rw [ebl]; rfl
      · rcases List.mem_append.mp hx with hx | hx
        · exact h3 x hx
        · rw [List.mem_singleton.mp hx]
          by_cases hc : ah + b - a > lst.2
          · rw [if_pos hc]
            obtain ⟨y, y1, y2, y3⟩ := hah
            rw [← y3]
            exact (h3 y y1).more hm hab y2
          · rw [if_neg hc]
            exact (h3 lst (List.mem_of_getLast? h2)).later fun e he => h4 e he (a, b) (List.mem_cons_self ..)
      · cases hx
        exact h6.1 p hp
      · rcases List.mem_append.mp hx with hx | hx
        · have := h8 x hx
          show x.2 ≤ (if ah + b - a > lst.2 then ah + b - a else lst.2)
          split <;> omega
        · rw [List.mem_singleton.mp hx]; exact Int.le_refl _
      · intro p hp'
        have hs := sortP_sorted sp
        rw [← h9, List.pairwise_append] at hs
        exact ⟨hp p (sortP_mem.mp (by rw [← h9]; exact List.mem_append_left _ hp')), hs.2.2 p hp' (a, b) (List.mem_cons_self ..)⟩
      · split <;> omega
end k58

namespace k58
open PySem PySem.Spec PyProof.Rows L2 VL
/-! ### _law_best -/
theorem pow_int (c : Nat) : (1 * 2 ^ ((c : Nat) : Int).toNat : Int) = ((2 ^ c : Nat) : Int) := by rw [Int.toNat_natCast, Int.one_mul, Int.natCast_pow]; rfl
def sub (sp : Sp2) (lot : List Nat) : Sp2 := lot.map fun i => (begOf sp i, endOf sp i)
def szOf (sz : List Int) (i : Nat) : Int := sz[i]?.getD 0
def tot (sz : List Int) (lot : List Nat) : Int := (lot.map (szOf sz)).sum
def bitOn (code i : Nat) : Bool := decide (code / 2 ^ i % 2 = 1)
def lotOf (n code : Nat) : List Nat := (List.range n).filter (bitOn code)
theorem ix_sz {sz : List Int} {i : Nat} (h : i < sz.length) : atI (sz.map iD) (i : Int) = some (.int (szOf sz i)) := by
  rw [atI_map, List.getElem?_eq_getElem h]
  unfold szOf
  rw [List.getElem?_eq_getElem h]
  rfl
theorem lotOf_lt {n code i : Nat} (h : i ∈ lotOf n code) : i < n := List.mem_range.mp (List.mem_filter.mp h).1
theorem lotOf_len (n code : Nat) : (lotOf n code).length ≤ n := by
  have := List.length_filter_le (bitOn code) (List.range n)
  rw [List.length_range] at this; exact this
theorem lotOf_sub (n code : Nat) : (lotOf n code).Sublist (List.range n) := List.filter_sublist
/-- every lot has a code -/
theorem code_of : ∀ (n : Nat) (lot : List Nat), lot.Sublist (List.range n) → ∃ code, code < 2 ^ n ∧ lotOf n code = lot
  | 0, lot, h => ⟨0, by decide, by
      have : lot = [] := List.sublist_nil.mp h
      subst this; rfl⟩
  | n + 1, lot, h => by
    rw [List.range_succ] at h
    obtain ⟨l1, l2, rfl, h1, h2⟩ := List.sublist_append_iff.mp h
    obtain ⟨c, hc, ec⟩ := code_of n l1 h1
    have hp := Nat.two_pow_pos n
    have e2 : l2 = [] ∨ l2 = [n] := by
      cases h2 with
      | cons _ h => exact .inl (List.sublist_nil.mp h)
      | cons_cons _ h => exact .inr (by rw [List.sublist_nil.mp h])
    rcases e2 with rfl | rfl
    · refine ⟨c, by rw [Nat.pow_succ]; omega, ?_⟩
      unfold lotOf at *
      rw [List.range_succ, List.filter_append, ec]
      have : bitOn c n = false := by
        unfold bitOn
        rw [Nat.div_eq_of_lt hc]; rfl
      simp [this]
    · refine ⟨c + 2 ^ n, by rw [Nat.pow_succ]; omega, ?_⟩
      unfold lotOf at *
      rw [List.range_succ, List.filter_append]
      have e1 : bitOn (c + 2 ^ n) n = true := by
        unfold bitOn
        rw [Nat.add_div_right _ hp, Nat.div_eq_of_lt hc]; rfl
      have e2 : (List.range n).filter (bitOn (c + 2 ^ n)) = (List.range n).filter (bitOn c) := by
        refine List.filter_congr fun i hi => ?_
        have hi := List.mem_range.mp hi
        unfold bitOn
        have e : 2 ^ n = 2 ^ i * (2 * 2 ^ (n - i - 1)) := by
          rw [← Nat.mul_assoc, ← Nat.pow_succ, ← Nat.pow_add]
          congr 1
          omega
        rw [e, Nat.add_mul_div_left _ _ (Nat.two_pow_pos i), Nat.add_mul_mod_self_left]
      rw [e2, ec]
      simp [e1]
def BestOf (sp : Sp2) (sz : List Int) (w : Int) : Prop := (w = 0 ∨ ∃ lot : List Nat, lot.Sublist (List.range sp.length) ∧ lawAt (sub sp lot) < 2 ∧ w = tot sz lot) ∧ 0 ≤ w ∧
  ∀ lot : List Nat, lot.Sublist (List.range sp.length) → lawAt (sub sp lot) < 2 → tot sz lot ≤ w
def φ__law_best : FS := fun as Q => ∃ (sp : Sp2) (sz : List Int), as = [.val (spD sp), .val (.list (sz.map iD))] ∧ sp.length ≤ 12 ∧ sz.length = sp.length ∧ ∀ w, BestOf sp sz w → Q (.int w)
theorem l__law_best : ∀ as Q, φ__law_best as Q → as.length = 2 := by
  rintro as Q ⟨sp, sz, rfl, _⟩; rfl
theorem m__law_best : ∀ ars Q0, ars.length = 2 → φ__law_best ars Q0 → w__law_best φ__law_at_once (envOf 8 ars) (retQ Q0) := by
  rintro ars Q0 - ⟨sp, sz, rfl, hn, hz, hQ⟩
  have hL : LIM = 1000000 := rfl
  unfold w__law_best
  have p12 : (2 : Nat) ^ sp.length ≤ 2 ^ 12 := Nat.pow_le_pow_right (by omega) hn
  show w__law_best_5 _ [.val (spD sp), .val (.list (sz.map iD)), .val (.int 0), .val (.int (((sp.map pD).length : Nat) : Int)), .emp, .emp, .emp, .emp] _
  rw [List.length_map]
  unfold w__law_best_5
  refine ⟨⟨by omega, by omega, by decide⟩, ?_⟩
  rw [pow_int]
  refine ⟨big_n (by omega), rfl, ?_⟩
  rw [Int.toNat_natCast, rangeD_zero]
  refine for_on nD (fun rest e => ∃ (best : Int) (s4 s5 s6 : Sl) (dn : List Nat), e = [.val (spD sp), .val (.list (sz.map iD)), .val (.int best), .val (.int (sp.length : Int)), s4, s5, s6, .emp] ∧ dn ++ rest = List.range (2 ^ sp.length) ∧
    (best = 0 ∨ ∃ lot : List Nat, lot.Sublist (List.range sp.length) ∧ lawAt (sub sp lot) < 2 ∧ best = tot sz lot) ∧ 0 ≤ best ∧ ∀ code ∈ dn, lawAt (sub sp (lotOf sp.length code)) < 2 → tot sz (lotOf sp.length code) ≤ best) (List.range (2 ^ sp.length)) _
    ⟨0, .emp, .emp, .emp, [], rfl, rfl, .inl rfl, Int.le_refl 0, fun c hc => by cases hc⟩ ?fin ?step
  case fin =>
    rintro e ⟨best, s4, s5, s6, dn, rfl, h1, h2, h3, h4⟩
    unfold w__law_best_4
    refine (?_ : Q0 (.int best))
    refine hQ best ⟨h2, h3, fun lot g1 g2 => ?_⟩
    obtain ⟨code, hc, rfl⟩ := code_of _ lot g1
    rw [List.append_nil] at h1
    exact h4 code (by rw [h1]; exact List.mem_range.mpr hc) g2
  case step =>
    rintro code r e ⟨best, s4, s5, s6, dn, rfl, h1, h2, h3, h4⟩ K hK
    change w__law_best_3 _ [.val (spD sp), .val (.list (sz.map iD)), .val (.int best), .val (.int (sp.length : Int)), .val (.int (code : Int)), s5, s6, .emp] K
    unfold w__law_best_3
    refine ⟨big_n (by omega), ?_⟩
    rw [Int.toNat_natCast, rangeD_zero]
    refine ⟨rfl, rfl, comp_on nD (bitOn code) nD wtNil (List.range sp.length) [] (by rw [List.length_nil, List.length_range]; omega) (fun i h Qt Qf q1 q2 => ?inn) ?out⟩
    case inn =>
      have hi := List.mem_range.mp h
      have pi : (2 : Nat) ^ i ≤ 2 ^ 12 := Nat.pow_le_pow_right (by omega) (by omega)
      have pp := Nat.two_pow_pos i
      have ep := pow_int i
      have ev : ((code : Int) / (1 * 2 ^ ((i : Nat) : Int).toNat) % 2) = ((code / 2 ^ i % 2 : Nat) : Int) := by
        rw [ep, Int.natCast_emod, Int.natCast_ediv]; rfl
      refine ⟨⟨by omega, by omega, by decide⟩, ⟨by omega, .inl (by omega)⟩, by decide, rfl, rfl, ?_⟩
      show (PyData.eqv (.int ((code : Int) / (1 * 2 ^ ((i : Nat) : Int).toNat) % 2)) (.int 1) = true → _) ∧ (PyData.eqv (.int ((code : Int) / (1 * 2 ^ ((i : Nat) : Int).toNat) % 2)) (.int 1) = false → _)
      rw [ev, show PyData.eqv (.int ((code / 2 ^ i % 2 : Nat) : Int)) (.int 1) = bitOn code i from eqv_nn _ _]
      exact ⟨fun h => q1 h _ rfl, fun h => q2 h _ rfl⟩
    case out =>
    rw [List.nil_append]
    change w__law_best_2 _ [.val (spD sp), .val (.list (sz.map iD)), .val (.int best), .val (.int (sp.length : Int)), .val (.int (code : Int)), .own (.list ((lotOf sp.length code).map nD)), s6, .emp] K
    have ll := lotOf_len sp.length code
    unfold w__law_best_2
    refine ⟨rfl, rfl, comp_on nD (fun _ => true) (fun i => iD (szOf sz i)) (wt1 rfl) (lotOf sp.length code) [] (by rw [List.length_nil]; omega) (fun i h Qt Qf q1 q2 => ⟨fun _ => ?inn, fun h => no_true h⟩) ?out⟩
    case inn =>
      refine onS_of (ix_sz (by rw [hz]; exact lotOf_lt h)) ?_
      exact q1 rfl _ rfl
    case out =>
    rw [List.nil_append, List.filter_eq_self.mpr (fun _ _ => rfl)]
    refine onS_of (ints_map (szOf sz) (lotOf sp.length code)) ?_
    change w__law_best_1 _ [.val (spD sp), .val (.list (sz.map iD)), .val (.int best), .val (.int (sp.length : Int)), .val (.int (code : Int)), .own (.list ((lotOf sp.length code).map nD)), .val (.int (tot sz (lotOf sp.length code))), .emp] K
    have hK' : ∀ best', (best' = best ∨ (best' = tot sz (lotOf sp.length code) ∧ lawAt (sub sp (lotOf sp.length code)) < 2)) → best ≤ best' → (lawAt (sub sp (lotOf sp.length code)) < 2 → tot sz (lotOf sp.length code) ≤ best') →
        K .nx [.val (spD sp), .val (.list (sz.map iD)), .val (.int best'), .val (.int (sp.length : Int)), .val (.int (code : Int)), .own (.list ((lotOf sp.length code).map nD)), .val (.int (tot sz (lotOf sp.length code))), .emp] := fun best' g1 g2 g3 => by
      refine hK _ ⟨best', _, _, _, dn ++ [code], rfl, by rw [← h1, List.append_assoc]; rfl, ?_, by omega, fun c hc hf => ?_⟩
      · rcases g1 with rfl | ⟨rfl, g⟩
        · exact h2
        · exact .inr ⟨_, lotOf_sub _ _, g, rfl⟩
      · rcases List.mem_append.mp hc with hc | hc
        · have := h4 c hc hf; omega
        · rw [List.mem_singleton.mp hc] at hf ⊢
          exact g3 hf
    unfold w__law_best_1
    refine ⟨fun hb => ?_, fun hb => ⟨fun h => no_false h, fun _ => hK' best (.inl rfl) (Int.le_refl _) fun _ => ?_⟩⟩
    · have hb := of_decide_eq_true hb
      refine ⟨rfl, rfl, comp_on nD (fun _ => true) (fun i => pD (begOf sp i, endOf sp i)) (wt1 rfl) (lotOf sp.length code) [] (by rw [List.length_nil]; omega) (fun i h Qt Qf q1 q2 => ⟨fun _ => ?inn, fun h => no_true h⟩) ?out⟩
      case inn => exact onS_of (ix_sp (lotOf_lt h)) (q1 rfl _ rfl)
      case out =>
      rw [List.nil_append, List.filter_eq_self.mpr (fun _ _ => rfl)]
      refine ⟨sub sp (lotOf sp.length code), ?_, by unfold sub; rw [List.length_map]; omega, fun hf => ?_, fun hf => ?_⟩
      · unfold sub; rw [List.map_map]; rfl
      · have hf := of_decide_eq_true hf
        exact hK' _ (.inr ⟨rfl, hf⟩) (by omega) fun _ => Int.le_refl _
      · have hf := of_decide_eq_false hf
        exact hK' best (.inl rfl) (Int.le_refl _) fun h => absurd h hf
    · have hb := of_decide_eq_false hb
      omega
end k58

namespace k58
open PySem PySem.Spec PyProof.Rows L2 VL
/-! ### at once, chains -/
theorem at_chain {T : Sp2} (hs : T.Pairwise fun p q => p.1 ≤ q.1) (hp : ∀ p ∈ T, p.1 < p.2) : lawAt T < 2 ↔ Chain T := by
  constructor
  · intro h
    refine List.pairwise_iff_forall_sublist.mpr fun {p q} hpq => ?_
    have hle : p.1 ≤ q.1 := List.pairwise_iff_forall_sublist.mp hs hpq
    have hq := hp q (hpq.subset (by simp))
    apply Classical.byContradiction
    intro hno
    have hf := hpq.filter (fun x => decide (x.1 ≤ q.1) && decide (q.1 < x.2))
    have e : ([p, q].filter fun x => decide (x.1 ≤ q.1) && decide (q.1 < x.2)) = [p, q] := by
      refine List.filter_eq_self.mpr fun x hx => ?_
      rw [Bool.and_eq_true, decide_eq_true_eq, decide_eq_true_eq]
      rcases List.mem_cons.mp hx with rfl | hx
      · omega
      · rw [List.mem_singleton.mp hx]; omega
    rw [e] at hf
    have hl := hf.length_le
    have := maxI_le 0 (T.map fun p => (((T.filter fun q => decide (q.1 ≤ p.1) && decide (p.1 < q.2)).length : Nat) : Int)) _ (List.mem_cons_of_mem _ (List.mem_map.mpr ⟨q, hpq.subset (by simp), rfl⟩))
    unfold lawAt at h
    simp only [List.length_cons, List.length_nil] at hl
    omega
  · intro h
    unfold lawAt
    rcases List.mem_cons.mp (maxI_mem 0 (T.map fun p => (((T.filter fun q => decide (q.1 ≤ p.1) && decide (p.1 < q.2)).length : Nat) : Int))) with e | e
    · omega
    · obtain ⟨p, hpT, e⟩ := List.mem_map.mp e
      rw [← e]
      have hc : Chain (T.filter fun q => decide (q.1 ≤ p.1) && decide (p.1 < q.2)) := h.sublist List.filter_sublist
      have hm : ∀ x ∈ (T.filter fun q => decide (q.1 ≤ p.1) && decide (p.1 < q.2)), x.1 ≤ p.1 ∧ p.1 < x.2 := fun x hx => by
        have := (List.mem_filter.mp hx).2
        rw [Bool.and_eq_true, decide_eq_true_eq, decide_eq_true_eq] at this
        exact this
      generalize (T.filter fun q => decide (q.1 ≤ p.1) && decide (p.1 < q.2)) = F at hc hm
      match F, hc, hm with
      | [], _, _ => show ((0 : Nat) : Int) < 2; omega
      | [x], _, _ => show ((1 : Nat) : Int) < 2; omega
      | x :: y :: r, hc, hm =>
        unfold Chain at hc
        rw [List.pairwise_cons] at hc
        have a1 := hc.1 y (List.mem_cons_self ..)
        have a2 := hm x (by simp)
        have a3 := hm y (by simp)
        omega
/-! ### lots and spans -/
structure Ok (sp : Sp2) : Prop where
  s : ∀ i j, i ≤ j → j < sp.length → begOf sp i ≤ begOf sp j
  p : ∀ i, i < sp.length → begOf sp i < endOf sp i
theorem ok_of {sp : Sp2} (h1 : sp.Pairwise fun p q => p.1 ≤ q.1) (h2 : ∀ p ∈ sp, p.1 < p.2) : Ok sp := by
  refine ⟨fun i j hij hj => ?_, fun i hi => ?_⟩
  · unfold begOf
    rw [List.getElem?_eq_getElem (by omega), List.getElem?_eq_getElem hj]
    by_cases e : i = j
    · subst e; exact Int.le_refl _
    · exact (List.pairwise_iff_getElem.mp h1) i j (by omega) hj (by omega)
  · unfold begOf endOf
    rw [List.getElem?_eq_getElem hi]
    exact h2 _ (List.getElem_mem hi)
theorem in_sp {sp : Sp2} {p : Int × Int} (h : p ∈ sp) : ∃ i, i < sp.length ∧ p = (begOf sp i, endOf sp i) := by
  obtain ⟨i, hi, e⟩ := List.mem_iff_getElem.mp h
  refine ⟨i, hi, ?_⟩
  rw [← e]
  unfold begOf endOf
  rw [List.getElem?_eq_getElem hi]; rfl
theorem sp_in {sp : Sp2} {i : Nat} (hi : i < sp.length) : (begOf sp i, endOf sp i) ∈ sp := by
  have e : sp[i] = (begOf sp i, endOf sp i) := by unfold begOf endOf; rw [List.getElem?_eq_getElem hi]; rfl
  rw [← e]; exact List.getElem_mem hi
theorem lot_lt {n : Nat} {lot : List Nat} (h : lot.Sublist (List.range n)) {i : Nat} (hi : i ∈ lot) : i < n := List.mem_range.mp (h.subset hi)
theorem sub_sorted {sp : Sp2} (ok : Ok sp) {lot : List Nat} (h : lot.Sublist (List.range sp.length)) : (sub sp lot).Pairwise fun p q => p.1 ≤ q.1 := by
  unfold sub
  rw [List.pairwise_map]
  have : lot.Pairwise (· < ·) := List.pairwise_lt_range.sublist h
  exact this.imp_of_mem fun {i j} hi hj hij => ok.s i j (Nat.le_of_lt hij) (lot_lt h hj)
theorem sub_pos {sp : Sp2} (ok : Ok sp) {lot : List Nat} (h : lot.Sublist (List.range sp.length)) : ∀ p ∈ sub sp lot, p.1 < p.2 := fun p hp => by
  obtain ⟨i, hi, rfl⟩ := List.mem_map.mp hp
  exact ok.p i (lot_lt h hi)
theorem fit_chain {sp : Sp2} (ok : Ok sp) {lot : List Nat} (h : lot.Sublist (List.range sp.length)) : lawAt (sub sp lot) < 2 ↔ Chain (sub sp lot) := at_chain (sub_sorted ok h) (sub_pos ok h)
theorem up_sub : ∀ (n k : Nat) (l : List Nat), l.Pairwise (· < ·) → (∀ i ∈ l, k ≤ i ∧ i < k + n) → l.Sublist (List.range' k n)
  | 0, k, l, _, h => by
    cases l with
    | nil => exact List.Sublist.refl _
    | cons x r => have := h x (List.mem_cons_self ..); omega
  | n + 1, k, [], _, _ => List.nil_sublist _
  | n + 1, k, x :: r, hp, h => by
    rw [List.range'_succ]
    rw [List.pairwise_cons] at hp
    have hx := h x (List.mem_cons_self ..)
    by_cases e : x = k
    · subst e
      exact (up_sub n (x + 1) r hp.2 fun i hi => by have := hp.1 i hi; have := h i (List.mem_cons_of_mem _ hi); omega).cons_cons x
    · refine (up_sub n (k + 1) (x :: r) (List.pairwise_cons.mpr hp) fun i hi => ?_).cons k
      have := h i hi
      rcases List.mem_cons.mp hi with rfl | hi
      · omega
      · have := hp.1 i hi; omega
/-- a chain of spans is a lot -/
theorem chain_lot {sp : Sp2} (ok : Ok sp) : ∀ S : Sp2, (∀ p ∈ S, p ∈ sp) → Chain S → ∃ lot : List Nat, lot.Pairwise (· < ·) ∧ (∀ i ∈ lot, i < sp.length) ∧ sub sp lot = S
  | [], _, _ => ⟨[], List.Pairwise.nil, (fun i hi => by cases hi), rfl⟩
  | p :: r, h, hC => by
    unfold Chain at hC
    rw [List.pairwise_cons] at hC
    obtain ⟨lot, h1, h2, h3⟩ := chain_lot ok r (fun q hq => h q (List.mem_cons_of_mem _ hq)) hC.2
    obtain ⟨i, hi, e⟩ := in_sp (h p (List.mem_cons_self ..))
    refine ⟨i :: lot, List.pairwise_cons.mpr ⟨fun j hj => ?_, h1⟩, fun j hj => ?_, ?_⟩
    · have hq : (begOf sp j, endOf sp j) ∈ r := by rw [← h3]; exact List.mem_map.mpr ⟨j, hj, rfl⟩
      have a1 := hC.1 _ hq
      have a2 := ok.p i hi
      rw [e] at a1
      have a1 : endOf sp i ≤ begOf sp j := a1
      apply Classical.byContradiction
      intro hno
      have := ok.s j i (by omega) hi
      omega
    · rcases List.mem_cons.mp hj with rfl | hj
      · exact hi
      · exact h2 j hj
    · unfold sub at *
      rw [List.map_cons, h3, e]
theorem chain_sublot {sp : Sp2} (ok : Ok sp) {S : Sp2} (h : ∀ p ∈ S, p ∈ sp) (hC : Chain S) : ∃ lot : List Nat, lot.Sublist (List.range sp.length) ∧ sub sp lot = S := by
  obtain ⟨lot, h1, h2, h3⟩ := chain_lot ok S h hC
  refine ⟨lot, ?_, h3⟩
  rw [List.range_eq_range']
  exact up_sub _ _ _ h1 fun i hi => ⟨Nat.zero_le _, by have := h2 i hi; omega⟩
theorem tot_worth {sp : Sp2} {sz : List Int} (hz : ∀ i, i < sp.length → szOf sz i = endOf sp i - begOf sp i) : ∀ lot : List Nat, (∀ i ∈ lot, i < sp.length) → tot sz lot = worth sp lot := fun lot h => by
  unfold tot worth
  rw [List.map_congr_left fun i hi => hz i (h i hi)]
theorem sumL_sub (sp : Sp2) (lot : List Nat) : sumL (sub sp lot) = worth sp lot := by
  unfold sumL sub worth
  rw [List.map_map]; rfl
/-- the table's best is the best of all lots -/
theorem best_eq {sp : Sp2} (ok : Ok sp) {sz : List Int} (hz : ∀ i, i < sp.length → szOf sz i = endOf sp i - begOf sp i) {w b : Int} (h1 : Att sp w) (h2 : ∀ S : Sp2, (∀ p ∈ S, p ∈ sp) → Chain S → sumL S ≤ w) (hb : BestOf sp sz b) : w = b := by
  have a1 : w ≤ b := by
    obtain ⟨S, g1, g2, rfl⟩ := h1
    obtain ⟨lot, l1, l2⟩ := chain_sublot ok g1 g2
    have := hb.2.2 lot l1 ((fit_chain ok l1).mpr (by rw [l2]; exact g2))
    rw [tot_worth hz lot fun i hi => lot_lt l1 hi, ← sumL_sub, l2] at this
    exact this
  have a2 : b ≤ w := by
    rcases hb.1 with rfl | ⟨lot, l1, l2, rfl⟩
    · exact h2 [] (fun p hp => by cases hp) List.Pairwise.nil
    · rw [tot_worth hz lot fun i hi => lot_lt l1 hi, ← sumL_sub]
      refine h2 _ (fun p hp => ?_) ((fit_chain ok l1).mp l2)
      obtain ⟨i, hi, rfl⟩ := List.mem_map.mp hp
      exact sp_in (lot_lt l1 hi)
  omega
/-! ### the greedy way -/
theorem sumL_cons (p : Int × Int) (S : Sp2) : sumL (p :: S) = (p.2 - p.1) + sumL S := rfl
theorem chain_sum : ∀ (S : Sp2) (s u : Int), Chain S → (∀ p ∈ S, s ≤ p.1 ∧ p.1 < p.2 ∧ p.2 ≤ u) → s ≤ u → sumL S ≤ u - s
  | [], s, u, _, _, h => by show (0 : Int) ≤ u - s; omega
  | p :: r, s, u, hc, h, hs => by
    unfold Chain at hc
    rw [List.pairwise_cons] at hc
    obtain ⟨h1, h2, h3⟩ := h p (List.mem_cons_self ..)
    have := chain_sum r p.2 u hc.2 (fun q hq => ⟨hc.1 q hq, (h q (List.mem_cons_of_mem _ hq)).2⟩) h3
    rw [sumL_cons]; omega
theorem sumL_split (P : Int × Int → Bool) : ∀ S : Sp2, sumL S = sumL (S.filter P) + sumL (S.filter fun p => !P p)
  | [] => rfl
  | p :: r => by
    have ih := sumL_split P r
    cases h : P p with
    | true => rw [List.filter_cons_of_pos h, List.filter_cons_of_neg (by rw [h]; exact Bool.false_ne_true), sumL_cons, sumL_cons, ih]; omega
    | false => rw [List.filter_cons_of_neg (by rw [h]; exact Bool.false_ne_true), List.filter_cons_of_pos (by rw [h]; rfl), sumL_cons, sumL_cons, ih]; omega
theorem len_split (P : Int × Int → Bool) : ∀ S : Sp2, S.length = (S.filter P).length + (S.filter fun p => !P p).length
  | [] => rfl
  | p :: r => by
    have ih := len_split P r
    cases h : P p with
    | true => rw [List.filter_cons_of_pos h, List.filter_cons_of_neg (by rw [h]; exact Bool.false_ne_true), List.length_cons, List.length_cons, ih]; omega
    | false => rw [List.filter_cons_of_neg (by rw [h]; exact Bool.false_ne_true), List.filter_cons_of_pos (by rw [h]; rfl), List.length_cons, List.length_cons, ih]; omega
theorem one_less {t d : Int} (ht : 1 ≤ t) (hd : 1 ≤ d) : t - 1 + d ≤ d * t := by
  have := Int.mul_nonneg (show 0 ≤ d - 1 by omega) (show 0 ≤ t - 1 by omega)
  rw [Int.sub_mul, Int.mul_sub, Int.mul_one, Int.one_mul] at this
  omega
theorem greedy {sp : Sp2} {d : Int} (hd : 1 ≤ d) : ∀ (L : List Nat) (en : Option Int) (S : Sp2), L.Pairwise (fun i j => begOf sp i ≤ begOf sp j) → (∀ i ∈ L, begOf sp i < endOf sp i ∧ endOf sp i - begOf sp i ≤ d) → Chain S →
    (∀ p ∈ S, ∃ i ∈ L, p = (begOf sp i, endOf sp i)) → (∀ x, en = some x → ∀ p ∈ S, x ≤ p.1) → sumL S ≤ d * worth sp (tkn sp L en) ∧ ((∀ i ∈ L, endOf sp i - begOf sp i = d) → S.length ≤ (tkn sp L en).length)
  | [], en, S, _, _, _, hS, _ => by
    have : S = [] := by
      cases S with
      | nil => rfl
      | cons p r => obtain ⟨i, hi, _⟩ := hS p (List.mem_cons_self ..); cases hi
    subst this
    exact ⟨by show (0 : Int) ≤ d * 0; omega, fun _ => Nat.le_refl _⟩
  | i :: r, en, S, hs, hc, hC, hS, hen => by
    rw [List.pairwise_cons] at hs
    obtain ⟨hi, ci⟩ := hc i (List.mem_cons_self ..)
    by_cases hf : freeE en (begOf sp i) = true
    · have e : tkn sp (i :: r) en = i :: tkn sp r (some (endOf sp i)) := if_pos hf
      rw [e]
      have ew : worth sp (i :: tkn sp r (some (endOf sp i))) = (endOf sp i - begOf sp i) + worth sp (tkn sp r (some (endOf sp i))) := rfl
      rw [ew, sumL_split (fun p => decide (p.1 < endOf sp i)) S, len_split (fun p => decide (p.1 < endOf sp i)) S]
      have M : ∀ p ∈ S.filter (fun p => decide (p.1 < endOf sp i)), ∃ j ∈ i :: r, p = (begOf sp j, endOf sp j) ∧ begOf sp i ≤ begOf sp j ∧ begOf sp j < endOf sp i := fun p hp => by
        obtain ⟨h1, h2⟩ := List.mem_filter.mp hp
        have h2 := of_decide_eq_true h2
        obtain ⟨j, hj, ep⟩ := hS p h1
        have hbj : begOf sp i ≤ begOf sp j := by
          rcases List.mem_cons.mp hj with rfl | hj
          · exact Int.le_refl _
          · exact hs.1 j hj
        rw [ep] at h2
        exact ⟨j, hj, ep, hbj, h2⟩
      have CF : Chain (S.filter fun p => decide (p.1 < endOf sp i)) := hC.sublist List.filter_sublist
      have A : sumL (S.filter fun p => decide (p.1 < endOf sp i)) ≤ (endOf sp i - 1 + d) - begOf sp i := by
        refine chain_sum _ _ _ CF (fun p hp => ?_) (by omega)
        obtain ⟨j, hj, ep, b1, b2⟩ := M p hp
        have hcj := hc j hj
        rw [ep]
        show begOf sp i ≤ begOf sp j ∧ begOf sp j < endOf sp j ∧ endOf sp j ≤ _
        omega
      have A2 : (∀ i' ∈ i :: r, endOf sp i' - begOf sp i' = d) → (S.filter fun p => decide (p.1 < endOf sp i)).length ≤ 1 := fun he => by
        generalize (S.filter fun p => decide (p.1 < endOf sp i)) = F at CF M
        match F, CF, M with
        | [], _, _ => exact Nat.zero_le _
        | [x], _, _ => exact Nat.le_refl _
        | x :: y :: t, CF, M =>
          unfold Chain at CF
          rw [List.pairwise_cons] at CF
          have a1 := CF.1 y (List.mem_cons_self ..)
          obtain ⟨j, hj, e1, b1, b2⟩ := M x (by simp)
          obtain ⟨k, hk, e2, b3, b4⟩ := M y (by simp)
          have d1 := he j hj
          have d2 := he i (List.mem_cons_self ..)
          rw [e1, e2] at a1
          have a1 : endOf sp j ≤ begOf sp k := a1
          omega
      have B := greedy hd r (some (endOf sp i)) (S.filter fun p => !decide (p.1 < endOf sp i)) hs.2 (fun j hj => hc j (List.mem_cons_of_mem _ hj)) (hC.sublist List.filter_sublist) (fun p hp => by
        obtain ⟨h1, h2⟩ := List.mem_filter.mp hp
        obtain ⟨j, hj, ep⟩ := hS p h1
        rcases List.mem_cons.mp hj with rfl | hj
        · rw [ep] at h2
          simp at h2; omega
        · exact ⟨j, hj, ep⟩) (fun x hx p hp => by
        cases hx
        have h2 := (List.mem_filter.mp hp).2
        simp at h2; omega)
      refine ⟨?_, fun he => ?_⟩
      · rw [Int.mul_add]
        have := one_less (t := endOf sp i - begOf sp i) (by omega) hd
        omega
      · have := A2 he
        have := B.2 fun j hj => he j (List.mem_cons_of_mem _ hj)
        rw [List.length_cons]
        omega
    · have e : tkn sp (i :: r) en = tkn sp r en := if_neg hf
      rw [e]
      cases en with
      | none => exact absurd rfl hf
      | some x =>
        have hx : ¬ x ≤ begOf sp i := fun h => hf (decide_eq_true h)
        have B := greedy hd r (some x) S hs.2 (fun j hj => hc j (List.mem_cons_of_mem _ hj)) hC (fun p hp => by
          obtain ⟨j, hj, ep⟩ := hS p hp
          rcases List.mem_cons.mp hj with rfl | hj
          · have := hen x rfl p hp
            rw [ep] at this
            exact absurd this hx
          · exact ⟨j, hj, ep⟩) hen
        exact ⟨B.1, fun he => B.2 fun j hj => he j (List.mem_cons_of_mem _ hj)⟩
end k58

namespace k58
open PySem PySem.Spec PyProof.Rows L2 VL
theorem not_true {b : Bool} (h : (!b) = true) (hb : b = true) : False := by rw [hb] at h; cases h
theorem comp_sub {α : Type} {own : List Nat} {g : WG} {tt : WT} {te : WE} {wt : Wt} {e : VE} (F : α → D) (f : α → D) (hwt : WtOk e wt) {Q : List D → VE → Prop} : ∀ (xs : List α) (acc : List D), acc.length + xs.length ≤ LIM →
    (∀ x ∈ xs, ∀ (Qt : D → VE → Prop) (Qf : VE → Prop), (∀ e4, wipeE e4 own = e → Qt (f x) e4) → (∀ e2, wipeE e2 own = e → Qf e2) →
      g (F x) e fun e1 => tt e1 fun b e2 => (b = true → te e2 fun r e3 => onS (frz1 e3 r) fun q => Qt q.1 q.2) ∧ (b = false → Qf e2)) →
    (∀ ys : List α, ys.Sublist xs → Q (acc ++ ys.map f) e) → wCompW own g tt te wt (xs.map F) acc e Q
  | [], acc, _, _, h => ⟨hwt, by have := h [] (List.Sublist.refl _); rwa [List.map_nil, List.append_nil] at this⟩
  | x :: r, acc, hl, hs, h => by
    rw [List.length_cons] at hl
    refine ⟨hwt, hs x (List.mem_cons_self ..) (fun d e4 => acc.length < LIM ∧ wCompW own g tt te wt (r.map F) (acc ++ [d]) (wipeE e4 own) Q) (fun e2 => wCompW own g tt te wt (r.map F) acc (wipeE e2 own) Q) (fun e4 he => ⟨by omega, ?_⟩) fun e2 he => ?_⟩
    · rw [he]
      refine comp_sub F f hwt r _ (by rw [List.length_append]; show acc.length + 1 + _ ≤ _; omega) (fun y hy => hs y (List.mem_cons_of_mem _ hy)) fun ys hy => ?_
      have := h (x :: ys) (hy.cons_cons x)
      rwa [List.map_cons, List.append_cons] at this
    · rw [he]
      exact comp_sub F f hwt r _ (by omega) (fun y hy => hs y (List.mem_cons_of_mem _ hy)) fun ys hy => h ys (hy.cons x)

abbrev lens (sp : Sp2) : List Int := sp.map fun p => p.2 - p.1
theorem zip_range (sp : Sp2) : sp.zipIdx = (List.range sp.length).map fun i => ((begOf sp i, endOf sp i), i) := by
  apply List.ext_getElem?
  intro i
  rw [List.getElem?_zipIdx, List.getElem?_map]
  by_cases h : i < sp.length
  · rw [List.getElem?_range h, List.getElem?_eq_getElem h]
    unfold begOf endOf
    rw [Option.map_some, Option.map_some, List.getElem?_eq_getElem h, Nat.zero_add]; rfl
  · rw [List.getElem?_eq_none (by omega), List.getElem?_eq_none (by rw [List.length_range]; omega)]; rfl
theorem szOf_lens {sp : Sp2} : ∀ i, i < sp.length → szOf (lens sp) i = endOf sp i - begOf sp i := fun i hi => by
  unfold szOf lens begOf endOf
  rw [List.getElem?_map, List.getElem?_eq_getElem hi]; rfl
def frees (sp : Sp2) : List Nat := tkn sp (List.range sp.length) none
theorem frees_lt {sp : Sp2} {i : Nat} (h : i ∈ frees sp) : i < sp.length := List.mem_range.mp (tkn_sub sp _ _ i h)
theorem frees_len (sp : Sp2) : (frees sp).length ≤ sp.length := by
  have := tkn_len sp (List.range sp.length) none
  rw [List.length_range] at this; exact this
theorem keys_lens : ∀ xs : List Int, keysOf (xs.map fun x => PyData.tuple [iD x, iD 0]) = some xs
  | [] => rfl
  | x :: r => by
    show (match keysOf (r.map fun x => PyData.tuple [iD x, iD 0]) with | some ks => some (x :: ks) | none => none) = _
    rw [keys_lens r]
theorem fold_mem (x : Int) : ∀ (xs acc : List Int), x ∈ acc ∨ x ∈ xs → x ∈ xs.foldl addK acc
  | [], acc, h => by rcases h with h | h; exact h; cases h
  | y :: r, acc, h => by
    refine fold_mem x r (addK acc y) ?_
    unfold addK
    rcases h with h | h
    · left; split; exact h; exact List.mem_append_left _ h
    · rcases List.mem_cons.mp h with rfl | h
      · left; split; assumption; simp
      · exact .inr h
theorem alike_of {xs : List Int} (h : dlen xs < 2) : ∀ x ∈ xs, ∀ y ∈ xs, x = y := fun x hx y hy => by
  have h1 := fold_mem x xs [] (.inr hx)
  have h2 := fold_mem y xs [] (.inr hy)
  unfold dlen at h
  generalize xs.foldl addK [] = l at *
  match l, h, h1, h2 with
  | [], _, h1, _ => cases h1
  | [z], _, h1, h2 => rw [List.mem_singleton.mp h1, List.mem_singleton.mp h2]
theorem tkn_ge {sp : Sp2} : ∀ (l : List Nat) (x : Int), (∀ i ∈ l, begOf sp i < endOf sp i) → ∀ j ∈ tkn sp l (some x), x ≤ begOf sp j
  | [], x, _, j, h => by cases h
  | i :: r, x, hp, j, h => by
    unfold tkn at h
    split at h
    · rename_i hf
      have hf : x ≤ begOf sp i := of_decide_eq_true hf
      rcases List.mem_cons.mp h with rfl | h
      · exact hf
      · have := tkn_ge r (endOf sp i) (fun k hk => hp k (List.mem_cons_of_mem _ hk)) j h
        have := hp i (List.mem_cons_self ..)
        omega
    · exact tkn_ge r x (fun k hk => hp k (List.mem_cons_of_mem _ hk)) j h
theorem tkn_chain {sp : Sp2} : ∀ (l : List Nat) (en : Option Int), (∀ i ∈ l, begOf sp i < endOf sp i) → Chain (sub sp (tkn sp l en))
  | [], _, _ => List.Pairwise.nil
  | i :: r, en, hp => by
    unfold tkn
    split
    · refine List.pairwise_cons.mpr ⟨fun q hq => ?_, tkn_chain r _ fun k hk => hp k (List.mem_cons_of_mem _ hk)⟩
      obtain ⟨j, hj, rfl⟩ := List.mem_map.mp hq
      exact tkn_ge r _ (fun k hk => hp k (List.mem_cons_of_mem _ hk)) j hj
    · exact tkn_chain r _ fun k hk => hp k (List.mem_cons_of_mem _ hk)
theorem tkn_sublist (sp : Sp2) : ∀ (l : List Nat) (en : Option Int), (tkn sp l en).Sublist l
  | [], _ => List.Sublist.refl _
  | i :: r, en => by
    unfold tkn
    split
    · exact (tkn_sublist sp r _).cons_cons i
    · exact (tkn_sublist sp r _).cons i
theorem tot_ones {sp : Sp2} : ∀ lot : List Nat, (∀ i ∈ lot, i < sp.length) → tot (sp.map fun _ => (1 : Int)) lot = (lot.length : Int)
  | [], _ => rfl
  | i :: r, h => by
    have ih := tot_ones r fun j hj => h j (List.mem_cons_of_mem _ hj)
    unfold tot at *
    rw [List.map_cons, List.sum_cons, ih, List.length_cons]
    have : szOf (sp.map fun _ => (1 : Int)) i = 1 := by
      unfold szOf
      rw [List.getElem?_map, List.getElem?_eq_getElem (h i (List.mem_cons_self ..))]; rfl
    rw [this]; omega
theorem ones_eq {sp : Sp2} (ok : Ok sp) (hd : dlen (lens sp) < 2) {b : Int} (hb : BestOf sp (sp.map fun _ => (1 : Int)) b) : (((frees sp).length : Nat) : Int) = b := by
  have hs : (frees sp).Sublist (List.range sp.length) := tkn_sublist sp _ _
  have hC : Chain (sub sp (frees sp)) := tkn_chain _ _ fun i hi => ok.p i (List.mem_range.mp hi)
  have a1 := hb.2.2 (frees sp) hs ((fit_chain ok hs).mpr hC)
  rw [tot_ones _ fun i hi => lot_lt hs hi] at a1
  have a2 : b ≤ ((frees sp).length : Int) := by
    rcases hb.1 with e | ⟨lot, l1, l2, e⟩
    · omega
    · rw [e, tot_ones _ fun i hi => lot_lt l1 hi]
      by_cases h0 : sp.length = 0
      · have := l1.length_le
        rw [List.length_range] at this
        omega
      · have hm : ∀ i, i < sp.length → endOf sp i - begOf sp i = endOf sp 0 - begOf sp 0 := fun i hi => alike_of hd _ (List.mem_map.mpr ⟨_, sp_in hi, rfl⟩) _ (List.mem_map.mpr ⟨_, sp_in (show 0 < sp.length by omega), rfl⟩)
        have h1 := ok.p 0 (by omega)
        have := (greedy (sp := sp) (d := endOf sp 0 - begOf sp 0) (by omega) (List.range sp.length) none (sub sp lot) (List.pairwise_lt_range.imp_of_mem fun {i j} hi hj hij => ok.s i j (Nat.le_of_lt hij) (List.mem_range.mp hj))
          (fun i hi => ⟨ok.p i (List.mem_range.mp hi), by have := hm i (List.mem_range.mp hi); omega⟩) ((fit_chain ok l1).mp l2) (fun p hp => by
            obtain ⟨i, hi, rfl⟩ := List.mem_map.mp hp
            exact ⟨i, List.mem_range.mpr (lot_lt l1 hi), rfl⟩) (fun x hx => by cases hx)).2 fun i hi => hm i (List.mem_range.mp hi)
        unfold sub at this
        rw [List.length_map] at this
        unfold frees
        omega
  omega
theorem lap_body (lap : Nat) (d : Int) (sp : Sp2) (hn : sp.length ≤ 9) (ss : sp.Pairwise fun p q => p.1 ≤ q.1) (sd : ∀ p ∈ sp, p.1 < p.2 ∧ p.2 - p.1 ≤ d) (hd : 1 ≤ d) (hd2 : d ≤ 1000) (K : Fl → VE → Prop) (s5 s6 s7 s8 s9 s10 s11 s12 s13 s14 : Sl) (h7 : slOk (some s7) = true) (h8 : slOk (some s8) = true) (h9 : slOk (some s9) = true)
    (hK : ∀ s5 s6 s7 s8 s9 s10 s11 s12 s13, slOk (some s7) = true → slOk (some s8) = true → slOk (some s9) = true → K .nx [.emp, .src, .val (.int (lap : Int)), .val (.int d), .val (spD sp), s5, s6, s7, s8, s9, s10, s11, s12, s13, s14, .emp, .emp]) : w_law_10 φ__law_pick φ__law_draw_spans φ_taken_when_free φ__law_best φ_worth_of φ_best_worth [.emp, .src, .val (.int (lap : Int)), .val (.int d), .val (spD sp), s5, s6, s7, s8, s9, s10, s11, s12, s13, s14, .emp, .emp] K := by
  have hL : LIM = 1000000 := rfl
  have ok := ok_of ss fun p hp => (sd p hp).1
  unfold w_law_10
  refine ⟨Nat.zero_le _, ?_⟩
  change w_law_9 _ _ _ _ _ _ [.emp, .src, .val (.int (lap : Int)), .val (.int d), .val (spD sp), .own (isD []), .val .none, s7, s8, s9, s10, s11, s12, s13, s14, .emp, .emp] K
  unfold w_law_9
  refine ⟨rfl, ?_⟩
  rw [enumD_map, zip_range, List.map_map]
  refine for_on ((fun p : (Int × Int) × Nat => PyData.tuple [.int (p.2 : Nat), pD p.1]) ∘ fun i => ((begOf sp i, endOf sp i), i)) (fun rest e => ∃ (en : Option Int) (fo : List Nat) (s7 s8 s9 : Sl), e = [.emp, .src, .val (.int (lap : Int)), .val (.int d), .val (spD sp), .own (isD fo), .val (oeD en), s7, s8, s9, s10, s11, s12, s13, s14, .emp, .emp] ∧ fo ++ tkn sp rest en = frees sp ∧ (slOk (some s7) = true ∧ slOk (some s8) = true ∧ slOk (some s9) = true) ∧ (∀ i ∈ rest, i < sp.length) ∧ fo.length + rest.length ≤ sp.length) (List.range sp.length) _ ⟨none, [], s7, s8, s9, rfl, rfl, ⟨h7, h8, h9⟩, fun i hi => List.mem_range.mp hi, by rw [List.length_range]; simp⟩ ?fin3 ?step3
  case step3 =>
    rintro i r3 e ⟨en, fo, s7, s8, s9, rfl, h1, h7, h2, h3⟩ K3 hK3
    rw [List.length_cons] at h3
    have hi := h2 i (List.mem_cons_self ..)
    refine ⟨rfl, rfl, rfl, rfl, ?_⟩
    change w_law_1 _ _ _ _ _ _ [.emp, .src, .val (.int (lap : Int)), .val (.int d), .val (spD sp), .own (isD fo), .val (oeD en), .val (.int (i : Int)), .val (.int (begOf sp i)), .val (.int (endOf sp i)), s10, s11, s12, s13, s14, .emp, .emp] K3
    have skip : ¬ freeE en (begOf sp i) = true → K3 .nx [.emp, .src, .val (.int (lap : Int)), .val (.int d), .val (spD sp), .own (isD fo), .val (oeD en), .val (.int (i : Int)), .val (.int (begOf sp i)), .val (.int (endOf sp i)), s10, s11, s12, s13, s14, .emp, .emp] := fun hf => by
      refine hK3 _ ⟨en, fo, _, _, _, rfl, ?_, ⟨rfl, rfl, rfl⟩, fun j hj => h2 j (List.mem_cons_of_mem _ hj), by omega⟩
      rw [← h1]
      show _ = fo ++ (if freeE en (begOf sp i) = true then i :: tkn sp r3 (some (endOf sp i)) else tkn sp r3 en)
      rw [if_neg hf]
    have take : freeE en (begOf sp i) = true → K3 .nx [.emp, .src, .val (.int (lap : Int)), .val (.int d), .val (spD sp), .own (.list (fo.map nD ++ [nD i])), .val (.int (endOf sp i)), .val (.int (i : Int)), .val (.int (begOf sp i)), .val (.int (endOf sp i)), s10, s11, s12, s13, s14, .emp, .emp] := fun hf => by
      refine hK3 _ ⟨some (endOf sp i), fo ++ [i], .val (.int (i : Int)), .val (.int (begOf sp i)), .val (.int (endOf sp i)), ?_, ?_, ⟨rfl, rfl, rfl⟩, fun j hj => h2 j (List.mem_cons_of_mem _ hj), by rw [List.length_append]; simp; omega⟩
      · unfold isD; rw [List.map_append]; rfl
      · rw [← h1, List.append_assoc]
        show fo ++ ([i] ++ _) = fo ++ (if freeE en (begOf sp i) = true then i :: tkn sp r3 (some (endOf sp i)) else tkn sp r3 en)
        rw [if_pos hf]; rfl
    unfold w_law_1
    cases en with
    | none => exact ⟨rfl, fun _ => ⟨fun _ => ⟨(by decide : 1 ≤ 1000000), by rw [List.length_map]; show _ + 1 ≤ LIM; omega, take rfl⟩, fun h => no_true h⟩, fun h => no_true h⟩
    | some x =>
      refine ⟨rfl, fun h => no_false h, fun _ => ⟨fun h => ⟨(by decide : 1 ≤ 1000000), by rw [List.length_map]; show _ + 1 ≤ LIM; omega, take ?_⟩, fun h => skip fun hh => ?_⟩⟩
      · have h := of_decide_eq_true h
        exact decide_eq_true h
      · have h := of_decide_eq_false h
        exact absurd (of_decide_eq_true (show decide (x ≤ begOf sp i) = true from hh)) h
  case fin3 =>
    rintro e ⟨en, fo, s7, s8, s9, rfl, h1, ⟨h7, h8, h9⟩, h2, h3⟩
    have hfo : fo = frees sp := by simpa [tkn] using h1
    subst hfo
    have fl := frees_len sp
    have okt : okR (tupD (frees sp)) := okR_nats (xs := frees sp) (fun i hi => by have := frees_lt hi; omega) (by omega)
    change w_law_8 _ _ _ _ _ _ [.emp, .src, .val (.int (lap : Int)), .val (.int d), .val (spD sp), .own (.list ((frees sp).map nD)), .val (oeD en), s7, s8, s9, s10, s11, s12, s13, s14, .emp, .emp] K
    unfold w_law_8
    refine ⟨sp, rfl, by omega, okt, okt, fun h => (not_true h (decide_eq_true rfl)).elim, fun _ => ?_⟩
    change w_law_7 _ _ _ _ _ _ [.emp, .src, .val (.int (lap : Int)), .val (.int d), .val (spD sp), .own (.list ((frees sp).map nD)), .val (oeD en), s7, s8, s9, s10, s11, s12, s13, s14, .emp, .emp] K
    unfold w_law_7
    refine ⟨(by cases s8 <;> first | (cases h8; done) | (cases s9 <;> first | (cases h9; done) | rfl)), rfl, comp_on pD (fun _ => true) (fun p => iD (p.2 - p.1)) wtNil sp [] (by rw [List.length_nil]; omega) (fun p h Qt Qf q1 q2 => ⟨rfl, rfl, fun _ => q1 rfl _ rfl, fun h => no_true h⟩) ?_⟩
    rw [List.nil_append, List.filter_eq_self.mpr (fun _ _ => rfl)]
    rw [show (sp.map fun p => iD (p.2 - p.1)) = (lens sp).map iD by unfold lens; rw [List.map_map]; rfl]
    change w_law_6 _ _ _ _ _ _ [.emp, .src, .val (.int (lap : Int)), .val (.int d), .val (spD sp), .own (.list ((frees sp).map nD)), .val (oeD en), s7, s8, s9, .own (.list ((lens sp).map iD)), s11, s12, s13, s14, .emp, .emp] K
    have lz : (lens sp).length = sp.length := List.length_map _
    unfold w_law_6
    refine ⟨(by cases s7 <;> first | rfl | cases h7), rfl, comp_on nD (fun _ => true) (fun i => iD (szOf (lens sp) i)) (wt1 rfl) (frees sp) [] (by rw [List.length_nil]; omega) (fun i h Qt Qf q1 q2 => ⟨fun _ => onS_of (ix_sz (by rw [lz]; exact frees_lt h)) (q1 rfl _ rfl), fun h => no_true h⟩) ?_⟩
    rw [List.nil_append, List.filter_eq_self.mpr (fun _ _ => rfl)]
    refine onS_of (ints_map (szOf (lens sp)) (frees sp)) ?_
    refine ⟨sp, lens sp, rfl, by omega, lz, fun best hbest => ?_⟩
    change w_law_5 _ _ _ _ _ _ [.emp, .src, .val (.int (lap : Int)), .val (.int d), .val (spD sp), .own (.list ((frees sp).map nD)), .val (oeD en), s7, s8, s9, .val (.list ((lens sp).map iD)), .val (.int (tot (lens sp) (frees sp))), .val (.int best), s13, s14, .emp, .emp] K
    rw [tot_worth szOf_lens (frees sp) fun i hi => frees_lt hi]
    have gr : ∀ S : Sp2, (∀ p ∈ S, p ∈ sp) → Chain S → sumL S ≤ d * worth sp (frees sp) ∧ ((∀ i ∈ List.range sp.length, endOf sp i - begOf sp i = d) → S.length ≤ (frees sp).length) := fun S g1 g2 => by
      refine greedy hd (List.range sp.length) none S ?_ (fun i hi => ?_) g2 (fun p hp => ?_) (fun x hx => by cases hx)
      · exact List.pairwise_lt_range.imp_of_mem fun {i j} hi hj hij => ok.s i j (Nat.le_of_lt hij) (List.mem_range.mp hj)
      · have hi := List.mem_range.mp hi
        exact ⟨ok.p i hi, (sd _ (sp_in hi)).2⟩
      · obtain ⟨i, hi, e⟩ := in_sp (g1 p hp)
        exact ⟨i, List.mem_range.mpr hi, e⟩
    have hbw : best ≤ d * worth sp (frees sp) := by
      rcases hbest.1 with e | ⟨lot, l1, l2, e⟩
      · have := (gr [] (fun p hp => by cases hp) List.Pairwise.nil).1
        rw [e]; exact this
      · have := (gr (sub sp lot) (fun p hp => by
          obtain ⟨i, hi, rfl⟩ := List.mem_map.mp hp
          exact sp_in (lot_lt l1 hi)) ((fit_chain ok l1).mp l2)).1
        rw [e, tot_worth szOf_lens lot fun i hi => lot_lt l1 hi, ← sumL_sub]; exact this
    unfold w_law_5
    refine ⟨sp, frees sp, rfl, fun i h => frees_lt h, by omega, rfl, rfl, fun h => (not_true h (by rw [eqv_ii]; exact decide_eq_true rfl)).elim, fun _ => ?_⟩
    refine ⟨sp, rfl, by omega, fun p hp => (sd p hp).1, fun w hw1 hw2 => ?_⟩
    have ew := best_eq ok szOf_lens hw1 hw2 hbest
    subst ew
    refine ⟨rfl, rfl, fun h => (not_true h (by rw [eqv_ii]; exact decide_eq_true rfl)).elim, fun _ => ?_⟩
    refine ⟨.inl (.inl ⟨by omega, by omega⟩), fun h => absurd (of_decide_eq_true h) (by omega), fun _ => ?_⟩
    change w_law_4 _ _ _ _ _ _ [.emp, .src, .val (.int (lap : Int)), .val (.int d), .val (spD sp), .own (.list ((frees sp).map nD)), .val (oeD en), s7, s8, s9, .val (.list ((lens sp).map iD)), .val (.int (worth sp (frees sp))), .val (.int w), s13, s14, .emp, .emp] K
    unfold w_law_4
    refine ⟨big_n (by rw [List.length_map]; omega), ?_⟩
    rw [range_n]
    refine ⟨(by cases s7 <;> first | rfl | cases h7), rfl, comp_sub nD nD wtNil (List.range sp.length) [] (by rw [List.length_nil, List.length_range]; omega) (fun j hj Qt Qf q1 q2 => ⟨by omega, fun r h0 h1 => ?pk⟩) fun lot hlot => ?_⟩
    case pk => exact ⟨rfl, rfl, fun _ => q1 _ rfl, fun _ => q2 _ rfl⟩
    have lotl : lot.length ≤ sp.length := by have := hlot.length_le; rw [List.length_range] at this; exact this
    rw [List.nil_append]
    change w_law_3 _ _ _ _ _ _ [.emp, .src, .val (.int (lap : Int)), .val (.int d), .val (spD sp), .own (.list ((frees sp).map nD)), .val (oeD en), s7, s8, s9, .val (.list ((lens sp).map iD)), .val (.int (worth sp (frees sp))), .val (.int w), .val (tupD lot), s14, .emp, .emp] K
    unfold w_law_3
    refine ⟨sp, lot, rfl, fun i h => lot_lt hlot h, by omega, (by cases s7 <;> first | rfl | cases h7), rfl, comp_on nD (fun _ => true) (fun i => iD (szOf (lens sp) i)) wtNil lot [] (by rw [List.length_nil]; omega) (fun i h Qt Qf q1 q2 => ⟨fun _ => onS_of (ix_sz (by rw [lz]; exact lot_lt hlot h)) (q1 rfl _ rfl), fun h => no_true h⟩) ?_⟩
    rw [List.nil_append, List.filter_eq_self.mpr (fun _ _ => rfl)]
    refine onS_of (ints_map (szOf (lens sp)) lot) ?_
    refine ⟨rfl, rfl, fun h => (not_true h (by
      show PyData.eqv (.int (worth sp lot)) (.int (tot (lens sp) lot)) = true
      rw [tot_worth szOf_lens lot fun i hi => lot_lt hlot hi, eqv_ii]; exact decide_eq_true rfl)).elim, fun _ => ?_⟩
    change w_law_2 _ _ _ _ _ _ [.emp, .src, .val (.int (lap : Int)), .val (.int d), .val (spD sp), .own (.list ((frees sp).map nD)), .val (oeD en), s7, s8, s9, .val (.list ((lens sp).map iD)), .val (.int (worth sp (frees sp))), .val (.int w), .val (tupD lot), s14, .emp, .emp] K
    unfold w_law_2
    have hend : K .nx [.emp, .src, .val (.int (lap : Int)), .val (.int d), .val (spD sp), .own (.list ((frees sp).map nD)), .val (oeD en), s7, s8, s9, .val (.list ((lens sp).map iD)), .val (.int (worth sp (frees sp))), .val (.int w), .val (tupD lot), s14, .emp, .emp] := hK _ _ _ _ _ _ _ _ _ h7 h8 h9
    refine ⟨rfl, rfl, comp_on iD (fun _ => true) (fun x => PyData.tuple [iD x, iD 0]) wtNil (lens sp) [] (by rw [List.length_nil]; omega) (fun x h Qt Qf q1 q2 => ⟨fun _ => ⟨(show 2 ≤ LIM by decide), q1 rfl _ rfl⟩, fun h => no_true h⟩) ?_⟩
    rw [List.nil_append, List.filter_eq_self.mpr (fun _ _ => rfl)]
    refine (?_ : onS (keysOf ((lens sp).map fun x => PyData.tuple [iD x, iD 0])) _)
    refine onS_of (keys_lens (lens sp)) ?_
    refine ⟨fun hb => ?_, fun hb => ⟨fun h => no_false h, fun _ => hend⟩⟩
    have hb := of_decide_eq_true hb
    refine ⟨rfl, rfl, comp_on pD (fun _ => true) (fun _ => iD 1) wtNil sp [] (by rw [List.length_nil]; omega) (fun p h Qt Qf q1 q2 => ⟨fun _ => q1 rfl _ rfl, fun h => no_true h⟩) ?_⟩
    rw [List.nil_append, List.filter_eq_self.mpr (fun _ _ => rfl)]
    rw [show (sp.map fun _ => iD 1) = (sp.map fun _ => (1 : Int)).map iD by rw [List.map_map]; rfl]
    refine ⟨sp, sp.map fun _ => (1 : Int), rfl, by omega, List.length_map _, fun b hbb => ?_⟩
    have hbe : (((frees sp).length : Nat) : Int) = b := ones_eq ok (by omega) hbb
    refine ⟨rfl, rfl, fun h => (not_true h (by rw [List.length_map, hbe, eqv_ii]; exact decide_eq_true rfl)).elim, fun _ => hend⟩
theorem m_law : w_law φ__law_pick φ__law_draw_spans φ_taken_when_free φ__law_best φ_worth_of φ_best_worth (.emp :: .src :: List.replicate (17 - 2) .emp) (fun fl _ => fl = .rt (.bool true)) := by
  have hL : LIM = 1000000 := rfl
  unfold w_law
  refine ⟨by unfold big62; omega, rfl, ?_⟩
  rw [show rangeD 0 (3 : Int).toNat = (List.range 3).map nD from rangeD_zero 3]
  refine for_on nD (fun rest e => (∀ x ∈ rest, x < 3) ∧ ∃ s2 s3 s4 s5 s6 s7 s8 s9 s10 s11 s12 s13, e = [.emp, .src, s2, s3, s4, s5, s6, s7, s8, s9, s10, s11, s12, s13, .emp, .emp, .emp] ∧ slOk (some s7) = true ∧ slOk (some s8) = true ∧ slOk (some s9) = true) (List.range 3) _ ⟨fun x hx => List.mem_range.mp hx, .emp, .emp, .emp, .emp, .emp, .emp, .emp, .emp, .emp, .emp, .emp, .emp, rfl, rfl, rfl, rfl⟩ ?fin ?step
  case fin =>
    rintro e ⟨_, s2, s3, s4, s5, s6, s7, s8, s9, s10, s11, s12, s13, rfl, _⟩
    unfold w_law_16
    refine ⟨by omega, fun r h0 h1 => ?_⟩
    obtain ⟨d, ed⟩ : ∃ d : Int, d = 1 + r := ⟨_, rfl⟩
    have d1 : 1 ≤ d := by omega
    change w_law_15 _ _ _ _ _ _ [.emp, .src, s2, .val (.int (1 + r)), s4, s5, s6, s7, s8, s9, s10, s11, s12, s13, .emp, .emp, .emp] _
    rw [← ed]
    unfold w_law_15
    refine ⟨(by decide : 2 ≤ 1000000), (by decide : 2 ≤ 1000000), (by decide : 2 ≤ 1000000), ?_⟩
    change w_law_14 _ _ _ _ _ _ [.emp, .src, s2, .val (.int d), s4, s5, s6, s7, s8, s9, s10, s11, s12, s13, .val (spD [(0, 1), (0, d)]), .emp, .emp] _
    unfold w_law_14
    refine ⟨[(0, 1), (0, d)], rfl, (show 2 ≤ 1000 by decide), [(0, 1), (0, d)], [0], rfl, fun i hi => (by rw [List.mem_singleton.mp hi]; exact (show 0 < 2 by decide)), (show 1 ≤ 1000 by decide), rfl, rfl, fun _ => ?_, fun h => no_true h⟩
    have pos : ∀ p ∈ [((0 : Int), (1 : Int)), (0, d)], p.1 < p.2 ∧ 0 ≤ p.1 ∧ p.2 ≤ d := fun p hp => by
      rcases List.mem_cons.mp hp with rfl | hp
      · exact ⟨by decide, by decide, d1⟩
      · rw [List.mem_singleton.mp hp]; exact ⟨by show 0 < d; omega, Int.le_refl _, Int.le_refl _⟩
    refine ⟨[(0, 1), (0, d)], rfl, (show 2 ≤ 1000 by decide), fun p hp => (pos p hp).1, fun w hw1 hw2 => ?_⟩
    have a1 := hw2 [(0, d)] (fun p hp => by rw [List.mem_singleton.mp hp]; simp) (List.pairwise_singleton _ _)
    have a1 : d - 0 + 0 ≤ w := a1
    have a2 : w ≤ d - 0 := by
      obtain ⟨S, g1, g2, rfl⟩ := hw1
      exact chain_sum S 0 d g2 (fun p hp => by have := pos p (g1 p hp); omega) (by omega)
    have ew : w = d := by omega
    subst ew
    refine ⟨rfl, rfl, ?_⟩
    show Fl.rt (.bool (PyData.eqv (.int w) (.int w))) = _
    rw [eqv_ii, decide_eq_true rfl]
  case step =>
    rintro lap r e ⟨hx, s2, s3, s4, s5, s6, s7, s8, s9, s10, s11, s12, s13, rfl, h7, h8, h9⟩ K hK
    have hlap := hx lap (List.mem_cons_self ..)
    have ix : ∀ (a b c : Int), ∃ x, atI [PyData.int a, .int b, .int c] (lap : Int) = some (.int x) ∧ (x = a ∨ x = b ∨ x = c) := fun a b c => by
      rcases (by omega : lap = 0 ∨ lap = 1 ∨ lap = 2) with rfl | rfl | rfl
      · exact ⟨a, rfl, .inl rfl⟩
      · exact ⟨b, rfl, .inr (.inl rfl)⟩
      · exact ⟨c, rfl, .inr (.inr rfl)⟩
    change w_law_13 _ _ _ _ _ _ [.emp, .src, .val (.int (lap : Int)), s3, s4, s5, s6, s7, s8, s9, s10, s11, s12, s13, .emp, .emp, .emp] K
    unfold w_law_13
    obtain ⟨x, hx1, hx2⟩ := ix 1 4 8
    refine ⟨(by decide : 3 ≤ 1000000), ?_⟩
    refine onS_of hx1 ?_
    refine ⟨by omega, fun r g0 g1 => ?_⟩
    obtain ⟨d, ed⟩ : ∃ d : Int, d = 1 + r := ⟨_, rfl⟩
    have d1 : 1 ≤ d := by omega
    have d2 : d ≤ 8 := by omega
    change w_law_12 _ _ _ _ _ _ [.emp, .src, .val (.int (lap : Int)), .val (.int (1 + r)), s4, s5, s6, s7, s8, s9, s10, s11, s12, s13, .emp, .emp, .emp] K
    rw [← ed]
    unfold w_law_12
    obtain ⟨y, hy1, hy2⟩ := ix 8 12 20
    refine ⟨(by decide : 3 ≤ 1000000), ?_⟩
    refine onS_of hy1 ?_
    refine ⟨9, y, d, rfl, by omega, by omega, by omega, by omega, by omega, by omega, fun sp q1 q2 q3 => ?_⟩
    change w_law_11 _ _ _ _ _ _ [.emp, .src, .val (.int (lap : Int)), .val (.int d), .val (spD sp), s5, s6, s7, s8, s9, s10, s11, s12, s13, .emp, .emp, .emp] K
    have go := fun (sp : Sp2) (hn : sp.length ≤ 9) ss sd => lap_body lap d sp hn ss sd d1 (by omega) K s5 s6 s7 s8 s9 s10 s11 s12 s13 .emp h7 h8 h9 fun s5 s6 s7 s8 s9 s10 s11 s12 s13 h7 h8 h9 => hK _ ⟨fun x hx' => hx x (List.mem_cons_of_mem _ hx'), _, _, _, s5, s6, s7, s8, s9, s10, s11, s12, s13, rfl, h7, h8, h9⟩
    unfold w_law_11
    refine ⟨by omega, fun r0 h0 h1 => ⟨rfl, rfl, fun hb => ?_, fun hb => go sp (by omega) q2 q3⟩⟩
    refine ⟨(by cases s8 <;> first | (cases h8; done) | (cases s9 <;> first | (cases h9; done) | rfl)), rfl, comp_on pD (fun _ => true) (fun p => pD (p.1, p.1 + d)) wtNil sp [] (by rw [List.length_nil]; omega) (fun p h Qt Qf q1 q2 => ⟨rfl, rfl, fun _ => ⟨(show 2 ≤ LIM by decide), q1 rfl _ rfl⟩, fun h => no_true h⟩) ?_⟩
    rw [List.nil_append, List.filter_eq_self.mpr (fun _ _ => rfl)]
    have e2 : (sp.map fun p => pD (p.1, p.1 + d)) = (sp.map fun p => (p.1, p.1 + d)).map pD := by rw [List.map_map]; rfl
    rw [e2]
    refine go (sp.map fun p => (p.1, p.1 + d)) (by rw [List.length_map]; omega) ?_ fun p hp => ?_
    · rw [List.pairwise_map]
      exact q2
    · obtain ⟨q, hq, rfl⟩ := List.mem_map.mp hp
      show q.1 < q.1 + d ∧ q.1 + d - q.1 ≤ d
      omega
end k58

namespace k58
open PySem PySem.Spec PyProof.Rows L2 VL
def topS (i : Nat) : Stmt := PySem.Challenge.pw_beforeitcomes_k58_whole_spans_in_one_roo.main.body.getD i (.Pass ⟨0, 0, 0, 0⟩)
abbrev s_taken_of : Stmt := topS 1
theorem sc_taken_of : FnScope ["spans", "some", "end", "found", "i", "a", "b"] ["spans", "some"] (defScope s_taken_of) := ⟨rfl, rfl, rfl, by decide +kernel, rfl, by decide +kernel, by decide +kernel⟩
abbrev s_taken_when_free : Stmt := topS 2
theorem sc_taken_when_free : FnScope ["spans"] ["spans"] (defScope s_taken_when_free) := ⟨rfl, rfl, rfl, by decide +kernel, rfl, by decide +kernel, by decide +kernel⟩
abbrev s_worth_of : Stmt := topS 3
theorem sc_worth_of : FnScope ["spans", "lot", "i"] ["spans", "lot"] (defScope s_worth_of) := ⟨rfl, rfl, rfl, by decide +kernel, rfl, by decide +kernel, by decide +kernel⟩
abbrev s_best_worth : Stmt := topS 4
theorem sc_best_worth : FnScope ["spans", "best", "a", "b", "ahead", "end", "worth"] ["spans"] (defScope s_best_worth) := ⟨rfl, rfl, rfl, by decide +kernel, rfl, by decide +kernel, by decide +kernel⟩
abbrev s_span_end : Stmt := topS 5
theorem sc_span_end : FnScope ["span"] ["span"] (defScope s_span_end) := ⟨rfl, rfl, rfl, by decide +kernel, rfl, by decide +kernel, by decide +kernel⟩
abbrev s__law_open_cells : Stmt := topS 7
theorem sc__law_open_cells : FnScope ["script", "stirred", "cell", "cells"] ["script"] (defScope s__law_open_cells) := ⟨rfl, rfl, rfl, by decide +kernel, rfl, by decide +kernel, by decide +kernel⟩
abbrev s__law_pick : Stmt := topS 8
theorem sc__law_pick : FnScope ["source", "most", "cells", "others", "lap", "stirred"] ["source", "most"] (defScope s__law_pick) := ⟨rfl, rfl, rfl, by decide +kernel, rfl, by decide +kernel, by decide +kernel⟩
abbrev s__law_draw_spans : Stmt := topS 9
theorem sc__law_draw_spans : FnScope ["source", "many", "far", "most", "rows", "i", "a", "begins", "b", "early", "late"] ["source", "many", "far", "most"] (defScope s__law_draw_spans) := ⟨rfl, rfl, rfl, by decide +kernel, rfl, by decide +kernel, by decide +kernel⟩
abbrev s__law_at_once : Stmt := topS 10
theorem sc__law_at_once : FnScope ["spans", "place", "a", "b"] ["spans"] (defScope s__law_at_once) := ⟨rfl, rfl, rfl, by decide +kernel, rfl, by decide +kernel, by decide +kernel⟩
abbrev s__law_best : Stmt := topS 11
theorem sc__law_best : FnScope ["spans", "sizes", "best", "n", "code", "some", "total", "i"] ["spans", "sizes"] (defScope s__law_best) := ⟨rfl, rfl, rfl, by decide +kernel, rfl, by decide +kernel, by decide +kernel⟩
abbrev s_law : Stmt := topS 12
theorem sc_law : FnScope ["script", "source", "lap", "d", "spans", "free", "end", "i", "a", "b", "sizes", "worth", "best", "lot", "bar", "span", "size"] ["script"] (defScope s_law) := ⟨rfl, rfl, rfl, by decide +kernel, rfl, by decide +kernel, by decide +kernel⟩
theorem p__law_open_cells {P : Program} {w : World} {K : PySem.W.Frag} {mg : Str → Option Value} {base : Heap} {f : Addr} {cdv : Value} {A : Around} {outer : List Env} {s : Shared} {H : Hp} {E : XK} (mg_int : mg "int" = none) (mg_abs : mg "abs" = none) : PSs (XX P w K mg base ["script", "stirred", "cell", "cells"] "_law_open_cells" (defScope s__law_open_cells) f cdv A outer s H E) (defBody s__law_open_cells) (tOpen K) := by
  have hN : (["script", "stirred", "cell", "cells"] : List Str).Nodup := sc__law_open_cells.nd
  exact pss_cons (ps_set (i := 1) hN rfl (.inl rfl) pe_int) (pss_cons (ps_for PassesOwn.never rfl (pi_list (pv 0)) (pg_name (i := 2) hN rfl (.inl rfl)) (pss_one (ps_set (i := 1) hN rfl (.inl rfl) (pe_op op_mod (pe_callTy call_int1 (by rfl) mg_int PyProof.Rows.boot_int (pa_cons (pe_op op_add (pe_op op_add (pe_op op_mul (pv 1) pe_int) (pe_op op_mul (pv 2) pe_int)) pe_int) pa_nil)) pe_int))))
    (pss_cons (ps_setLc (i := 3) (own := [("cell", 2)]) rfl hN rfl rfl (by rfl) (pi_list (pv 0)) (blkOk_by (by rfl)) (fun _ _ _ _ _ => pg_name (i := 2) hN rfl (.inl rfl)) (fun _ _ _ _ _ => pts_nil) (fun _ _ _ _ _ => pe_callB call_abs (by rfl) mg_abs PyProof.Rows.boot_abs (pa_cons (pv 2) pa_nil)))
    (pss_one (ps_ret (pe_disp (pps_cons pe_str (pe_revL (pv 3)) (pps_cons pe_str pe_int (pps_cons pe_str (pv 1) (pps_cons pe_str pe_int pps_nil)))) (by rfl) (by rfl) (fun z => by cases z) (by decide))))))
theorem p__law_pick {P : Program} {w : World} {K : PySem.W.Frag} {mg : Str → Option Value} {base : Heap} {f : Addr} {cdv : Value} {A : Around} {outer : List Env} {s : Shared} {H : Hp} {E : XK} {k : Nat} (mg_int : mg "int" = none) (mg_len : mg "len" = none) (hr : RoomG k (A.deeper (envOfC "_law_pick" (defScope s__law_pick) s.heap.objs.size f cdv))) : PSs (XX P w K mg base ["source", "most", "cells", "others", "lap", "stirred"] "_law_pick" (defScope s__law_pick) f cdv A outer s H E) (defBody s__law_pick) (tPick K rPop) := by
  have hN : (["source", "most", "cells", "others", "lap", "stirred"] : List Str).Nodup := sc__law_pick.nd
  have hu : (A.deeper (envOfC "_law_pick" (defScope s__law_pick) s.heap.objs.size f cdv)).units + 1 < cLine := by have := hr.r.un; omega
  exact pss_cons (ps_if (pt_cmp (pc_lt (pv 1) pe_int)) (pss_one (ps_ret pe_int)) pss_nil)
    (pss_cons (ps_set (i := 2) hN rfl (.inl rfl) (pe_dget hu (pv 0) pe_str (fun _ _ => rfl)))
    (pss_cons (ps_while PassesOwn.never (PW.pt (pw_and (pt_cmp (pc_lt (pe_dget hu (pv 0) pe_str (fun _ _ => rfl)) pe_int)) (pw_and1 (pt_cmp (pc_gt (pe_callB call_len_seq (by rfl) mg_len PySem.boot_len (pa_cons (pv 2) pa_nil)) pe_int))))) (pss_one (ps_dput hu (pv 0) pe_str (pe_bm0 PySem.F.plainAttrs_list PySem.F.slot_list_pop PySem.F.type_list_pop mt_pop (pv 2)) rfl)))
    (pss_cons (ps_set (i := 3) hN rfl (.inl rfl) (pe_dget hu (pv 0) pe_str (fun _ _ => rfl)))
    (pss_cons (ps_if (pt_cmp (pc_gt (pv 3) pe_int)) (pss_cons (ps_dput hu (pv 0) pe_str (pe_op op_fdiv (pv 3) (pv 1)) rfl) (pss_one (ps_ret (pe_op op_mod (pe_callTy call_int1 (by rfl) mg_int PyProof.Rows.boot_int (pa_cons (pv 3) pa_nil)) (pv 1))))) pss_nil)
    (pss_cons (ps_dput hu (pv 0) pe_str (pe_op op_add (pe_dget hu (pv 0) pe_str (fun _ _ => rfl)) pe_int) rfl)
    (pss_cons (ps_set (i := 4) hN rfl (.inl rfl) (pe_dget hu (pv 0) pe_str (fun _ _ => rfl)))
    (pss_cons (ps_set (i := 5) hN rfl (.inl rfl) (pe_op op_mod (pe_callTy call_int1 (by rfl) mg_int PyProof.Rows.boot_int (pa_cons (pe_op op_add (pe_dget hu (pv 0) pe_str (fun _ _ => rfl)) (pe_op op_mul (pv 4) pe_int)) pa_nil)) pe_int))
    (pss_cons (ps_set (i := 5) hN rfl (.inl rfl) (pe_op op_mod (pe_callTy call_int1 (by rfl) mg_int PyProof.Rows.boot_int (pa_cons (pe_op op_add (pe_op op_mul (pv 5) (pv 5)) (pe_op op_mul (pv 4) pe_int)) pa_nil)) pe_int))
    (pss_one (ps_ret (pe_op op_mod (pe_callTy call_int1 (by rfl) mg_int PyProof.Rows.boot_int (pa_cons (pe_op op_fdiv (pv 5) pe_int) pa_nil)) (pv 1))))))))))))
theorem p_taken_of {P : Program} {w : World} {K : PySem.W.Frag} {mg : Str → Option Value} {base : Heap} {f : Addr} {cdv : Value} {A : Around} {outer : List Env} {s : Shared} {H : Hp} {E : XK} (mg_tuple : mg "tuple" = none) (hr : RoomG 0 (A.deeper (envOfC "taken_of" (defScope s_taken_of) s.heap.objs.size f cdv))) : PSs (XX P w K mg base ["spans", "some", "end", "found", "i", "a", "b"] "taken_of" (defScope s_taken_of) f cdv A outer s H E) (defBody s_taken_of) (tS (w_taken_of)) := by
  have m : Rm (XX P w K mg base ["spans", "some", "end", "found", "i", "a", "b"] "taken_of" (defScope s_taken_of) f cdv A outer s H E) := rm_of hr rfl
  have hN : (["spans", "some", "end", "found", "i", "a", "b"] : List Str).Nodup := sc_taken_of.nd
  unfold w_taken_of w_taken_of_5 w_taken_of_4 w_taken_of_3 w_taken_of_2 w_taken_of_1
  exact (s_cons (s_par (i := 2) (j := 3) m hN v_non (v_lst a_nil))
  (s_cons (s_for PassesOwn.never m (i_seq (v_var 1)) (g_name hN 4) (s_cons (s_asg (v_ix (v_var 0) (v_var 4)) (g_tup m (gs_cons (g_name hN 5) (gs_cons (g_name hN 6) gs_nil))))
  (s_one (s_if (PW.pt (v_wor (v_ct k_isN (v_var 2) v_non (nomark _)) (v_wor1 (v_ct (k_le m) (v_var 2) (v_var 5) (nomark _))))) (s_cons (s_set hN 2 (v_var 6))
  (s_one (s_expr (v_app 3 (v_var 4))))) s_nil))))
  (s_one (s_ret (v_b (b_tuple mg_tuple) (a_cons (v_var 3) a_nil))))))
theorem p_taken_when_free {P : Program} {w : World} {K : PySem.W.Frag} {mg : Str → Option Value} {base : Heap} {f : Addr} {cdv : Value} {A : Around} {outer : List Env} {s : Shared} {H : Hp} {E : XK} {φ_taken_of : FS} (C_taken_of : Cb P w K mg base 1 "taken_of" 2 φ_taken_of) (l_taken_of : ∀ as Q, φ_taken_of as Q → as.length = 2) (mg_list : mg "list" = none) (mg_range : mg "range" = none) (mg_len : mg "len" = none) (hr : RoomG 1 (A.deeper (envOfC "taken_when_free" (defScope s_taken_when_free) s.heap.objs.size f cdv))) : PSs (XX P w K mg base ["spans"] "taken_when_free" (defScope s_taken_when_free) f cdv A outer s H E) (defBody s_taken_when_free) (tS (w_taken_when_free φ_taken_of)) := by
  have m : Rm (XX P w K mg base ["spans"] "taken_when_free" (defScope s_taken_when_free) f cdv A outer s H E) := rm_of hr rfl
  have hN : (["spans"] : List Str).Nodup := sc_taken_when_free.nd
  unfold w_taken_when_free
  exact (s_one (s_ret (v_call C_taken_of l_taken_of hr (by decide) (a_cons (v_var 0) (a_cons (v_listRange m mg_list mg_range (v_b (b_len mg_len) (a_cons (v_var 0) a_nil))) a_nil)))))
theorem p_worth_of {P : Program} {w : World} {K : PySem.W.Frag} {mg : Str → Option Value} {base : Heap} {f : Addr} {cdv : Value} {A : Around} {outer : List Env} {s : Shared} {H : Hp} {E : XK} (mg_sum : mg "sum" = none) (hr : RoomG 0 (A.deeper (envOfC "worth_of" (defScope s_worth_of) s.heap.objs.size f cdv))) : PSs (XX P w K mg base ["spans", "lot", "i"] "worth_of" (defScope s_worth_of) f cdv A outer s H E) (defBody s_worth_of) (tS (w_worth_of)) := by
  have m : Rm (XX P w K mg base ["spans", "lot", "i"] "worth_of" (defScope s_worth_of) f cdv A outer s H E) := rm_of hr rfl
  have hN : (["spans", "lot", "i"] : List Str).Nodup := sc_worth_of.nd
  unfold w_worth_of
  exact (s_one (s_ret (v_b (b_sum m mg_sum) (a_cons (v_lc [("i", 2)] m hN (i_seq (v_var 1)) (by rfl) (fun _ _ _ _ _ => (g_name hN 2)) (fun _ _ _ _ _ => ts_nil) (fun _ _ _ _ _ => (v_sub (v_ix (v_ix (v_var 0) (v_var 2)) v_int) (v_ix (v_ix (v_var 0) (v_var 2)) v_int)))) a_nil))))
theorem p_best_worth {P : Program} {w : World} {K : PySem.W.Frag} {mg : Str → Option Value} {base : Heap} {f : Addr} {cdv : Value} {A : Around} {outer : List Env} {s : Shared} {H : Hp} {E : XK} (mg_sorted : mg "sorted" = none) (mg_max : mg "max" = none) (K_span_end : Key1 P w K mg "span_end") (hr : RoomG 0 (A.deeper (envOfC "best_worth" (defScope s_best_worth) s.heap.objs.size f cdv))) : PSs (XX P w K mg base ["spans", "best", "a", "b", "ahead", "end", "worth"] "best_worth" (defScope s_best_worth) f cdv A outer s H E) (defBody s_best_worth) (tS (w_best_worth)) := by
  have m : Rm (XX P w K mg base ["spans", "best", "a", "b", "ahead", "end", "worth"] "best_worth" (defScope s_best_worth) f cdv A outer s H E) := rm_of hr rfl
  have hN : (["spans", "best", "a", "b", "ahead", "end", "worth"] : List Str).Nodup := sc_best_worth.nd
  unfold w_best_worth w_best_worth_4 w_best_worth_3 w_best_worth_2 w_best_worth_1
  exact (s_cons (s_set hN 1 (v_lst (a_cons (v_tup (a_cons v_non (a_cons v_int a_nil))) a_nil)))
  (s_cons (s_for PassesOwn.never m (i_seq (v_sortK K_span_end m hr mg_sorted (v_var 0))) (g_tup m (gs_cons (g_name hN 2) (gs_cons (g_name hN 3) gs_nil))) (s_cons (s_set hN 4 (v_b (b_max m mg_max) (a_cons (v_lc [("end", 5), ("worth", 6)] m hN (i_seq (v_var 1)) (by rfl) (fun _ _ _ _ _ => (g_tup m.blk (gs_cons (g_name hN 5) (gs_cons (g_name hN 6) gs_nil)))) (fun _ _ _ _ _ => (ts_one (PW.pt (v_wor (v_ct k_isN (v_var 5) v_non (nomark _)) (v_wor1 (v_ct (k_le m.blk) (v_var 5) (v_var 2) (nomark _))))))) (fun _ _ _ _ _ => (v_var 6))) a_nil)))
  (s_one (s_expr (v_app 1 (v_tup (a_cons (v_var 3) (a_cons (v_b (b_max m mg_max) (a_cons (v_ix (v_ix (v_var 1) (v_neg v_int)) v_int) (a_cons (v_sub (v_add (v_var 4) (v_var 3)) (v_var 2)) a_nil))) a_nil))))))))
  (s_one (s_ret (v_ix (v_ix (v_var 1) (v_neg v_int)) v_int)))))
theorem p__law_draw_spans {P : Program} {w : World} {K : PySem.W.Frag} {mg : Str → Option Value} {base : Heap} {f : Addr} {cdv : Value} {A : Around} {outer : List Env} {s : Shared} {H : Hp} {E : XK} {φ__law_pick : FS} (C__law_pick : Cb P w K mg base 1 "_law_pick" 2 φ__law_pick) (l__law_pick : ∀ as Q, φ__law_pick as Q → as.length = 2) (mg_range : mg "range" = none) (mg_sorted : mg "sorted" = none) (mg_tuple : mg "tuple" = none) (mg_zip : mg "zip" = none) (hr : RoomG 1 (A.deeper (envOfC "_law_draw_spans" (defScope s__law_draw_spans) s.heap.objs.size f cdv))) : PSs (XX P w K mg base ["source", "many", "far", "most", "rows", "i", "a", "begins", "b", "early", "late"] "_law_draw_spans" (defScope s__law_draw_spans) f cdv A outer s H E) (defBody s__law_draw_spans) (tS (w__law_draw_spans φ__law_pick)) := by
  have m : Rm (XX P w K mg base ["source", "many", "far", "most", "rows", "i", "a", "begins", "b", "early", "late"] "_law_draw_spans" (defScope s__law_draw_spans) f cdv A outer s H E) := rm_of hr rfl
  have hN : (["source", "many", "far", "most", "rows", "i", "a", "begins", "b", "early", "late"] : List Str).Nodup := sc__law_draw_spans.nd
  unfold w__law_draw_spans w__law_draw_spans_5 w__law_draw_spans_4 w__law_draw_spans_3 w__law_draw_spans_2 w__law_draw_spans_1
  exact (s_cons (s_set hN 4 (v_lst a_nil))
  (s_cons (s_for PassesOwn.never m (i_r1 mg_range (v_call C__law_pick l__law_pick hr (by decide) (a_cons (v_var 0) (a_cons (v_add (v_var 1) v_int) a_nil)))) (g_name hN 5) (s_cons (s_set hN 6 (v_call C__law_pick l__law_pick hr (by decide) (a_cons (v_var 0) (a_cons (v_var 2) a_nil))))
  (s_one (s_expr (v_app 4 (v_tup (a_cons (v_var 6) (a_cons (v_add (v_add (v_var 6) v_int) (v_call C__law_pick l__law_pick hr (by decide) (a_cons (v_var 0) (a_cons (v_var 3) a_nil)))) a_nil))))))))
  (s_cons (s_set hN 7 (v_b (b_sorted m mg_sorted) (a_cons (v_lc [("a", 6), ("b", 8)] m hN (i_seq (v_var 4)) (by rfl) (fun _ _ _ _ _ => (g_tup m.blk (gs_cons (g_name hN 6) (gs_cons (g_name hN 8) gs_nil)))) (fun _ _ _ _ _ => ts_nil) (fun _ _ _ _ _ => (v_var 6))) a_nil)))
  (s_one (s_ret (v_b (b_tuple mg_tuple) (a_cons (v_lc [("a", 6), ("early", 9), ("late", 10)] m hN (i_zip mg_zip (v_var 7) (v_var 4)) (by rfl) (fun _ _ _ _ _ => (g_tup m.blk (gs_cons (g_name hN 6) (gs_cons (g_tup m.blk (gs_cons (g_name hN 9) (gs_cons (g_name hN 10) gs_nil))) gs_nil)))) (fun _ _ _ _ _ => ts_nil) (fun _ _ _ _ _ => (v_tup (a_cons (v_var 6) (a_cons (v_sub (v_add (v_var 6) (v_var 10)) (v_var 9)) a_nil))))) a_nil)))))))
theorem p__law_at_once {P : Program} {w : World} {K : PySem.W.Frag} {mg : Str → Option Value} {base : Heap} {f : Addr} {cdv : Value} {A : Around} {outer : List Env} {s : Shared} {H : Hp} {E : XK} (mg_max : mg "max" = none) (mg_len : mg "len" = none) (hr : RoomG 0 (A.deeper (envOfC "_law_at_once" (defScope s__law_at_once) s.heap.objs.size f cdv))) : PSs (XX P w K mg base ["spans", "place", "a", "b"] "_law_at_once" (defScope s__law_at_once) f cdv A outer s H E) (defBody s__law_at_once) (tS (w__law_at_once)) := by
  have m : Rm (XX P w K mg base ["spans", "place", "a", "b"] "_law_at_once" (defScope s__law_at_once) f cdv A outer s H E) := rm_of hr rfl
  have hN : (["spans", "place", "a", "b"] : List Str).Nodup := sc__law_at_once.nd
  unfold w__law_at_once
  exact (s_one (s_ret (v_b (b_max m mg_max) (a_cons (v_add (v_lst (a_cons v_int a_nil)) (v_lc [("place", 1)] m hN (i_seq (v_lc [("a", 2), ("b", 3)] m hN (i_seq (v_var 0)) (by rfl) (fun _ _ _ _ _ => (g_tup m.blk (gs_cons (g_name hN 2) (gs_cons (g_name hN 3) gs_nil)))) (fun _ _ _ _ _ => ts_nil) (fun _ _ _ _ _ => (v_var 2)))) (by rfl) (fun _ _ _ _ _ => (g_name hN 1)) (fun _ _ _ _ _ => ts_nil) (fun _ _ _ _ _ => (v_b (b_len mg_len) (a_cons (v_lc [("a", 2), ("b", 3)] m.blk hN (i_seq (v_var 0)) (by rfl) (fun _ _ _ _ _ => (g_tup (m.blk).blk (gs_cons (g_name hN 2) (gs_cons (g_name hN 3) gs_nil)))) (fun _ _ _ _ _ => (ts_one (v_cht (k_le (m.blk).blk) (k_lt (m.blk).blk) (v_var 2) (v_var 1) (v_var 3)))) (fun _ _ _ _ _ => v_int)) a_nil))))) a_nil))))
theorem p__law_best {P : Program} {w : World} {K : PySem.W.Frag} {mg : Str → Option Value} {base : Heap} {f : Addr} {cdv : Value} {A : Around} {outer : List Env} {s : Shared} {H : Hp} {E : XK} {φ__law_at_once : FS} (C__law_at_once : Cb P w K mg base 1 "_law_at_once" 1 φ__law_at_once) (l__law_at_once : ∀ as Q, φ__law_at_once as Q → as.length = 1) (mg_len : mg "len" = none) (mg_range : mg "range" = none) (mg_sum : mg "sum" = none) (hr : RoomG 1 (A.deeper (envOfC "_law_best" (defScope s__law_best) s.heap.objs.size f cdv))) : PSs (XX P w K mg base ["spans", "sizes", "best", "n", "code", "some", "total", "i"] "_law_best" (defScope s__law_best) f cdv A outer s H E) (defBody s__law_best) (tS (w__law_best φ__law_at_once)) := by
  have m : Rm (XX P w K mg base ["spans", "sizes", "best", "n", "code", "some", "total", "i"] "_law_best" (defScope s__law_best) f cdv A outer s H E) := rm_of hr rfl
  have hN : (["spans", "sizes", "best", "n", "code", "some", "total", "i"] : List Str).Nodup := sc__law_best.nd
  unfold w__law_best w__law_best_5 w__law_best_4 w__law_best_3 w__law_best_2 w__law_best_1
  exact (s_cons (s_par (i := 2) (j := 3) m hN v_int (v_b (b_len mg_len) (a_cons (v_var 0) a_nil)))
  (s_cons (s_for PassesOwn.never m (i_r1 mg_range (v_shl v_int (v_var 3))) (g_name hN 4) (s_cons (s_setLc (i := 5) [("i", 7)] m hN (i_r1 mg_range (v_var 3)) (by rfl) (fun _ _ _ _ _ => (g_name hN 7)) (fun _ _ _ _ _ => (ts_one (v_ct (k_eq m.blk) (v_mod (v_div (v_var 4) (v_shl v_int (v_var 7))) v_int) v_int (nomark _)))) (fun _ _ _ _ _ => (v_var 7)))
  (s_cons (s_set hN 6 (v_b (b_sum m mg_sum) (a_cons (v_lc [("i", 7)] m hN (i_seq (v_var 5)) (by rfl) (fun _ _ _ _ _ => (g_name hN 7)) (fun _ _ _ _ _ => ts_nil) (fun _ _ _ _ _ => (v_ix (v_var 1) (v_var 7)))) a_nil)))
  (s_one (s_if (PW.pt (v_wand (v_ct (k_gt m) (v_var 6) (v_var 2) (nomark _)) (v_wand1 (v_ct (k_lt m) (v_call C__law_at_once l__law_at_once hr (by decide) (a_cons (v_lc [("i", 7)] m hN (i_seq (v_var 5)) (by rfl) (fun _ _ _ _ _ => (g_name hN 7)) (fun _ _ _ _ _ => ts_nil) (fun _ _ _ _ _ => (v_ix (v_var 0) (v_var 7)))) a_nil)) v_int (nomark _))))) (s_one (s_set hN 2 (v_var 6))) s_nil)))))
  (s_one (s_ret (v_var 2)))))
theorem p_law {P : Program} {w : World} {K : PySem.W.Frag} {mg : Str → Option Value} {base : Heap} {f : Addr} {cdv : Value} {A : Around} {outer : List Env} {s : Shared} {H : Hp} {E : XK} {φ__law_pick : FS} (C__law_pick : Cb P w K mg base 1 "_law_pick" 2 φ__law_pick) (l__law_pick : ∀ as Q, φ__law_pick as Q → as.length = 2) {φ__law_draw_spans : FS} (C__law_draw_spans : Cb P w K mg base 2 "_law_draw_spans" 4 φ__law_draw_spans) (l__law_draw_spans : ∀ as Q, φ__law_draw_spans as Q → as.length = 4) {φ_taken_when_free : FS} (C_taken_when_free : Cb P w K mg base 2 "taken_when_free" 1 φ_taken_when_free) (l_taken_when_free : ∀ as Q, φ_taken_when_free as Q → as.length = 1) {φ__law_best : FS} (C__law_best : Cb P w K mg base 2 "_law_best" 2 φ__law_best) (l__law_best : ∀ as Q, φ__law_best as Q → as.length = 2) {φ_worth_of : FS} (C_worth_of : Cb P w K mg base 1 "worth_of" 2 φ_worth_of) (l_worth_of : ∀ as Q, φ_worth_of as Q → as.length = 2) {φ_best_worth : FS} (C_best_worth : Cb P w K mg base 1 "best_worth" 1 φ_best_worth) (l_best_worth : ∀ as Q, φ_best_worth as Q → as.length = 1) (mg_range : mg "range" = none) (mg_tuple : mg "tuple" = none) (mg_enumerate : mg "enumerate" = none) (mg_repr : mg "repr" = none) (mg_sum : mg "sum" = none) (mg_len : mg "len" = none) (mg_dict : mg "dict" = none) (hr : RoomG 2 (A.deeper (envOfC "law" (defScope s_law) s.heap.objs.size f cdv))) : PSs (XX P w K mg base ["script", "source", "lap", "d", "spans", "free", "end", "i", "a", "b", "sizes", "worth", "best", "lot", "bar", "span", "size"] "law" (defScope s_law) f cdv A outer s H E) ((defBody s_law).tail) (tS (w_law φ__law_pick φ__law_draw_spans φ_taken_when_free φ__law_best φ_worth_of φ_best_worth)) := by
  have m : Rm (XX P w K mg base ["script", "source", "lap", "d", "spans", "free", "end", "i", "a", "b", "sizes", "worth", "best", "lot", "bar", "span", "size"] "law" (defScope s_law) f cdv A outer s H E) := rm_of hr rfl
  have hN : (["script", "source", "lap", "d", "spans", "free", "end", "i", "a", "b", "sizes", "worth", "best", "lot", "bar", "span", "size"] : List Str).Nodup := sc_law.nd
  unfold w_law w_law_16 w_law_15 w_law_14 w_law_13 w_law_12 w_law_11 w_law_10 w_law_9 w_law_8 w_law_7 w_law_6 w_law_5 w_law_4 w_law_3 w_law_2 w_law_1
  exact (s_cons (s_for PassesOwn.never m (i_r1 mg_range v_int) (g_name hN 2) (s_cons (s_set hN 3 (v_add v_int (v_call C__law_pick l__law_pick hr (by decide) (a_cons (v_var 1) (a_cons (v_ix (v_lst (a_cons v_int (a_cons v_int (a_cons v_int a_nil)))) (v_var 2)) a_nil)))))
  (s_cons (s_set hN 4 (v_call C__law_draw_spans l__law_draw_spans hr (by decide) (a_cons (v_var 1) (a_cons v_int (a_cons (v_ix (v_lst (a_cons v_int (a_cons v_int (a_cons v_int a_nil)))) (v_var 2)) (a_cons (v_var 3) a_nil))))))
  (s_cons (s_if (v_ct (k_eq m) (v_call C__law_pick l__law_pick hr (by decide) (a_cons (v_var 1) (a_cons v_int a_nil))) v_int (nomark _)) (s_one (s_parU (i := 4) (j := 3) m hN (v_b (b_tuple mg_tuple) (a_cons (v_lc [("a", 8), ("b", 9)] m hN (i_seq (v_var 4)) (by rfl) (fun _ _ _ _ _ => (g_tup m.blk (gs_cons (g_name hN 8) (gs_cons (g_name hN 9) gs_nil)))) (fun _ _ _ _ _ => ts_nil) (fun _ _ _ _ _ => (v_tup (a_cons (v_var 8) (a_cons (v_add (v_var 8) (v_var 3)) a_nil))))) a_nil)) (v_var 3))) s_nil)
  (s_cons (s_par (i := 5) (j := 6) m hN (v_lst a_nil) v_non)
  (s_cons (s_for PassesOwn.never m (i_enum mg_enumerate (v_var 4)) (g_tup m (gs_cons (g_name hN 7) (gs_cons (g_tup m (gs_cons (g_name hN 8) (gs_cons (g_name hN 9) gs_nil))) gs_nil))) (s_one (s_if (PW.pt (v_wor (v_ct k_isN (v_var 6) v_non (nomark _)) (v_wor1 (v_ct (k_ge m) (v_var 8) (v_var 6) (nomark _))))) (s_one (s_par (i := 5) (j := 6) m hN (v_add (v_var 5) (v_lst (a_cons (v_var 7) a_nil))) (v_var 9))) s_nil)))
  (s_cons (s_if (v_ct (k_ne m) (v_b (b_repr m mg_repr) (a_cons (v_call C_taken_when_free l_taken_when_free hr (by decide) (a_cons (v_var 4) a_nil)) a_nil)) (v_b (b_repr m mg_repr) (a_cons (v_b (b_tuple mg_tuple) (a_cons (v_var 5) a_nil)) a_nil)) (nomark _)) (s_one (s_ret v_bl)) s_nil)
  (s_cons (s_set hN 10 (v_lc [("a", 8), ("b", 9)] m hN (i_seq (v_var 4)) (by rfl) (fun _ _ _ _ _ => (g_tup m.blk (gs_cons (g_name hN 8) (gs_cons (g_name hN 9) gs_nil)))) (fun _ _ _ _ _ => ts_nil) (fun _ _ _ _ _ => (v_sub (v_var 9) (v_var 8)))))
  (s_cons (s_par (i := 11) (j := 12) m hN (v_b (b_sum m mg_sum) (a_cons (v_lc [("i", 7)] m hN (i_seq (v_var 5)) (by rfl) (fun _ _ _ _ _ => (g_name hN 7)) (fun _ _ _ _ _ => ts_nil) (fun _ _ _ _ _ => (v_ix (v_var 10) (v_var 7)))) a_nil)) (v_call C__law_best l__law_best hr (by decide) (a_cons (v_var 4) (a_cons (v_var 10) a_nil))))
  (s_cons (s_if (PW.pt (v_wor (v_ct (k_ne m) (v_call C_worth_of l_worth_of hr (by decide) (a_cons (v_var 4) (a_cons (v_b (b_tuple mg_tuple) (a_cons (v_var 5) a_nil)) a_nil))) (v_var 11) (nomark _)) (v_wor (v_ct (k_ne m) (v_call C_best_worth l_best_worth hr (by decide) (a_cons (v_var 4) a_nil)) (v_var 12) (nomark _)) (v_wor1 (v_ct (k_gt m) (v_var 12) (v_mul (v_var 3) (v_var 11)) (nomark _)))))) (s_one (s_ret v_bl)) s_nil)
  (s_cons (s_set hN 13 (v_b (b_tuple mg_tuple) (a_cons (v_lc [("i", 7)] m hN (i_r1 mg_range (v_b (b_len mg_len) (a_cons (v_var 4) a_nil))) (by rfl) (fun _ _ _ _ _ => (g_name hN 7)) (fun _ _ _ _ _ => (ts_one (v_ct (k_eq m.blk) (v_call C__law_pick l__law_pick hr (by decide) (a_cons (v_var 1) (a_cons v_int a_nil))) v_int (nomark _)))) (fun _ _ _ _ _ => (v_var 7))) a_nil)))
  (s_cons (s_if (v_ct (k_ne m) (v_call C_worth_of l_worth_of hr (by decide) (a_cons (v_var 4) (a_cons (v_var 13) a_nil))) (v_b (b_sum m mg_sum) (a_cons (v_lc [("i", 7)] m hN (i_seq (v_var 13)) (by rfl) (fun _ _ _ _ _ => (g_name hN 7)) (fun _ _ _ _ _ => ts_nil) (fun _ _ _ _ _ => (v_ix (v_var 10) (v_var 7)))) a_nil)) (nomark _)) (s_one (s_ret v_bl)) s_nil)
  (s_one (s_if (PW.pt (v_wand (v_ct (k_lt m) (v_lenDict mg_len mg_dict m (v_lc [("size", 16)] m hN (i_seq (v_var 10)) (by rfl) (fun _ _ _ _ _ => (g_name hN 16)) (fun _ _ _ _ _ => ts_nil) (fun _ _ _ _ _ => (v_tup (a_cons (v_var 16) (a_cons v_int a_nil)))))) v_int (nomark _)) (v_wand1 (v_ct (k_ne m) (v_b (b_len mg_len) (a_cons (v_var 5) a_nil)) (v_call C__law_best l__law_best hr (by decide) (a_cons (v_var 4) (a_cons (v_lc [("span", 15)] m hN (i_seq (v_var 4)) (by rfl) (fun _ _ _ _ _ => (g_name hN 15)) (fun _ _ _ _ _ => ts_nil) (fun _ _ _ _ _ => v_int)) a_nil))) (nomark _))))) (s_one (s_ret v_bl)) s_nil))))))))))))))
  (s_cons (s_set hN 3 (v_add v_int (v_call C__law_pick l__law_pick hr (by decide) (a_cons (v_var 1) (a_cons v_int a_nil)))))
  (s_cons (s_set hN 14 (v_tup (a_cons (v_tup (a_cons v_int (a_cons v_int a_nil))) (a_cons (v_tup (a_cons v_int (a_cons (v_var 3) a_nil))) a_nil))))
  (s_one (s_ret (v_andv (v_c (k_eq m) (v_call C_worth_of l_worth_of hr (by decide) (a_cons (v_var 14) (a_cons (v_call C_taken_when_free l_taken_when_free hr (by decide) (a_cons (v_var 14) a_nil)) a_nil))) v_int (nomark _)) (v_one (v_c (k_eq m) (v_call C_best_worth l_best_worth hr (by decide) (a_cons (v_var 14) a_nil)) (v_var 3) (nomark _)))))))))
theorem all_mk {l : PySem.W.OpenLaw} {w : World} {K : PySem.W.Frag} {h : Heap} {mg : Str → Option Value} {fa : Addr} (X : K.In h) (G : h.Ns mainGlobals mg) (hfa : mg "law" = some (.ref fa))
    {f0 : Addr} {od0 an0 : Option Addr} {sl0 : Array (Option Value)} {oc0 kV0 dc0 pm0 cd0 ct0 : Value} (a0 : PySem.W.nsIn K mainGlobals "taken_of" = some (some (.ref f0))) (l0 : K.lookup f0 = some ⟨oc0, od0, .func (PySem.W.fnOf "taken_of" "taken_of" (defArgs s_taken_of) (defBody s_taken_of) (defScope s_taken_of) .none kV0 dc0 pm0 an0 cd0 ct0), sl0⟩) (c0 : PySem.W.codeIn K cd0 "taken_of" = true) (k0 : PySem.W.keepIn K (.ref f0) = true)
    {f1 : Addr} {od1 an1 : Option Addr} {sl1 : Array (Option Value)} {oc1 kV1 dc1 pm1 cd1 ct1 : Value} (a1 : PySem.W.nsIn K mainGlobals "taken_when_free" = some (some (.ref f1))) (l1 : K.lookup f1 = some ⟨oc1, od1, .func (PySem.W.fnOf "taken_when_free" "taken_when_free" (defArgs s_taken_when_free) (defBody s_taken_when_free) (defScope s_taken_when_free) .none kV1 dc1 pm1 an1 cd1 ct1), sl1⟩) (c1 : PySem.W.codeIn K cd1 "taken_when_free" = true) (k1 : PySem.W.keepIn K (.ref f1) = true)
    {f2 : Addr} {od2 an2 : Option Addr} {sl2 : Array (Option Value)} {oc2 kV2 dc2 pm2 cd2 ct2 : Value} (a2 : PySem.W.nsIn K mainGlobals "worth_of" = some (some (.ref f2))) (l2 : K.lookup f2 = some ⟨oc2, od2, .func (PySem.W.fnOf "worth_of" "worth_of" (defArgs s_worth_of) (defBody s_worth_of) (defScope s_worth_of) .none kV2 dc2 pm2 an2 cd2 ct2), sl2⟩) (c2 : PySem.W.codeIn K cd2 "worth_of" = true) (k2 : PySem.W.keepIn K (.ref f2) = true)
    {f3 : Addr} {od3 an3 : Option Addr} {sl3 : Array (Option Value)} {oc3 kV3 dc3 pm3 cd3 ct3 : Value} (a3 : PySem.W.nsIn K mainGlobals "best_worth" = some (some (.ref f3))) (l3 : K.lookup f3 = some ⟨oc3, od3, .func (PySem.W.fnOf "best_worth" "best_worth" (defArgs s_best_worth) (defBody s_best_worth) (defScope s_best_worth) .none kV3 dc3 pm3 an3 cd3 ct3), sl3⟩) (c3 : PySem.W.codeIn K cd3 "best_worth" = true) (k3 : PySem.W.keepIn K (.ref f3) = true)
    {f4 : Addr} {od4 an4 : Option Addr} {sl4 : Array (Option Value)} {oc4 kV4 dc4 pm4 cd4 ct4 : Value} (a4 : PySem.W.nsIn K mainGlobals "span_end" = some (some (.ref f4))) (l4 : K.lookup f4 = some ⟨oc4, od4, .func (PySem.W.fnOf "span_end" "span_end" (defArgs s_span_end) (defBody s_span_end) (defScope s_span_end) .none kV4 dc4 pm4 an4 cd4 ct4), sl4⟩) (c4 : PySem.W.codeIn K cd4 "span_end" = true) (k4 : PySem.W.keepIn K (.ref f4) = true)
    {f5 : Addr} {od5 an5 : Option Addr} {sl5 : Array (Option Value)} {oc5 kV5 dc5 pm5 cd5 ct5 : Value} (a5 : PySem.W.nsIn K mainGlobals "_law_open_cells" = some (some (.ref f5))) (l5 : K.lookup f5 = some ⟨oc5, od5, .func (PySem.W.fnOf "_law_open_cells" "_law_open_cells" (defArgs s__law_open_cells) (defBody s__law_open_cells) (defScope s__law_open_cells) .none kV5 dc5 pm5 an5 cd5 ct5), sl5⟩) (c5 : PySem.W.codeIn K cd5 "_law_open_cells" = true) (k5 : PySem.W.keepIn K (.ref f5) = true)
    {f6 : Addr} {od6 an6 : Option Addr} {sl6 : Array (Option Value)} {oc6 kV6 dc6 pm6 cd6 ct6 : Value} (a6 : PySem.W.nsIn K mainGlobals "_law_pick" = some (some (.ref f6))) (l6 : K.lookup f6 = some ⟨oc6, od6, .func (PySem.W.fnOf "_law_pick" "_law_pick" (defArgs s__law_pick) (defBody s__law_pick) (defScope s__law_pick) .none kV6 dc6 pm6 an6 cd6 ct6), sl6⟩) (c6 : PySem.W.codeIn K cd6 "_law_pick" = true) (k6 : PySem.W.keepIn K (.ref f6) = true)
    {f7 : Addr} {od7 an7 : Option Addr} {sl7 : Array (Option Value)} {oc7 kV7 dc7 pm7 cd7 ct7 : Value} (a7 : PySem.W.nsIn K mainGlobals "_law_draw_spans" = some (some (.ref f7))) (l7 : K.lookup f7 = some ⟨oc7, od7, .func (PySem.W.fnOf "_law_draw_spans" "_law_draw_spans" (defArgs s__law_draw_spans) (defBody s__law_draw_spans) (defScope s__law_draw_spans) .none kV7 dc7 pm7 an7 cd7 ct7), sl7⟩) (c7 : PySem.W.codeIn K cd7 "_law_draw_spans" = true) (k7 : PySem.W.keepIn K (.ref f7) = true)
    {f8 : Addr} {od8 an8 : Option Addr} {sl8 : Array (Option Value)} {oc8 kV8 dc8 pm8 cd8 ct8 : Value} (a8 : PySem.W.nsIn K mainGlobals "_law_at_once" = some (some (.ref f8))) (l8 : K.lookup f8 = some ⟨oc8, od8, .func (PySem.W.fnOf "_law_at_once" "_law_at_once" (defArgs s__law_at_once) (defBody s__law_at_once) (defScope s__law_at_once) .none kV8 dc8 pm8 an8 cd8 ct8), sl8⟩) (c8 : PySem.W.codeIn K cd8 "_law_at_once" = true) (k8 : PySem.W.keepIn K (.ref f8) = true)
    {f9 : Addr} {od9 an9 : Option Addr} {sl9 : Array (Option Value)} {oc9 kV9 dc9 pm9 cd9 ct9 : Value} (a9 : PySem.W.nsIn K mainGlobals "_law_best" = some (some (.ref f9))) (l9 : K.lookup f9 = some ⟨oc9, od9, .func (PySem.W.fnOf "_law_best" "_law_best" (defArgs s__law_best) (defBody s__law_best) (defScope s__law_best) .none kV9 dc9 pm9 an9 cd9 ct9), sl9⟩) (c9 : PySem.W.codeIn K cd9 "_law_best" = true) (k9 : PySem.W.keepIn K (.ref f9) = true)
    {f10 : Addr} {od10 an10 : Option Addr} {sl10 : Array (Option Value)} {oc10 kV10 dc10 pm10 cd10 ct10 : Value} (a10 : PySem.W.nsIn K mainGlobals "law" = some (some (.ref f10))) (l10 : K.lookup f10 = some ⟨oc10, od10, .func (PySem.W.fnOf "law" "law" (defArgs s_law) (defBody s_law) (defScope s_law) .none kV10 dc10 pm10 an10 cd10 ct10), sl10⟩) (c10 : PySem.W.codeIn K cd10 "law" = true) (k10 : PySem.W.keepIn K (.ref f10) = true)
    (z_int : PySem.W.nsIn K mainGlobals "int" = some none)
    (z_abs : PySem.W.nsIn K mainGlobals "abs" = some none)
    (z_len : PySem.W.nsIn K mainGlobals "len" = some none)
    (z_tuple : PySem.W.nsIn K mainGlobals "tuple" = some none)
    (z_list : PySem.W.nsIn K mainGlobals "list" = some none)
    (z_range : PySem.W.nsIn K mainGlobals "range" = some none)
    (z_sum : PySem.W.nsIn K mainGlobals "sum" = some none)
    (z_sorted : PySem.W.nsIn K mainGlobals "sorted" = some none)
    (z_max : PySem.W.nsIn K mainGlobals "max" = some none)
    (z_zip : PySem.W.nsIn K mainGlobals "zip" = some none)
    (z_enumerate : PySem.W.nsIn K mainGlobals "enumerate" = some none)
    (z_repr : PySem.W.nsIn K mainGlobals "repr" = some none)
    (z_dict : PySem.W.nsIn K mainGlobals "dict" = some none)
    : ∃ fd : FuncData, (∀ (s : Shared) (v : Value), BindsTo s fd ⟨[v], []⟩ [("script", v)]) ∧ ∀ base : Heap, K.In base → base.Ns mainGlobals mg → FnG l.prog w K mg base 3 fa fd ["script"] (VL.spLaw K) := by
  have F_taken_of := fun_mk (st := s_taken_of) l0 c0 k0
  have b_taken_of := F_taken_of.binds (ps := ["spans", "some"]) fun _ _ _ _ _ _ us hl => match us, hl with | [_, _], _ => rfl
  have g_taken_of := PySem.W.mg_of X G a0
  have F_taken_when_free := fun_mk (st := s_taken_when_free) l1 c1 k1
  have b_taken_when_free := F_taken_when_free.binds (ps := ["spans"]) fun _ _ _ _ _ _ us hl => match us, hl with | [_], _ => rfl
  have g_taken_when_free := PySem.W.mg_of X G a1
  have F_worth_of := fun_mk (st := s_worth_of) l2 c2 k2
  have b_worth_of := F_worth_of.binds (ps := ["spans", "lot"]) fun _ _ _ _ _ _ us hl => match us, hl with | [_, _], _ => rfl
  have g_worth_of := PySem.W.mg_of X G a2
  have F_best_worth := fun_mk (st := s_best_worth) l3 c3 k3
  have b_best_worth := F_best_worth.binds (ps := ["spans"]) fun _ _ _ _ _ _ us hl => match us, hl with | [_], _ => rfl
  have g_best_worth := PySem.W.mg_of X G a3
  have F_span_end := fun_mk (st := s_span_end) l4 c4 k4
  have b_span_end := F_span_end.binds (ps := ["span"]) fun _ _ _ _ _ _ us hl => match us, hl with | [_], _ => rfl
  have g_span_end := PySem.W.mg_of X G a4
  have F__law_open_cells := fun_mk (st := s__law_open_cells) l5 c5 k5
  have b__law_open_cells := F__law_open_cells.binds (ps := ["script"]) fun _ _ _ _ _ _ us hl => match us, hl with | [_], _ => rfl
  have g__law_open_cells := PySem.W.mg_of X G a5
  have F__law_pick := fun_mk (st := s__law_pick) l6 c6 k6
  have b__law_pick := F__law_pick.binds (ps := ["source", "most"]) fun _ _ _ _ _ _ us hl => match us, hl with | [_, _], _ => rfl
  have g__law_pick := PySem.W.mg_of X G a6
  have F__law_draw_spans := fun_mk (st := s__law_draw_spans) l7 c7 k7
  have b__law_draw_spans := F__law_draw_spans.binds (ps := ["source", "many", "far", "most"]) fun _ _ _ _ _ _ us hl => match us, hl with | [_, _, _, _], _ => rfl
  have g__law_draw_spans := PySem.W.mg_of X G a7
  have F__law_at_once := fun_mk (st := s__law_at_once) l8 c8 k8
  have b__law_at_once := F__law_at_once.binds (ps := ["spans"]) fun _ _ _ _ _ _ us hl => match us, hl with | [_], _ => rfl
  have g__law_at_once := PySem.W.mg_of X G a8
  have F__law_best := fun_mk (st := s__law_best) l9 c9 k9
  have b__law_best := F__law_best.binds (ps := ["spans", "sizes"]) fun _ _ _ _ _ _ us hl => match us, hl with | [_, _], _ => rfl
  have g__law_best := PySem.W.mg_of X G a9
  have F_law := fun_mk (st := s_law) l10 c10 k10
  have b_law := F_law.binds (ps := ["script"]) fun _ _ _ _ _ _ us hl => match us, hl with | [_], _ => rfl
  have g_law := PySem.W.mg_of X G a10
  have mg_int := PySem.W.mg_none_of X G z_int
  have mg_abs := PySem.W.mg_none_of X G z_abs
  have mg_len := PySem.W.mg_none_of X G z_len
  have mg_tuple := PySem.W.mg_none_of X G z_tuple
  have mg_list := PySem.W.mg_none_of X G z_list
  have mg_range := PySem.W.mg_none_of X G z_range
  have mg_sum := PySem.W.mg_none_of X G z_sum
  have mg_sorted := PySem.W.mg_none_of X G z_sorted
  have mg_max := PySem.W.mg_none_of X G z_max
  have mg_zip := PySem.W.mg_none_of X G z_zip
  have mg_enumerate := PySem.W.mg_none_of X G z_enumerate
  have mg_repr := PySem.W.mg_none_of X G z_repr
  have mg_dict := PySem.W.mg_none_of X G z_dict
  have e := hfa.symm.trans g_law
  cases e
  refine ⟨PySem.W.fnOf "law" "law" (defArgs s_law) (defBody s_law) (defScope s_law) .none kV10 dc10 pm10 an10 cd10 ct10, fun s v => .of_eq rfl, fun base _ _ => ?_⟩
  have O : FnG l.prog w K mg base 1 _ _ ["script"] (spOpen K) := fnG_of F__law_open_cells sc__law_open_cells (fun vs H Q E h => by obtain ⟨a, ns, rfl, _⟩ := h; rfl) fun cdv A outer s H vs Q E hr h => ⟨_, p__law_open_cells mg_int mg_abs, open_run h⟩
  have C__law_pick : Cb l.prog w K mg base 1 "_law_pick" 2 φPick := ⟨_, _, ["source", "most"], fnG_of F__law_pick sc__law_pick (spV_len rfl) fun cdv A outer s H vs Q E hr h => ⟨_, p__law_pick mg_int mg_len hr, pick_run h⟩, g__law_pick, F__law_pick.kp, b__law_pick⟩
  have K_span_end : Key1 l.prog w K mg "span_end" := ⟨_, g_span_end, fun A s v a c as kin lim room r => at1_turn F_span_end rfl sc_span_end rfl (by decide) b_span_end kin lim room r⟩
  have C_taken_of : Cb l.prog w K mg base 1 "taken_of" 2 φ_taken_of := cb_of F_taken_of sc_taken_of g_taken_of b_taken_of rfl (by decide) m_taken_of fun cdv A outer s H E hr => p_taken_of  mg_tuple  hr
  have C_taken_when_free : Cb l.prog w K mg base 2 "taken_when_free" 1 φ_taken_when_free := cb_of F_taken_when_free sc_taken_when_free g_taken_when_free b_taken_when_free rfl (by decide) m_taken_when_free fun cdv A outer s H E hr => p_taken_when_free C_taken_of l_taken_of mg_list mg_range mg_len  hr
  have C_worth_of : Cb l.prog w K mg base 1 "worth_of" 2 φ_worth_of := cb_of F_worth_of sc_worth_of g_worth_of b_worth_of rfl (by decide) m_worth_of fun cdv A outer s H E hr => p_worth_of  mg_sum  hr
  have C_best_worth : Cb l.prog w K mg base 1 "best_worth" 1 φ_best_worth := cb_of F_best_worth sc_best_worth g_best_worth b_best_worth rfl (by decide) m_best_worth fun cdv A outer s H E hr => p_best_worth  mg_sorted mg_max K_span_end hr
  have C__law_draw_spans : Cb l.prog w K mg base 2 "_law_draw_spans" 4 φ__law_draw_spans := cb_of F__law_draw_spans sc__law_draw_spans g__law_draw_spans b__law_draw_spans rfl (by decide) m__law_draw_spans fun cdv A outer s H E hr => p__law_draw_spans C__law_pick l__law_pick mg_range mg_sorted mg_tuple mg_zip  hr
  have C__law_at_once : Cb l.prog w K mg base 1 "_law_at_once" 1 φ__law_at_once := cb_of F__law_at_once sc__law_at_once g__law_at_once b__law_at_once rfl (by decide) m__law_at_once fun cdv A outer s H E hr => p__law_at_once  mg_max mg_len  hr
  have C__law_best : Cb l.prog w K mg base 2 "_law_best" 2 φ__law_best := cb_of F__law_best sc__law_best g__law_best b__law_best rfl (by decide) m__law_best fun cdv A outer s H E hr => p__law_best C__law_at_once l__law_at_once mg_len mg_range mg_sum  hr
  refine fnG_of F_law sc_law (fun vs H Q E h => by obtain ⟨a, ns, rfl, _⟩ := h; rfl) fun cdv A outer s H vs Q E hr h => ?_
  obtain ⟨a, ns, rfl, hS, hl, hq⟩ := h
  exact ⟨_, pss_cons (ps_set (i := 1) sc_law.nd rfl (by first | exact .inl rfl | exact .inr rfl) (pe_callG O g__law_open_cells F__law_open_cells.kp b__law_open_cells hr (by decide) (pa_cons (pv 0) pa_nil))) (p_law C__law_pick l__law_pick C__law_draw_spans l__law_draw_spans C_taken_when_free l_taken_when_free C__law_best l__law_best C_worth_of l_worth_of C_best_worth l_best_worth mg_range mg_tuple mg_enumerate mg_repr mg_sum mg_len mg_dict  hr), law_entry (by decide) m_law hS hl hq⟩
end k58
open PySem PySem.W PyProof.Rows
set_option maxHeartbeats 0 in
theorem PySem.Challenge.cw_beforeitcomes_k58_whole_spans_in_one_roo_holds : PySem.Challenge.rw_beforeitcomes_k58_whole_spans_in_one_roo.Holds := by
  w_on; o_law; k_head; (case hw => w_witness2)
  k_fill
  refine VL.walk_ofG (l := PySem.Challenge.rw_beforeitcomes_k58_whole_spans_in_one_roo) (n := 63) (k := 3) (x := "script") (sp := fun w => VL.spLaw _) rfl (by decide) rfl (VL.room_callerA _ (by decide)) (fun w h Y => PySem.W.kIn_of Y) ?F (fun _ _ a ns hl _ _ hS => ⟨a, ns, rfl, hS, hl, fun _ => rfl⟩)
  case F =>
    intro w mg fa h KX G hmg
    refine' k58.all_mk KX G hmg ?a0 ?l0 ?c0 ?k0 ?a1 ?l1 ?c1 ?k1 ?a2 ?l2 ?c2 ?k2 ?a3 ?l3 ?c3 ?k3 ?a4 ?l4 ?c4 ?k4 ?a5 ?l5 ?c5 ?k5 ?a6 ?l6 ?c6 ?k6 ?a7 ?l7 ?c7 ?k7 ?a8 ?l8 ?c8 ?k8 ?a9 ?l9 ?c9 ?k9 ?a10 ?l10 ?c10 ?k10 ?z_int ?z_abs ?z_len ?z_tuple ?z_list ?z_range ?z_sum ?z_sorted ?z_max ?z_zip ?z_enumerate ?z_repr ?z_dict
    (case a0 => k_is); (case l0 => k_is); (case c0 => k_is); (case k0 => k_is); (case a1 => k_is); (case l1 => k_is); (case c1 => k_is); (case k1 => k_is); (case a2 => k_is); (case l2 => k_is); (case c2 => k_is); (case k2 => k_is); (case a3 => k_is); (case l3 => k_is); (case c3 => k_is); (case k3 => k_is); (case a4 => k_is); (case l4 => k_is); (case c4 => k_is); (case k4 => k_is); (case a5 => k_is); (case l5 => k_is); (case c5 => k_is); (case k5 => k_is); (case a6 => k_is); (case l6 => k_is); (case c6 => k_is); (case k6 => k_is); (case a7 => k_is); (case l7 => k_is); (case c7 => k_is); (case k7 => k_is); (case a8 => k_is); (case l8 => k_is); (case c8 => k_is); (case k8 => k_is); (case a9 => k_is); (case l9 => k_is); (case c9 => k_is); (case k9 => k_is); (case a10 => k_is); (case l10 => k_is); (case c10 => k_is); (case k10 => k_is); (case z_int => k_is); (case z_abs => k_is); (case z_len => k_is); (case z_tuple => k_is); (case z_list => k_is); (case z_range => k_is); (case z_sum => k_is); (case z_sorted => k_is); (case z_max => k_is); (case z_zip => k_is); (case z_enumerate => k_is); (case z_repr => k_is); (case z_dict => k_is)
