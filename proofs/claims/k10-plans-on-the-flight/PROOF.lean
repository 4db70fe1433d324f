import PyProof.Rows.All
import Wide.All
import OpenK.AllK
import Wide.FinOn
import PyProof.EqAt
import PyProof.EqKinds
import PyProof.TupleCall
import KE.DataEq
import HandS.ForMost
import HandS.ForExc
import HandS.SortInts
import HandS.Conv
import HandS.RevRange
import HandS.IsInst
import HandS.TryMany
import HandS.ExcIs
import HandS.Zip
import KE.DataFind
import HandS.Rev
import HandS.MapObj
import PySem.Challenge.RW_lockflight_k10_whole_plans_on_the_flight
set_option Elab.async false
set_option linter.all false
set_option autoImplicit false
set_option maxRecDepth 100000
set_option maxHeartbeats 4000000
/-! The value layer: deep data D over the abstract heap, owned objects R, a state (G, H, R). -/
namespace Fl
open PySem PySem.Spec PyProof.Rows L2

theorem lim_le {n : Nat} (h : n ≤ 50000) : n ≤ sizeLine := Nat.le_trans h (by decide)
theorem lim_lt {n : Nat} (h : n ≤ 50000) : n < sizeLine := Nat.lt_of_le_of_lt h (by decide)

/-! ### heaps that grow -/
def Gx (H H' : Hp) : Prop := ∀ a o, H a = some o → H' a = some o
theorem Gx.refl (H : Hp) : Gx H H := fun _ _ h => h
theorem Gx.trans {H H1 H2 : Hp} (a : Gx H H1) (b : Gx H1 H2) : Gx H H2 := fun x o h => b x o (a x o h)
theorem Gx.free {H H' : Hp} (e : Gx H H') {a : Addr} (h : H' a = none) : H a = none := by
  cases q : H a with
  | none => rfl
  | some o => rw [e a o q] at h; cases h
theorem Gx.new {H : Hp} {p : Addr} {o : HO} (h : H p = none) : Gx H (upd H p o) := fun a u e => by
  rw [upd_ne (ne_of_none e h)]; exact e

/-! ### data -/
mutual
/-- the value v is the datum x, by the objects of G alone -/
inductive Hv (G : Hp) : V → PyData → Prop
  | non : Hv G .non .none
  | bl (b : Bool) : Hv G (.bl b) (.bool b)
  | int (i : Int) : Hv G (.int i) (.int i)
  | str (x : Str) : Hv G (.str x) (.str x)
  | lst {a : Addr} {xs : List V} {ds : List PyData} : G a = some (.lst xs) → xs.length ≤ 50000 → Hvs G xs ds → Hv G (.ref a) (.list ds)
  | tup {a : Addr} {xs : List V} {ds : List PyData} : G a = some (.tup xs) → xs.length ≤ 50000 → Hvs G xs ds → Hv G (.ref a) (.tuple ds)
inductive Hvs (G : Hp) : List V → List PyData → Prop
  | nil : Hvs G [] []
  | cons {v : V} {vs : List V} {d : PyData} {ds : List PyData} : Hv G v d → Hvs G vs ds → Hvs G (v :: vs) (d :: ds)
end
mutual
theorem Hv.mono {G G' : Hp} (e : Gx G G') : ∀ (d : PyData) {v : V}, Hv G v d → Hv G' v d
  | .none, _, h => by cases h; exact .non
  | .bool b, _, h => by cases h; exact .bl b
  | .int i, _, h => by cases h; exact .int i
  | .str x, _, h => by cases h; exact .str x
  | .list ds, _, h => by
    cases h with
    | lst h1 h2 h3 => exact .lst (e _ _ h1) h2 (Hvs.mono e ds h3)
  | .tuple ds, _, h => by
    cases h with
    | tup h1 h2 h3 => exact .tup (e _ _ h1) h2 (Hvs.mono e ds h3)
  | .dict _, _, h => by cases h
theorem Hvs.mono {G G' : Hp} (e : Gx G G') : ∀ (ds : List PyData) {vs : List V}, Hvs G vs ds → Hvs G' vs ds
  | [], _, h => by cases h; exact .nil
  | d :: ds, _, h => by
    cases h with
    | cons h1 h2 => exact .cons (Hv.mono e d h1) (Hvs.mono e ds h2)
end
mutual
theorem Hv.dp {K : PySem.W.Frag} {G : Hp} : ∀ (d : PyData) {v : V}, Hv G v d → Dp K G v d
  | .none, _, h => by cases h; exact .non
  | .bool b, _, h => by cases h; exact .bl b
  | .int i, _, h => by cases h; exact .int i
  | .str x, _, h => by cases h; exact .str x
  | .list ds, _, h => by
    cases h with
    | lst h1 h2 h3 => exact .lst (SqL.of h1) (Hvs.dp ds h3)
  | .tuple ds, _, h => by
    cases h with
    | tup h1 h2 h3 => exact .tup (SqT.of h1) (Hvs.dp ds h3)
  | .dict _, _, h => by cases h
theorem Hvs.dp {K : PySem.W.Frag} {G : Hp} : ∀ (ds : List PyData) {vs : List V}, Hvs G vs ds → DpAll K G vs ds
  | [], _, h => by cases h; exact .nil
  | d :: ds, _, h => by
    cases h with
    | cons h1 h2 => exact .cons (Hv.dp d h1) (Hvs.dp ds h2)
end
mutual
theorem Hv.plain {G : Hp} : ∀ (d : PyData) {v : V}, Hv G v d → d.plain = true
  | .none, _, _ => rfl
  | .bool b, _, _ => rfl
  | .int i, _, _ => rfl
  | .str x, _, _ => rfl
  | .list ds, _, h => by
    cases h with
    | lst h1 h2 h3 => exact Hvs.plain ds h3
  | .tuple ds, _, h => by
    cases h with
    | tup h1 h2 h3 => exact Hvs.plain ds h3
  | .dict _, _, h => by cases h
theorem Hvs.plain {G : Hp} : ∀ (ds : List PyData) {vs : List V}, Hvs G vs ds → PyData.plainAll ds = true
  | [], _, _ => rfl
  | d :: ds, _, h => by
    cases h with
    | cons h1 h2 =>
      show (d.plain && PyData.plainAll ds) = true
      rw [Hv.plain d h1, Hvs.plain ds h2]; rfl
end
theorem Hvs.len {G : Hp} : ∀ {ds : List PyData} {vs : List V}, Hvs G vs ds → vs.length = ds.length
  | [], _, h => by cases h; rfl
  | d :: ds, _, h => by
    cases h with
    | cons h1 h2 => simp [Hvs.len h2]
theorem Hvs.get {G : Hp} : ∀ {ds : List PyData} {vs : List V} {i : Nat} {v : V}, Hvs G vs ds → vs[i]? = some v → ∃ d, ds[i]? = some d ∧ Hv G v d
  | [], _, i, v, h, e => by cases h; simp at e
  | d :: ds, _, 0, v, h, e => by
    cases h with
    | cons h1 h2 => simp at e; subst e; exact ⟨d, rfl, h1⟩
  | d :: ds, _, i + 1, v, h, e => by
    cases h with
    | cons h1 h2 =>
      obtain ⟨d', q1, q2⟩ := Hvs.get (i := i) h2 (by simpa using e)
      exact ⟨d', by simpa using q1, q2⟩
theorem Hvs.getd {G : Hp} : ∀ {ds : List PyData} {vs : List V} {i : Nat} {d : PyData}, Hvs G vs ds → ds[i]? = some d → ∃ v, vs[i]? = some v ∧ Hv G v d
  | [], _, i, v, h, e => by simp at e
  | d :: ds, _, 0, v, h, e => by
    cases h with
    | cons h1 h2 => simp at e; subst e; exact ⟨_, rfl, h1⟩
  | d :: ds, _, i + 1, v, h, e => by
    cases h with
    | cons h1 h2 =>
      obtain ⟨d', q1, q2⟩ := Hvs.getd (i := i) h2 (by simpa using e)
      exact ⟨d', by simpa using q1, q2⟩
theorem Hvs.app {G : Hp} : ∀ {ds es : List PyData} {vs ws : List V}, Hvs G vs ds → Hvs G ws es → Hvs G (vs ++ ws) (ds ++ es)
  | [], _, _, _, h, k => by cases h; exact k
  | d :: ds, _, _, _, h, k => by
    cases h with
    | cons h1 h2 => exact .cons h1 (Hvs.app h2 k)
theorem Hvs.set {G : Hp} {x : PyData} {w : V} (q : Hv G w x) : ∀ {ds : List PyData} {vs : List V} (i : Nat), Hvs G vs ds → Hvs G (vs.set i w) (ds.set i x)
  | [], _, i, h => by cases h; exact .nil
  | d :: ds, _, 0, h => by
    cases h with
    | cons h1 h2 => exact .cons q h2
  | d :: ds, _, i + 1, h => by
    cases h with
    | cons h1 h2 => exact .cons h1 (Hvs.set q i h2)
theorem Hvs.drop {G : Hp} : ∀ {ds : List PyData} {vs : List V} (i : Nat), Hvs G vs ds → Hvs G (vs.drop i) (ds.drop i)
  | _, _, 0, h => h
  | [], _, i + 1, h => by cases h; exact .nil
  | d :: ds, _, i + 1, h => by
    cases h with
    | cons h1 h2 => exact Hvs.drop i h2
theorem Hvs.take {G : Hp} : ∀ {ds : List PyData} {vs : List V} (i : Nat), Hvs G vs ds → Hvs G (vs.take i) (ds.take i)
  | _, _, 0, h => .nil
  | [], _, i + 1, h => by cases h; exact .nil
  | d :: ds, _, i + 1, h => by
    cases h with
    | cons h1 h2 => exact .cons h1 (Hvs.take i h2)
theorem Hvs.rev {G : Hp} : ∀ {ds : List PyData} {vs : List V}, Hvs G vs ds → Hvs G vs.reverse ds.reverse
  | [], _, h => by cases h; exact .nil
  | d :: ds, _, h => by
    cases h with
    | cons h1 h2 =>
      rw [List.reverse_cons, List.reverse_cons]
      exact Hvs.app (Hvs.rev h2) (.cons h1 .nil)
/-- lists of one kind of scalars -/
theorem Hvs.bls {G : Hp} : ∀ {bs : List Bool} {vs : List V}, Hvs G vs (bs.map .bool) → vs = bs.map V.bl
  | [], _, h => by cases h; rfl
  | b :: bs, _, h => by
    cases h with
    | cons h1 h2 => cases h1; rw [Hvs.bls h2]; rfl
theorem Hvs.ints {G : Hp} : ∀ {bs : List Int} {vs : List V}, Hvs G vs (bs.map .int) → vs = bs.map V.int
  | [], _, h => by cases h; rfl
  | b :: bs, _, h => by
    cases h with
    | cons h1 h2 => cases h1; rw [Hvs.ints h2]; rfl
theorem Hvs.strs {G : Hp} : ∀ {bs : List Str} {vs : List V}, Hvs G vs (bs.map .str) → vs = bs.map V.str
  | [], _, h => by cases h; rfl
  | b :: bs, _, h => by
    cases h with
    | cons h1 h2 => cases h1; rw [Hvs.strs h2]; rfl
theorem hvs_ints {G : Hp} : ∀ (bs : List Int), Hvs G (bs.map V.int) (bs.map .int)
  | [] => .nil
  | b :: bs => .cons (.int b) (hvs_ints bs)
theorem hvs_bls {G : Hp} : ∀ (bs : List Bool), Hvs G (bs.map V.bl) (bs.map .bool)
  | [] => .nil
  | b :: bs => .cons (.bl b) (hvs_bls bs)
theorem hvs_strs {G : Hp} : ∀ (bs : List Str), Hvs G (bs.map V.str) (bs.map .str)
  | [] => .nil
  | b :: bs => .cons (.str b) (hvs_strs bs)

/-! ### what a slot holds: a datum, an owned object's address, the script -/
inductive D where
  | d (x : PyData)
  | r (a : Addr)
  | s (ns : List Int)
def HD (K : PySem.W.Frag) (G : Hp) (v : V) : D → Prop
  | .d x => Hv G v x
  | .r a => v = .ref a
  | .s ns => ∃ a, v = .ref a ∧ SqL K G a (ns.map V.int)
theorem gx_sql {K : PySem.W.Frag} {G G' : Hp} {a : Addr} {xs : List V} (e : Gx G G') (h : SqL K G a xs) : SqL K G' a xs := by
  rcases h with (h | ⟨o, h⟩) | h
  · exact .inl (.inl (e _ _ h))
  · exact .inl (.inr ⟨o, e _ _ h⟩)
  · exact .inr h
theorem HD.mono {K : PySem.W.Frag} {G G' : Hp} (e : Gx G G') : ∀ {d : D} {v : V}, HD K G v d → HD K G' v d
  | .d x, _, h => Hv.mono e x h
  | .r a, _, h => h
  | .s ns, _, ⟨a, h1, h2⟩ => ⟨a, h1, gx_sql e h2⟩
/-- an owned object -/
inductive RO where
  | lst (ds : List PyData)
  | lsr (as : List Addr)
  | ins (C : Addr) (fs : List (Str × D))
  | dic (kvs : List (Key × D))
  | dit (kvs : List (List Key × Int))
inductive Fvs (K : PySem.W.Frag) (G : Hp) {κ : Type} : List (κ × V) → List (κ × D) → Prop
  | nil : Fvs K G [] []
  | cons {k : κ} {v : V} {d : D} {vs : List (κ × V)} {ds : List (κ × D)} : HD K G v d → Fvs K G vs ds → Fvs K G ((k, v) :: vs) ((k, d) :: ds)
theorem Fvs.mono {K : PySem.W.Frag} {G G' : Hp} {κ : Type} (e : Gx G G') : ∀ {vs : List (κ × V)} {ds : List (κ × D)}, Fvs K G vs ds → Fvs K G' vs ds
  | _, _, .nil => .nil
  | _, _, .cons h t => .cons (h.mono e) (Fvs.mono e t)
theorem Fvs.len {K : PySem.W.Frag} {G : Hp} {κ : Type} : ∀ {vs : List (κ × V)} {ds : List (κ × D)}, Fvs K G vs ds → vs.length = ds.length
  | _, _, .nil => rfl
  | _, _, .cons h t => by simp [Fvs.len t]
theorem Fvs.keys {K : PySem.W.Frag} {G : Hp} {κ : Type} : ∀ {vs : List (κ × V)} {ds : List (κ × D)}, Fvs K G vs ds → vs.map (·.1) = ds.map (·.1)
  | _, _, .nil => rfl
  | _, _, .cons h t => by simp [Fvs.keys t]
def Own1 (K : PySem.W.Frag) (G H : Hp) (a : Addr) : RO → Prop
  | .lst ds => ∃ vs, H a = some (.lst vs) ∧ vs.length ≤ 50000 ∧ Hvs G vs ds
  | .lsr as => H a = some (.lst (as.map .ref)) ∧ as.length ≤ 50000
  | .ins C fs => ∃ dx vs, H a = some (.ins C dx vs) ∧ Fvs K G vs fs
  | .dic kvs => ∃ vs, H a = some (.dK vs) ∧ vs.length ≤ 50000 ∧ Fvs K G vs kvs
  | .dit kvs => H a = some (.dT (kvs.map fun p => (p.1, V.int p.2))) ∧ kvs.length ≤ 50000
theorem Own1.there {K : PySem.W.Frag} {G H : Hp} {a : Addr} : ∀ {o : RO}, Own1 K G H a o → ∃ u, H a = some u
  | .lst _, ⟨_, h, _⟩ => ⟨_, h⟩
  | .lsr _, h => ⟨_, h.1⟩
  | .ins _ _, ⟨_, _, h, _⟩ => ⟨_, h⟩
  | .dic _, ⟨_, h, _⟩ => ⟨_, h⟩
  | .dit _, h => ⟨_, h.1⟩
theorem Own1.mono {K : PySem.W.Frag} {G G' H H' : Hp} {a : Addr} (e : Gx G G') (k : ∀ o, H a = some o → H' a = some o) : ∀ {o : RO}, Own1 K G H a o → Own1 K G' H' a o
  | .lst ds, ⟨vs, h, hl, q⟩ => ⟨vs, k _ h, hl, Hvs.mono e ds q⟩
  | .lsr _, h => ⟨k _ h.1, h.2⟩
  | .ins _ _, ⟨dx, vs, h, q⟩ => ⟨dx, vs, k _ h, q.mono e⟩
  | .dic _, ⟨vs, h, hl, q⟩ => ⟨vs, k _ h, hl, q.mono e⟩
  | .dit _, h => ⟨k _ h.1, h.2⟩

/-! ### states -/
abbrev Res := List (Addr × RO)
abbrev adr (R : Res) : List Addr := R.map (·.1)
structure Ok (K : PySem.W.Frag) (G H : Hp) (R : Res) : Prop where
  ex : Gx G H
  own : ∀ p ∈ R, G p.1 = none ∧ Own1 K G H p.1 p.2
  nd : (adr R).Nodup
structure Le (G H : Hp) (R : Res) (G' H' : Hp) (R' : Res) : Prop where
  g : Gx G G'
  h : ∀ a o, H a = some o → a ∉ adr R → H' a = some o
  n : ∀ a, G' a ≠ none → G a ≠ none ∨ H a = none ∨ a ∈ adr R
  r : ∀ a ∈ adr R', a ∈ adr R ∨ H a = none
  dm : ∀ a, H a ≠ none → H' a ≠ none
section
variable {K : PySem.W.Frag} {G H G' H' G'' H'' : Hp} {R R' R'' : Res}
theorem Le.refl : Le G H R G H R := ⟨Gx.refl G, fun _ _ h _ => h, fun _ h => .inl h, fun _ h => .inl h, fun _ h => h⟩
theorem Le.trans (a : Le G H R G' H' R') (b : Le G' H' R' G'' H'' R'') : Le G H R G'' H'' R'' where
  g := a.g.trans b.g
  h := fun x o e n => b.h x o (a.h x o e n) fun m => by
    rcases a.r x m with z | z
    · exact n z
    · rw [e] at z; cases z
  n := fun x e => by
    rcases b.n x e with z | z | z
    · exact a.n x z
    · refine .inr (.inl ?_)
      cases q : H x with
      | none => rfl
      | some o => exact absurd z (a.dm x (by rw [q]; simp))
    · rcases a.r x z with z | z
      · exact .inr (.inr z)
      · exact .inr (.inl z)
  r := fun x m => by
    rcases b.r x m with z | z
    · exact a.r x z
    · refine .inr ?_
      cases q : H x with
      | none => rfl
      | some o => exact absurd z (a.dm x (by rw [q]; simp))
  dm := fun x e => b.dm x (a.dm x e)
theorem Ok.there (ok : Ok K G H R) {a : Addr} (m : a ∈ adr R) : ∃ u, H a = some u := by
  obtain ⟨p, hp, rfl⟩ := List.mem_map.mp m
  exact Own1.there (ok.own p hp).2
/-- a new object is laid: visible -/
theorem Ok.seen {p : Addr} {o : HO} (ok : Ok K G H R) (n : H p = none) : Ok K (upd G p o) (upd H p o) R ∧ Le G H R (upd G p o) (upd H p o) R := by
  have ng : G p = none := ok.ex.free n
  have np : ∀ a, a ∈ adr R → a ≠ p := fun a m z => by
    obtain ⟨u, e⟩ := ok.there m
    rw [z, n] at e; cases e
  refine ⟨⟨fun a u e => ?_, fun q hq => ?_, ok.nd⟩, ⟨Gx.new ng, fun a u e _ => Gx.new n a u e, fun a e => ?_, fun a m => .inl m, fun a e => ?_⟩⟩
  · by_cases z : a = p
    · subst z; rw [upd_same] at e ⊢; exact e
    · rw [upd_ne z] at e ⊢; exact ok.ex a u e
  · have z := np q.1 (List.mem_map.mpr ⟨q, hq, rfl⟩)
    obtain ⟨h1, h2⟩ := ok.own q hq
    exact ⟨by rw [upd_ne z]; exact h1, Own1.mono (Gx.new ng) (fun u e => Gx.new n _ u e) h2⟩
  · by_cases z : a = p
    · subst z; exact .inr (.inl n)
    · rw [upd_ne z] at e; exact .inl e
  · by_cases z : a = p
    · subst z; rw [upd_same]; simp
    · rw [upd_ne z]; exact e
/-- a new object is laid: owned -/
theorem Ok.laid {p : Addr} {o : HO} {q : RO} (ok : Ok K G H R) (n : H p = none) (w : Own1 K G (upd H p o) p q) : Ok K G (upd H p o) ((p, q) :: R) ∧ Le G H R G (upd H p o) ((p, q) :: R) := by
  have ng : G p = none := ok.ex.free n
  have np : ∀ a, a ∈ adr R → a ≠ p := fun a m z => by
    obtain ⟨u, e⟩ := ok.there m
    rw [z, n] at e; cases e
  refine ⟨⟨fun a u e => Gx.new n a u (ok.ex a u e), fun y hy => ?_, ?_⟩, ⟨Gx.refl G, fun a u e _ => Gx.new n a u e, fun a e => .inl e, fun a m => ?_, fun a e => ?_⟩⟩
  · rcases List.mem_cons.mp hy with e | hy
    · subst e; exact ⟨ng, w⟩
    · obtain ⟨h1, h2⟩ := ok.own y hy
      exact ⟨h1, Own1.mono (Gx.refl G) (fun u e => Gx.new n _ u e) h2⟩
  · show (p :: adr R).Nodup
    exact List.nodup_cons.mpr ⟨fun m => np p m rfl, ok.nd⟩
  · rcases List.mem_cons.mp m with e | m
    · subst e; exact .inr n
    · exact .inl m
  · by_cases z : a = p
    · subst z; rw [upd_same]; simp
    · rw [upd_ne z]; exact e
/-- an untracked object of the heap (an instance's own dict) -/
theorem Ok.aside {p : Addr} {o : HO} (ok : Ok K G H R) (n : H p = none) : Ok K G (upd H p o) R ∧ Le G H R G (upd H p o) R := by
  refine ⟨⟨fun a u e => Gx.new n a u (ok.ex a u e), fun y hy => ?_, ok.nd⟩, ⟨Gx.refl G, fun a u e _ => Gx.new n a u e, fun a e => .inl e, fun a m => .inl m, fun a e => ?_⟩⟩
  · obtain ⟨h1, h2⟩ := ok.own y hy
    exact ⟨h1, Own1.mono (Gx.refl G) (fun u e => Gx.new n _ u e) h2⟩
  · by_cases z : a = p
    · subst z; rw [upd_same]; simp
    · rw [upd_ne z]; exact e
theorem nd_set {R : Res} {i : Nat} {a : Addr} {o q : RO} (h : R[i]? = some (a, o)) : adr (R.set i (a, q)) = adr R := by
  show (R.set i (a, q)).map (·.1) = R.map (·.1)
  rw [List.map_set]
  obtain ⟨hi, e⟩ := List.getElem?_eq_some_iff.mp h
  apply List.ext_getElem?
  intro j
  by_cases z : i = j
  · subst z
    rw [List.getElem?_set_self (by simpa using hi), List.getElem?_map, h]
    rfl
  · rw [List.getElem?_set_ne z]
theorem mem_set_ne {R : Res} {i : Nat} {a : Addr} {o q : RO} (nd : (adr R).Nodup) (h : R[i]? = some (a, o)) {y : Addr × RO} (hy : y ∈ R.set i (a, q)) : y = (a, q) ∨ (y ∈ R ∧ y.1 ≠ a) := by
  obtain ⟨j, hj⟩ := List.getElem?_of_mem hy
  by_cases z : i = j
  · subst z
    obtain ⟨hi, _⟩ := List.getElem?_eq_some_iff.mp h
    rw [List.getElem?_set_self hi] at hj
    exact .inl (Option.some.inj hj).symm
  · rw [List.getElem?_set_ne z] at hj
    refine .inr ⟨List.mem_of_getElem? hj, fun e => z ?_⟩
    have h1 : (adr R)[i]? = some a := by show (R.map (·.1))[i]? = some a; rw [List.getElem?_map, h]; rfl
    have h2 : (adr R)[j]? = some a := by show (R.map (·.1))[j]? = some a; rw [List.getElem?_map, hj]; simp [e]
    exact nd_ix nd h1 h2
/-- an owned object is written -/
theorem Ok.write {i : Nat} {a : Addr} {o : HO} {p q : RO} (ok : Ok K G H R) (h : R[i]? = some (a, p)) (w : Own1 K G (upd H a o) a q) : Ok K G (upd H a o) (R.set i (a, q)) ∧ Le G H R G (upd H a o) (R.set i (a, q)) := by
  have m : (a, p) ∈ R := List.mem_of_getElem? h
  have ng := (ok.own _ m).1
  refine ⟨⟨fun b u e => ?_, fun y hy => ?_, ?_⟩, ⟨Gx.refl G, fun b u e n => ?_, fun b e => .inl e, fun b z => ?_, fun b e => ?_⟩⟩
  · rw [upd_ne (ne_of_none e ng)]; exact ok.ex b u e
  · rcases mem_set_ne ok.nd h hy with e | ⟨e, z⟩
    · subst e; exact ⟨ng, w⟩
    · obtain ⟨h1, h2⟩ := ok.own y e
      exact ⟨h1, Own1.mono (Gx.refl G) (fun u e => by rw [upd_ne z]; exact e) h2⟩
  · rw [nd_set h]; exact ok.nd
  · rw [upd_ne (fun z => n (by subst z; exact List.mem_map.mpr ⟨_, m, rfl⟩))]; exact e
  · rw [nd_set h] at z; exact .inl z
  · by_cases z : b = a
    · subst z; rw [upd_same]; simp
    · rw [upd_ne z]; exact e
theorem Ok.at (ok : Ok K G H R) {i : Nat} {a : Addr} {p : RO} (h : R[i]? = some (a, p)) : Own1 K G H a p := (ok.own _ (List.mem_of_getElem? h)).2
/-- an owned list is let go: from now on a datum -/
theorem Ok.freeze {a : Addr} {ds : List PyData} {G0 H0 : Hp} {R0 : Res} (ok : Ok K G H ((a, .lst ds) :: R)) (le : Le G0 H0 R0 G H ((a, .lst ds) :: R)) (n : a ∉ adr R0) :
    ∃ G', Ok K G' H R ∧ Le G0 H0 R0 G' H R ∧ Hv G' (.ref a) (.list ds) ∧ Gx G G' := by
  obtain ⟨ng, vs, e, hl, hv⟩ := ok.own _ List.mem_cons_self
  have nd : (a :: adr R).Nodup := ok.nd
  obtain ⟨nd1, nd2⟩ := List.nodup_cons.mp nd
  refine ⟨upd G a (.lst vs), ⟨fun b u q => ?_, fun y hy => ?_, nd2⟩, ⟨le.g.trans (Gx.new ng), le.h, fun b q => ?_, fun b m => le.r b (List.mem_cons_of_mem _ m), le.dm⟩, .lst upd_same hl (Hvs.mono (Gx.new ng) ds hv), Gx.new ng⟩
  · by_cases z : b = a
    · subst z; rw [upd_same] at q; cases q; exact e
    · rw [upd_ne z] at q; exact ok.ex b u q
  · obtain ⟨h1, h2⟩ := ok.own y (List.mem_cons_of_mem _ hy)
    have z : y.1 ≠ a := fun z => nd1 (z ▸ List.mem_map.mpr ⟨y, hy, rfl⟩)
    exact ⟨by rw [upd_ne z]; exact h1, Own1.mono (Gx.new ng) (fun _ q => q) h2⟩
  · by_cases z : b = a
    · subst z
      rcases le.r b List.mem_cons_self with q | q
      · exact absurd q n
      · exact .inr (.inl q)
    · rw [upd_ne z] at q; exact le.n b q
/-- the frame: a part of what is owned -/
theorem Ok.part {A B : Res} (ok : Ok K G H (A ++ R ++ B)) : Ok K G H R := by
  refine ⟨ok.ex, fun p hp => ok.own p (by simp [hp]), ?_⟩
  have q := ok.nd
  unfold adr at q
  rw [List.map_append, List.map_append] at q
  exact (List.nodup_append.mp (List.nodup_append.mp q).1).2.1
theorem Ok.whole {A B : Res} (ok : Ok K G H (A ++ R ++ B)) (ok' : Ok K G' H' R') (le : Le G H R G' H' R') : Ok K G' H' (A ++ R' ++ B) ∧ Le G H (A ++ R ++ B) G' H' (A ++ R' ++ B) := by
  have q := ok.nd
  unfold adr at q
  rw [List.map_append, List.map_append] at q
  obtain ⟨q1, qB, qd⟩ := List.nodup_append.mp q
  obtain ⟨qA, qR, qd1⟩ := List.nodup_append.mp q1
  have nA : ∀ p ∈ A, p.1 ∉ adr R := fun p hp m => qd1 p.1 (List.mem_map.mpr ⟨p, hp, rfl⟩) p.1 m rfl
  have nB : ∀ p ∈ B, p.1 ∉ adr R := fun p hp m => qd p.1 (List.mem_append.mpr (.inr m)) p.1 (List.mem_map.mpr ⟨p, hp, rfl⟩) rfl
  have there : ∀ p ∈ A ++ R ++ B, H p.1 ≠ none := fun p hp z => by
    obtain ⟨u, e⟩ := Own1.there (ok.own p hp).2
    rw [z] at e; cases e
  have keep : ∀ p, p ∈ A ++ R ++ B → p.1 ∉ adr R → G' p.1 = none ∧ Own1 K G' H' p.1 p.2 := fun p hp hn => by
    obtain ⟨h1, h2⟩ := ok.own p hp
    refine ⟨?_, Own1.mono le.g (fun o e => le.h _ o e hn) h2⟩
    cases z : G' p.1 with
    | none => rfl
    | some u =>
      rcases le.n p.1 (by rw [z]; simp) with w | w | w
      · exact absurd h1 w
      · exact absurd w (there p hp)
      · exact absurd w hn
  refine ⟨⟨ok'.ex, fun p hp => ?_, ?_⟩, ⟨le.g, fun a o e n => le.h a o e fun m => n (by simp only [adr, List.map_append, List.mem_append]; exact .inl (.inr m)), fun a e => (le.n a e).imp id (fun q => q.imp id fun m => by simp only [adr, List.map_append, List.mem_append]; exact .inl (.inr m)), fun a m => ?_, le.dm⟩⟩
  · rcases List.mem_append.mp hp with hp | hp
    · rcases List.mem_append.mp hp with hp | hp
      · exact keep p (by simp [hp]) (nA p hp)
      · exact ok'.own p hp
    · exact keep p (by simp [hp]) (nB p hp)
  · have out : ∀ p, p ∈ A ++ R ++ B → p.1 ∉ adr R → p.1 ∉ adr R' := fun p hp hn m => by
      rcases le.r p.1 m with z | z
      · exact hn z
      · exact there p hp z
    show ((A ++ R' ++ B).map (·.1)).Nodup
    rw [List.map_append, List.map_append]
    refine List.nodup_append.mpr ⟨List.nodup_append.mpr ⟨qA, ok'.nd, fun x hx y hy z => ?_⟩, qB, fun x hx y hy z => ?_⟩
    · obtain ⟨p, hp, rfl⟩ := List.mem_map.mp hx
      exact out p (by simp [hp]) (nA p hp) (z ▸ hy)
    · obtain ⟨p, hp, rfl⟩ := List.mem_map.mp hy
      rcases List.mem_append.mp hx with hx | hx
      · exact qd x (List.mem_append.mpr (.inl hx)) p.1 (List.mem_map.mpr ⟨p, hp, rfl⟩) z
      · exact out p (by simp [hp]) (nB p hp) (z ▸ hx)
  · simp only [adr, List.map_append, List.mem_append] at m ⊢
    rcases m with (m | m) | m
    · exact .inl (.inl (.inl m))
    · rcases le.r a m with z | z
      · exact .inl (.inl (.inr z))
      · exact .inr z
    · exact .inl (.inr m)
end

/-! ### slots -/
abbrev DEnv := List (Option D)
structure DE (K : PySem.W.Frag) (G : Hp) (σ : L2.St) (δ : DEnv) : Prop where
  len : σ.length = δ.length
  get : ∀ (i : Nat) (d : D), δ[i]? = some (some d) → ∃ v, σ[i]? = some (some v) ∧ HD K G v d
section
variable {K : PySem.W.Frag} {G G' : Hp} {σ : L2.St} {δ : DEnv}
theorem DE.mono (e : Gx G G') (h : DE K G σ δ) : DE K G' σ δ := ⟨h.len, fun i d q => let ⟨v, a, b⟩ := h.get i d q; ⟨v, a, b.mono e⟩⟩
theorem DE.set (h : DE K G σ δ) {i : Nat} {v : V} {d : D} (q : HD K G v d) : DE K G (σ.set i (some v)) (δ.set i (some d)) := by
  refine ⟨by rw [List.length_set, List.length_set]; exact h.len, fun j e hj => ?_⟩
  by_cases z : i = j
  · subst z
    by_cases hi : i < δ.length
    · rw [List.getElem?_set_self hi] at hj
      cases hj
      exact ⟨v, by rw [List.getElem?_set_self (by rw [h.len]; exact hi)], q⟩
    · rw [List.getElem?_eq_none (by simpa using hi)] at hj; cases hj
  · rw [List.getElem?_set_ne z] at hj ⊢
    exact h.get j e hj
theorem DE.unset (h : DE K G σ δ) {i : Nat} {o : Option V} : DE K G (σ.set i o) (δ.set i none) := by
  refine ⟨by rw [List.length_set, List.length_set]; exact h.len, fun j e hj => ?_⟩
  by_cases z : i = j
  · subst z
    by_cases hi : i < δ.length
    · rw [List.getElem?_set_self hi] at hj; cases hj
    · rw [List.getElem?_eq_none (by simpa using hi)] at hj; cases hj
  · rw [List.getElem?_set_ne z] at hj ⊢
    exact h.get j e hj
def wipeD (δ : DEnv) : List Nat → DEnv
  | [] => δ
  | v :: vs => (wipeD δ vs).set v none
theorem DE.wipe (h : DE K G σ δ) : ∀ (vs : List Nat), DE K G (L2.wipe σ vs) (wipeD δ vs)
  | [] => h
  | v :: vs => (DE.wipe h vs).unset
theorem wipe_set {σ : L2.St} {j : Nat} {x : Option V} : ∀ {vs : List Nat}, j ∈ vs → L2.wipe ((L2.wipe σ vs).set j x) vs = L2.wipe σ vs := by
  have look : ∀ (vs : List Nat) (τ : L2.St) (i : Nat), (L2.wipe τ vs)[i]? = if i ∈ vs then (if i < τ.length then some none else none) else τ[i]? := by
    intro vs
    induction vs with
    | nil => intro τ i; simp [L2.wipe]
    | cons v vs ih =>
      intro τ i
      show ((L2.wipe τ vs).set v none)[i]? = _
      rw [List.getElem?_set]
      by_cases z : v = i
      · subst z
        simp [L2.wipe_length]
      · have z' : i ≠ v := fun e => z e.symm
        rw [if_neg z, ih]
        simp [z']
  intro vs hj
  apply List.ext_getElem?
  intro i
  rw [look, look]
  by_cases hi : i ∈ vs
  · rw [if_pos hi, if_pos hi]
    simp [L2.wipe_length]
  · rw [if_neg hi, if_neg hi]
    have z : j ≠ i := fun e => hi (e ▸ hj)
    rw [List.getElem?_set_ne z, look, if_neg hi]
theorem DE.weak {δ' : DEnv} (h : DE K G σ δ) (hl : δ'.length = δ.length) (w : ∀ (i : Nat) (d : D), δ'[i]? = some (some d) → δ[i]? = some (some d)) : DE K G σ δ' :=
  ⟨h.len.trans hl.symm, fun i d q => h.get i d (w i d q)⟩
end
end Fl
/-! What an expression is worth, by slots δ and owned objects R. -/
namespace Fl
open PySem PySem.Spec PyProof.Rows L2
section
variable (K : PySem.W.Frag)
/-- te is worth d, and what is owned stays -/
def Ev (δ : DEnv) (R : Res) (te : TE) (d : D) : Prop := ∀ (G H : Hp) (σ : L2.St) (Q : VK), Ok K G H R → DE K G σ δ → (∀ v G' H', Ok K G' H' R → Le G H R G' H' R → HD K G' v d → Q v H') → te σ H Q
/-- te is a new list of ds, nobody else's -/
def EvF (δ : DEnv) (R : Res) (te : TE) (ds : List PyData) : Prop := ∀ (G H : Hp) (σ : L2.St) (Q : VK), Ok K G H R → DE K G σ δ → (∀ a G' H', Ok K G' H' ((a, .lst ds) :: R) → Le G H R G' H' ((a, .lst ds) :: R) → Q (.ref a) H') → te σ H Q
def EvA (δ : DEnv) (R : Res) (ta : TA) (ds : List D) : Prop := ∀ (G H : Hp) (σ : L2.St) (Q : List V → Hp → Prop), Ok K G H R → DE K G σ δ → (∀ vs G' H', Ok K G' H' R → Le G H R G' H' R → (vs.length = ds.length ∧ ∀ (i : Nat) (v : V) (d : D), vs[i]? = some v → ds[i]? = some d → HD K G' v d) → Q vs H') → ta σ H Q
def EvX (δ : DEnv) (R : Res) (ta : TA) (xs : List PyData) : Prop := ∀ (G H : Hp) (σ : L2.St) (Q : List V → Hp → Prop), Ok K G H R → DE K G σ δ → (∀ vs G' H', Ok K G' H' R → Le G H R G' H' R → Hvs G' vs xs → Q vs H') → ta σ H Q
def EvT (δ : DEnv) (R : Res) (tt : TT) (b : Bool) : Prop := ∀ (G H : Hp) (σ : L2.St) (Q : Bool → Hp → Prop), Ok K G H R → DE K G σ δ → (∀ G' H', Ok K G' H' R → Le G H R G' H' R → Q b H') → tt σ H Q
def EvO (δ : DEnv) (R : Res) (to : TO) (o : Option Int) : Prop := ∀ (G H : Hp) (σ : L2.St) (Q : Option Int → Hp → Prop), Ok K G H R → DE K G σ δ → (∀ G' H', Ok K G' H' R → Le G H R G' H' R → Q o H') → to σ H Q
/-- an operator on two values; a call on values -/
def RV (R : Res) (r : R2) (x y z : D) : Prop := ∀ (G H : Hp) (v w : V) (Q : VK), Ok K G H R → HD K G v x → HD K G w y → (∀ u G' H', Ok K G' H' R → Le G H R G' H' R → HD K G' u z → Q u H') → r v w H Q
def RVF (R : Res) (r : R2) (x y : D) (ds : List PyData) : Prop := ∀ (G H : Hp) (v w : V) (Q : VK), Ok K G H R → HD K G v x → HD K G w y → (∀ a G' H', Ok K G' H' ((a, .lst ds) :: R) → Le G H R G' H' ((a, .lst ds) :: R) → Q (.ref a) H') → r v w H Q
end
section
variable {K : PySem.W.Frag} {G G' H H' : Hp} {R : Res} {δ : DEnv} {ta tb tc te : TE} {d x y z : D} {r : R2}
theorem Le.adr_ne {a : Addr} {q : RO} (ok : Ok K G' H' ((a, q) :: R)) (ok0 : Ok K G H R) : a ∉ adr R := (List.nodup_cons.mp (show (a :: adr R).Nodup from ok.nd)).1
theorem ev_frz {ds : List PyData} (h : EvF K δ R te ds) : Ev K δ R te (.d (.list ds)) := fun G H σ Q ok en k => h G H σ Q ok en fun a G' H' ok' le => by
  obtain ⟨G2, ok2, le2, hv, _⟩ := ok'.freeze le (Le.adr_ne ok' ok)
  exact k _ G2 H' ok2 le2 hv
theorem ev_var {i : Nat} (h : δ[i]? = some (some d)) : Ev K δ R (tVar i) d := fun G H σ Q ok en k => by
  obtain ⟨v, e, q⟩ := en.get i d h
  exact ⟨v, e, k v G H ok .refl q⟩
theorem ev_non : Ev K δ R (tC .non) (.d .none) := fun G H σ Q ok en k => k _ G H ok .refl (show Hv G _ _ from .non)
theorem ev_bl {b : Bool} : Ev K δ R (tC (.bl b)) (.d (.bool b)) := fun G H σ Q ok en k => k _ G H ok .refl (show Hv G _ _ from .bl b)
theorem ev_int {i : Int} : Ev K δ R (tC (.int i)) (.d (.int i)) := fun G H σ Q ok en k => k _ G H ok .refl (show Hv G _ _ from .int i)
theorem ev_str {s : Str} : Ev K δ R (tC (.str s)) (.d (.str s)) := fun G H σ Q ok en k => k _ G H ok .refl (show Hv G _ _ from .str s)
theorem ev_op (ha : Ev K δ R ta x) (hb : Ev K δ R tb y) (hr : RV K R r x y z) : Ev K δ R (tOp r ta tb) z := fun G H σ Q ok en k =>
  ha G H σ _ ok en fun v G1 H1 ok1 l1 h1 => hb G1 H1 σ _ ok1 (en.mono l1.g) fun w G2 H2 ok2 l2 h2 =>
    hr G2 H2 v w Q ok2 (h1.mono l2.g) h2 fun u G3 H3 ok3 l3 h3 => k u G3 H3 ok3 ((l1.trans l2).trans l3) h3
theorem evf_op {ds : List PyData} (ha : Ev K δ R ta x) (hb : Ev K δ R tb y) (hr : RVF K R r x y ds) : EvF K δ R (tOp r ta tb) ds := fun G H σ Q ok en k =>
  ha G H σ _ ok en fun v G1 H1 ok1 l1 h1 => hb G1 H1 σ _ ok1 (en.mono l1.g) fun w G2 H2 ok2 l2 h2 =>
    hr G2 H2 v w Q ok2 (h1.mono l2.g) h2 fun a G3 H3 ok3 l3 => k a G3 H3 ok3 ((l1.trans l2).trans l3)
theorem ev_is {d' : D} (h : Ev K δ R te d) (e : d = d') : Ev K δ R te d' := e ▸ h
theorem evf_is {ds es : List PyData} (h : EvF K δ R te ds) (e : ds = es) : EvF K δ R te es := e ▸ h

/-! ### views: what an owned list reads as -/
inductive Vw (R : Res) : D → PyData → Prop
  | d (x : PyData) : Vw R (.d x) x
  | own {i : Nat} {a : Addr} {ds : List PyData} (h : R[i]? = some (a, .lst ds)) : Vw R (.r a) (.list ds)
  | two {i j k : Nat} {a b c : Addr} {xs ys : List PyData} (h : R[i]? = some (c, .lsr [a, b])) (h1 : R[j]? = some (a, .lst xs)) (h2 : R[k]? = some (b, .lst ys)) : Vw R (.r c) (.list [.list xs, .list ys])
theorem Vw.hv {x : PyData} {v : V} (w : Vw R d x) (ok : Ok K G H R) (h : HD K G v d) : Hv H v x := by
  cases w with
  | d => exact Hv.mono ok.ex _ h
  | own e =>
    obtain ⟨vs, q1, q2, q3⟩ := ok.at e
    cases (show v = .ref _ from h)
    exact .lst q1 q2 (Hvs.mono ok.ex _ q3)
  | two e e1 e2 =>
    obtain ⟨p1, p2⟩ := ok.at e
    obtain ⟨vs, q1, q2, q3⟩ := ok.at e1
    obtain ⟨ws, r1, r2, r3⟩ := ok.at e2
    cases (show v = .ref _ from h)
    exact .lst p1 (by show 2 ≤ 50000; decide) (.cons (.lst q1 q2 (Hvs.mono ok.ex _ q3)) (.cons (.lst r1 r2 (Hvs.mono ok.ex _ r3)) .nil))
/-- a list, its items data of G -/
inductive Ls (R : Res) : D → List PyData → Prop
  | d (ds : List PyData) : Ls R (.d (.list ds)) ds
  | own {i : Nat} {a : Addr} {ds : List PyData} (h : R[i]? = some (a, .lst ds)) : Ls R (.r a) ds
theorem Ls.hv {ds : List PyData} {v : V} (w : Ls R d ds) (ok : Ok K G H R) (h : HD K G v d) : ∃ a vs, v = .ref a ∧ H a = some (.lst vs) ∧ vs.length ≤ 50000 ∧ Hvs G vs ds := by
  cases w with
  | d =>
    cases (show Hv G v (.list ds) from h) with
    | lst h1 h2 h3 => exact ⟨_, _, rfl, ok.ex _ _ h1, h2, h3⟩
  | own e =>
    obtain ⟨vs, q1, q2, q3⟩ := ok.at e
    cases (show v = .ref _ from h)
    exact ⟨_, _, rfl, q1, q2, q3⟩

/-! ### the operators -/
theorem rv_I0 {g : Int → Int → V} {i j : Int} {x : PyData} (h : ∀ G, Hv G (g i j) x) : RV K R (rI0 g) (.d (.int i)) (.d (.int j)) (.d x) := fun G H v w Q ok h1 h2 k => by
  cases (show Hv G v (.int i) from h1)
  cases (show Hv G w (.int j) from h2)
  exact ⟨i, j, rfl, rfl, k _ G H ok .refl (h G)⟩
theorem rv_I {C : Int → Int → Prop} {g : Int → Int → V} {i j : Int} {x : PyData} (hc : C i j) (h : ∀ G, Hv G (g i j) x) : RV K R (rI C g) (.d (.int i)) (.d (.int j)) (.d x) := fun G H v w Q ok h1 h2 k => by
  cases (show Hv G v (.int i) from h1)
  cases (show Hv G w (.int j) from h2)
  exact ⟨i, j, rfl, rfl, hc, k _ G H ok .refl (h G)⟩
/-- + of ints, texts, lists -/
def rPlus : R2 := fun x y H Q => rI0 (fun i j => .int (i + j)) x y H Q ∨ (∃ i j, x = .str i ∧ y = .str j ∧ i.length + j.length ≤ sizeLine ∧ Q (.str (i ++ j)) H) ∨ rCat x y H Q
theorem op_plus {X : Cx} : OpR X (binaryOp .Add) rPlus := fun pins s σ H x y u v Q I rx ry h => by
  rcases h with h | h | h
  · exact op_add pins s σ H x y u v Q I rx ry h
  · exact op_add_str pins s σ H x y u v Q I rx ry h
  · exact op_cat pins s σ H x y u v Q I rx ry h
theorem rv_plusI {i j : Int} : RV K R rPlus (.d (.int i)) (.d (.int j)) (.d (.int (i + j))) := fun G H v w Q ok h1 h2 k => .inl (rv_I0 (fun _ => .int _) G H v w Q ok h1 h2 k)
theorem rv_plusS {i j : Str} (hl : i.length + j.length ≤ 50000) : RV K R rPlus (.d (.str i)) (.d (.str j)) (.d (.str (i ++ j))) := fun G H v w Q ok h1 h2 k => by
  cases (show Hv G v (.str i) from h1)
  cases (show Hv G w (.str j) from h2)
  exact .inr (.inl ⟨i, j, rfl, rfl, lim_le hl, k _ G H ok .refl (show Hv G _ _ from .str _)⟩)
theorem rvf_plus {xs ys : List PyData} (hx : Ls R x xs) (hy : Ls R y ys) (hl : xs.length + ys.length ≤ 50000) : RVF K R rPlus x y (xs ++ ys) := fun G H v w Q ok h1 h2 k => by
  obtain ⟨a, vs, rfl, ea, la, ha⟩ := hx.hv ok h1
  obtain ⟨b, ws, rfl, eb, lb, hb⟩ := hy.hv ok h2
  have e1 := ha.len
  have e2 := hb.len
  refine .inr (.inr ⟨a, b, vs, ws, rfl, rfl, ea, eb, lim_le (by omega), fun p hp => ?_⟩)
  obtain ⟨ok', le⟩ := ok.laid (q := .lst (xs ++ ys)) hp ⟨_, upd_same, by rw [List.length_append]; omega, ha.app hb⟩
  exact k p _ _ ok' le
theorem rv_of_F {ds : List PyData} (h : RVF K R r x y ds) : RV K R r x y (.d (.list ds)) := fun G H v w Q ok h1 h2 k => h G H v w Q ok h1 h2 fun a G' H' ok' le => by
  obtain ⟨G2, ok2, le2, hv, _⟩ := ok'.freeze le (Le.adr_ne ok' ok)
  exact k _ G2 H' ok2 le2 hv
abbrev rMinus : R2 := rI0 fun i j => .int (i - j)
abbrev rTimes : R2 := rI CMul fun i j => .int (i * j)
abbrev rDiv : R2 := rI CDiv fun i j => .int (i / j)
abbrev rMod : R2 := rI (fun _ j => 0 < j) fun i j => .int (i % j)
abbrev rPow : R2 := rI CPow fun i j => .int (i ^ j.toNat)
abbrev rLt : R2 := rI0 fun i j => .bl (decide (i < j))
abbrev rLe : R2 := rI0 fun i j => .bl (decide (i ≤ j))
abbrev rGt : R2 := rI0 fun i j => .bl (decide (j < i))
abbrev rGe : R2 := rI0 fun i j => .bl (decide (j ≤ i))
/-- == and != of data -/
def rEqP (K : PySem.W.Frag) : R2 := fun x y H Q => ∃ d e, Dp K H x d ∧ Dp K H y e ∧ d.plain = true ∧ e.plain = true ∧ min d.depth e.depth ≤ 64 ∧ Q (.bl (PyData.eqv d e)) H
def rNeP (K : PySem.W.Frag) : R2 := fun x y H Q => ∃ d e, Dp K H x d ∧ Dp K H y e ∧ d.plain = true ∧ e.plain = true ∧ min d.depth e.depth ≤ 64 ∧ Q (.bl (!PyData.eqv d e)) H
theorem op_eqP {X : Cx} (hu : X.A.units + 64 < cLine) : OpR X (compareOp .Eq) (rEqP X.K) := by
  intro pins s σ H x y v u Q I rx ry h
  obtain ⟨d, e, hd, he, sd, se, hm, q⟩ := h
  obtain ⟨as, r1⟩ := Dp.reads I d x v hd rx
  obtain ⟨bs, r2⟩ := Dp.reads I e y u he ry
  exact SeqAt.eq_plain r1 r2 sd se (by omega) ⟨.bl _, H, I, rfl, q⟩
theorem op_neP {X : Cx} (hu : X.A.units + 64 < cLine) : OpR X (compareOp .NotEq) (rNeP X.K) := by
  intro pins s σ H x y v u Q I rx ry h
  obtain ⟨d, e, hd, he, sd, se, hm, q⟩ := h
  obtain ⟨as, r1⟩ := Dp.reads I d x v hd rx
  obtain ⟨bs, r2⟩ := Dp.reads I e y u he ry
  exact SeqAt.ne_plain r1 r2 sd se (by omega) ⟨.bl _, H, I, rfl, q⟩
theorem rv_eq {a b : PyData} (ha : Vw R x a) (hb : Vw R y b) (hm : min a.depth b.depth ≤ 64) : RV K R (rEqP K) x y (.d (.bool (PyData.eqv a b))) := fun G H v w Q ok h1 h2 k => by
  have q1 := ha.hv ok h1
  have q2 := hb.hv ok h2
  exact ⟨a, b, Hv.dp a q1, Hv.dp b q2, Hv.plain a q1, Hv.plain b q2, hm, k _ G H ok .refl (show Hv G _ _ from .bl _)⟩
theorem rv_ne {a b : PyData} (ha : Vw R x a) (hb : Vw R y b) (hm : min a.depth b.depth ≤ 64) : RV K R (rNeP K) x y (.d (.bool (!PyData.eqv a b))) := fun G H v w Q ok h1 h2 k => by
  have q1 := ha.hv ok h1
  have q2 := hb.hv ok h2
  exact ⟨a, b, Hv.dp a q1, Hv.dp b q2, Hv.plain a q1, Hv.plain b q2, hm, k _ G H ok .refl (show Hv G _ _ from .bl _)⟩
/-- in, not in: a list or a tuple -/
def rInP (K : PySem.W.Frag) (neg : Bool) : R2 := fun x y H Q => ∃ d es, Dp K H x d ∧ (Dp K H y (.list es) ∨ Dp K H y (.tuple es)) ∧ d.plain = true ∧ PyData.plainAll es = true ∧ min (PyData.depthAll es) d.depth ≤ 60 ∧ Q (.bl (if neg then !(es.any fun e => PyData.eqv e d) else es.any fun e => PyData.eqv e d)) H
theorem op_inP {X : Cx} (hu : X.A.units + 64 < cLine) : OpR X (compareOp .In) (rInP X.K false) := by
  intro pins s σ H x y v u Q I rx ry h
  obtain ⟨d, es, hd, he, sd, se, hm, q⟩ := h
  obtain ⟨as, r1⟩ := Dp.reads I d x v hd rx
  rcases he with he | he
  · obtain ⟨bs, r2⟩ := Dp.reads I _ y u he ry
    exact SeqAt.in_list_data r2 r1 se sd (by omega) ⟨.bl _, H, I, rfl, q⟩
  · obtain ⟨bs, r2⟩ := Dp.reads I _ y u he ry
    exact SeqAt.in_tuple_data r2 r1 se sd (by omega) ⟨.bl _, H, I, rfl, q⟩
theorem op_ninP {X : Cx} (hu : X.A.units + 64 < cLine) : OpR X (compareOp .NotIn) (rInP X.K true) := by
  intro pins s σ H x y v u Q I rx ry h
  obtain ⟨d, es, hd, he, sd, se, hm, q⟩ := h
  obtain ⟨as, r1⟩ := Dp.reads I d x v hd rx
  rcases he with he | he
  · obtain ⟨bs, r2⟩ := Dp.reads I _ y u he ry
    exact SeqAt.notIn_list_data r2 r1 se sd (by omega) ⟨.bl _, H, I, rfl, q⟩
  · obtain ⟨bs, r2⟩ := Dp.reads I _ y u he ry
    exact SeqAt.notIn_tuple_data r2 r1 se sd (by omega) ⟨.bl _, H, I, rfl, q⟩
inductive Sq (R : Res) : D → List PyData → Prop
  | l {d : D} {ds : List PyData} (h : Vw R d (.list ds)) : Sq R d ds
  | t (ds : List PyData) : Sq R (.d (.tuple ds)) ds
theorem rv_in {a : PyData} {es : List PyData} (ha : Vw R x a) (hb : Sq R y es) (hm : min (PyData.depthAll es) a.depth ≤ 60) : RV K R (rInP K false) x y (.d (.bool (es.any fun e => PyData.eqv e a))) := fun G H v w Q ok h1 h2 k => by
  have q1 := ha.hv ok h1
  refine ⟨a, es, Hv.dp a q1, ?_, Hv.plain a q1, ?_, hm, k _ G H ok .refl (show Hv G _ _ from .bl _)⟩
  · cases hb with
    | l h => exact .inl (Hv.dp _ (h.hv ok h2))
    | t => exact .inr (Hv.dp _ (Hv.mono ok.ex _ h2))
  · cases hb with
    | l h => exact Hv.plain _ (h.hv ok h2)
    | t => exact Hv.plain _ (Hv.mono ok.ex _ h2)
theorem rv_nin {a : PyData} {es : List PyData} (ha : Vw R x a) (hb : Sq R y es) (hm : min (PyData.depthAll es) a.depth ≤ 60) : RV K R (rInP K true) x y (.d (.bool (!(es.any fun e => PyData.eqv e a)))) := fun G H v w Q ok h1 h2 k => by
  have q1 := ha.hv ok h1
  refine ⟨a, es, Hv.dp a q1, ?_, Hv.plain a q1, ?_, hm, k _ G H ok .refl (show Hv G _ _ from .bl _)⟩
  · cases hb with
    | l h => exact .inl (Hv.dp _ (h.hv ok h2))
    | t => exact .inr (Hv.dp _ (Hv.mono ok.ex _ h2))
  · cases hb with
    | l h => exact Hv.plain _ (h.hv ok h2)
    | t => exact Hv.plain _ (Hv.mono ok.ex _ h2)
/-- is None -/
def rIsN : R2 := fun x y H Q => y = .non ∧ Q (.bl (decide (x = .non))) H
def rNotN : R2 := fun x y H Q => y = .non ∧ Q (.bl (!decide (x = .non))) H
def isNo : PyData → Bool
  | .none => true
  | _ => false
theorem Hv.isNo {G : Hp} {v : V} {x : PyData} (h : Hv G v x) : decide (v = .non) = Fl.isNo x := by
  cases h <;> rfl
theorem rv_isN {a : PyData} : RV K R rIsN (.d a) (.d .none) (.d (.bool (isNo a))) := fun G H v w Q ok h1 h2 k => by
  have q : Hv G v a := h1
  cases (show Hv G w .none from h2)
  refine ⟨rfl, ?_⟩
  rw [q.isNo]
  exact k _ G H ok .refl (show Hv G _ _ from .bl _)
theorem rv_notN {a : PyData} : RV K R rNotN (.d a) (.d .none) (.d (.bool (!isNo a))) := fun G H v w Q ok h1 h2 k => by
  have q : Hv G v a := h1
  cases (show Hv G w .none from h2)
  refine ⟨rfl, ?_⟩
  rw [q.isNo]
  exact k _ G H ok .refl (show Hv G _ _ from .bl _)
/-! ### subscripts -/
theorem atI_ds {G : Hp} {ds : List PyData} {vs : List V} {i : Int} {x : PyData} (h : Hvs G vs ds) (e : atI ds i = some x) : ∃ v, atI vs i = some v ∧ Hv G v x := by
  unfold atI at e ⊢
  rw [h.len]
  cases q : ixN ds.length i with
  | none => rw [q] at e; cases e
  | some j =>
    rw [q] at e
    exact h.getd e
theorem rv_ixL {ds : List PyData} {i : Int} {e : PyData} (h : Ls R x ds) (ha : atI ds i = some e) : RV K R (rIx K) x (.d (.int i)) (.d e) := fun G H v w Q ok h1 h2 k => by
  obtain ⟨a, vs, rfl, ea, la, hv⟩ := h.hv ok h1
  cases (show Hv G w (.int i) from h2)
  obtain ⟨u, q1, q2⟩ := atI_ds hv ha
  exact .inl ⟨a, vs, i, u, rfl, rfl, SqL.of ea, q1, k u G H ok .refl q2⟩
theorem rv_ixT {ds : List PyData} {i : Int} {e : PyData} (ha : atI ds i = some e) : RV K R (rIx K) (.d (.tuple ds)) (.d (.int i)) (.d e) := fun G H v w Q ok h1 h2 k => by
  cases (show Hv G w (.int i) from h2)
  cases (show Hv G v (.tuple ds) from h1) with
  | tup e1 e2 e3 =>
    obtain ⟨u, q1, q2⟩ := atI_ds e3 ha
    exact .inr (.inl ⟨_, _, i, u, rfl, rfl, SqT.of (ok.ex _ _ e1), q1, k u G H ok .refl q2⟩)
theorem rv_ixS {z : Str} {i : Int} {c : Nat} (hl : z.length ≤ 50000) (ha : atI z.cps.toList i = some c) : RV K R (rIx K) (.d (.str z)) (.d (.int i)) (.d (.str ⟨#[c]⟩)) := fun G H v w Q ok h1 h2 k => by
  cases (show Hv G v (.str z) from h1)
  cases (show Hv G w (.int i) from h2)
  exact .inr (.inr ⟨z, i, c, rfl, rfl, lim_le hl, ha, k _ G H ok .refl (show Hv G _ _ from .str _)⟩)
theorem atI_map {α β : Type} {f : α → β} {xs : List α} {i : Int} {v : α} (h : atI xs i = some v) : atI (xs.map f) i = some (f v) := by
  unfold atI at h ⊢
  rw [List.length_map]
  cases q : ixN xs.length i with
  | none => rw [q] at h; cases h
  | some j =>
    rw [q] at h
    show (xs.map f)[j]? = some (f v)
    rw [List.getElem?_map, show xs[j]? = some v from h]
    rfl
theorem rv_ixs {ns : List Int} {i n : Int} (ha : atI ns i = some n) : RV K R (rIx K) (.s ns) (.d (.int i)) (.d (.int n)) := fun G H v w Q ok h1 h2 k => by
  obtain ⟨a, rfl, hs⟩ := h1
  cases (show Hv G w (.int i) from h2)
  exact .inl ⟨a, _, i, .int n, rfl, rfl, gx_sql ok.ex hs, atI_map ha, k _ G H ok .refl (show Hv G _ _ from .int _)⟩
theorem rv_ixR {as : List Addr} {j : Nat} {a : Addr} {i : Int} {b : Addr} (h : R[j]? = some (a, .lsr as)) (ha : atI as i = some b) : RV K R (rIx K) (.r a) (.d (.int i)) (.r b) := fun G H v w Q ok h1 h2 k => by
  cases (show v = .ref a from h1)
  cases (show Hv G w (.int i) from h2)
  obtain ⟨q1, q2⟩ := ok.at h
  exact .inl ⟨a, _, i, .ref b, rfl, rfl, SqL.of q1, atI_map ha, k _ G H ok .refl rfl⟩
/-! ### slices -/
def cutD (xs : List PyData) (lo hi : Option Int) : List PyData := (xs.drop (HT.sIx xs.length 0 lo)).take (HT.sIx xs.length xs.length hi - HT.sIx xs.length 0 lo)
theorem eo_none : EvO K δ R tNoPart none := fun G H σ Q ok en k => k G H ok .refl
theorem eo_some {i : Int} (h : Ev K δ R te (.d (.int i))) : EvO K δ R (tPart te) (some i) := fun G H σ Q ok en k => h G H σ _ ok en fun v G1 H1 ok1 l1 h1 => by
  cases (show Hv G1 v (.int i) from h1)
  exact ⟨i, rfl, k G1 H1 ok1 l1⟩
theorem evf_sl {tl th : TO} {lo hi : Option Int} {xs : List PyData} (h : Ev K δ R te d) (h1 : EvO K δ R tl lo) (h2 : EvO K δ R th hi) (hl : Ls R d xs) : EvF K δ R (tSl (rSlL K) te tl th) (cutD xs lo hi) := fun G H σ Q ok en k =>
  h G H σ _ ok en fun v G1 H1 ok1 l1 q1 => h1 G1 H1 σ _ ok1 (en.mono l1.g) fun G2 H2 ok2 l2 => h2 G2 H2 σ _ ok2 ((en.mono l1.g).mono l2.g) fun G3 H3 ok3 l3 => by
    obtain ⟨a, vs, rfl, ea, la, hv⟩ := hl.hv ok3 (q1.mono (l2.g.trans l3.g))
    refine ⟨a, vs, rfl, SqL.of ea, fun p hp => ?_⟩
    have e := hv.len
    have hc : Hvs G3 (cutV vs lo hi) (cutD xs lo hi) := by
      unfold cutV cutD
      rw [e]
      exact (hv.drop _).take _
    obtain ⟨ok', le⟩ := ok3.laid (q := .lst (cutD xs lo hi)) hp ⟨_, upd_same, by unfold cutV; rw [List.length_take, List.length_drop]; omega, hc⟩
    exact k p _ _ ok' (((l1.trans l2).trans l3).trans le)
theorem cutV_map {f : Int → V} (ns : List Int) (lo hi : Option Int) : cutV (ns.map f) lo hi = ((ns.drop (HT.sIx ns.length 0 lo)).take (HT.sIx ns.length ns.length hi - HT.sIx ns.length 0 lo)).map f := by
  unfold cutV
  rw [List.length_map, List.map_take, List.map_drop]
def cutI (ns : List Int) (lo hi : Option Int) : List Int := (ns.drop (HT.sIx ns.length 0 lo)).take (HT.sIx ns.length ns.length hi - HT.sIx ns.length 0 lo)
theorem evf_sls {tl th : TO} {lo hi : Option Int} {ns : List Int} (h : Ev K δ R te (.s ns)) (h1 : EvO K δ R tl lo) (h2 : EvO K δ R th hi) (hn : ns.length ≤ 50000) : EvF K δ R (tSl (rSlL K) te tl th) ((cutI ns lo hi).map .int) := fun G H σ Q ok en k =>
  h G H σ _ ok en fun v G1 H1 ok1 l1 q1 => h1 G1 H1 σ _ ok1 (en.mono l1.g) fun G2 H2 ok2 l2 => h2 G2 H2 σ _ ok2 ((en.mono l1.g).mono l2.g) fun G3 H3 ok3 l3 => by
    obtain ⟨a, rfl, hs⟩ := q1.mono (l2.g.trans l3.g)
    refine ⟨a, _, rfl, gx_sql ok3.ex hs, fun p hp => ?_⟩
    have e := cutV_map (f := V.int) ns lo hi
    rw [e]
    obtain ⟨ok', le⟩ := ok3.laid (q := .lst ((cutI ns lo hi).map .int)) hp ⟨_, upd_same, by rw [List.length_map]; unfold cutI; rw [List.length_take, List.length_drop]; omega, hvs_ints _⟩
    exact k p _ _ ok' (((l1.trans l2).trans l3).trans le)
theorem ev_sls {tl th : TO} {lo hi : Option Int} {z : Str} (h : Ev K δ R te (.d (.str z))) (h1 : EvO K δ R tl lo) (h2 : EvO K δ R th hi) (hn : z.length ≤ 50000) : Ev K δ R (tSl rSlS te tl th) (.d (.str (cutS z lo hi))) := fun G H σ Q ok en k =>
  h G H σ _ ok en fun v G1 H1 ok1 l1 q1 => h1 G1 H1 σ _ ok1 (en.mono l1.g) fun G2 H2 ok2 l2 => h2 G2 H2 σ _ ok2 ((en.mono l1.g).mono l2.g) fun G3 H3 ok3 l3 => by
    cases (show Hv G1 v (.str z) from q1)
    exact ⟨z, rfl, lim_le hn, k _ G3 H3 ok3 ((l1.trans l2).trans l3) (show Hv G3 _ _ from .str _)⟩
/-! ### arguments, displays -/
theorem ex_nil : EvX K δ R tNil [] := fun G H σ Q ok en k => k _ G H ok .refl .nil
theorem ex_cons {tr : TA} {x : PyData} {xs : List PyData} (h : Ev K δ R ta (.d x)) (hr : EvX K δ R tr xs) : EvX K δ R (tCons ta tr) (x :: xs) := fun G H σ Q ok en k =>
  h G H σ _ ok en fun v G1 H1 ok1 l1 q1 => hr G1 H1 σ _ ok1 (en.mono l1.g) fun vs G2 H2 ok2 l2 q2 => k _ G2 H2 ok2 (l1.trans l2) (.cons (Hv.mono l2.g _ q1) q2)
theorem ea_nil : EvA K δ R tNil [] := fun G H σ Q ok en k => k _ G H ok .refl ⟨rfl, fun i v d h => by simp at h⟩
theorem ea_cons {tr : TA} {ds : List D} (h : Ev K δ R ta d) (hr : EvA K δ R tr ds) : EvA K δ R (tCons ta tr) (d :: ds) := fun G H σ Q ok en k =>
  h G H σ _ ok en fun v G1 H1 ok1 l1 q1 => hr G1 H1 σ _ ok1 (en.mono l1.g) fun vs G2 H2 ok2 l2 ⟨q2, q3⟩ => k _ G2 H2 ok2 (l1.trans l2) ⟨by simp [q2], fun i u e h1 h2 => by
    cases i with
    | zero =>
      simp at h1 h2
      subst h1 h2
      exact q1.mono l2.g
    | succ i => exact q3 i u e (by simpa using h1) (by simpa using h2)⟩
theorem ev_tup {ta : TA} {xs : List PyData} (h : EvX K δ R ta xs) (hl : xs.length ≤ 50000) : Ev K δ R (tTup ta) (.d (.tuple xs)) := fun G H σ Q ok en k => h G H σ _ ok en fun vs G1 H1 ok1 l1 q1 => by
  have e := q1.len
  refine ⟨lim_le (by omega), fun p hp => ?_⟩
  obtain ⟨ok', le⟩ := ok1.seen (o := .tup vs) hp
  exact k _ _ _ ok' (l1.trans le) (show Hv _ _ _ from .tup upd_same (by omega) (Hvs.mono le.g _ q1))
theorem evf_lst {ta : TA} {xs : List PyData} (h : EvX K δ R ta xs) (hl : xs.length ≤ 50000) : EvF K δ R (tLst ta) xs := fun G H σ Q ok en k => h G H σ _ ok en fun vs G1 H1 ok1 l1 q1 => by
  have e := q1.len
  refine ⟨lim_le (by omega), fun p hp => ?_⟩
  obtain ⟨ok', le⟩ := ok1.laid (q := .lst xs) (o := .lst vs) hp ⟨vs, upd_same, by omega, q1⟩
  exact k _ _ _ ok' (l1.trans le)
/-! ### tests, and, or, not -/
theorem et_val {b : Bool} (h : Ev K δ R te (.d (.bool b))) : EvT K δ R (tB te) b := fun G H σ Q ok en k => h G H σ _ ok en fun v G1 H1 ok1 l1 q1 => by
  cases (show Hv G1 v (.bool b) from q1)
  exact ⟨b, rfl, k G1 H1 ok1 l1⟩
theorem et_test {b : Bool} (h : Ev K δ R te (.d (.bool b))) : EvT K δ R (tTest te) b := fun G H σ Q ok en k => h G H σ _ ok en fun v G1 H1 ok1 l1 q1 => by
  cases (show Hv G1 v (.bool b) from q1)
  exact ⟨b, rfl, k G1 H1 ok1 l1⟩
theorem et_not {t : TT} {b : Bool} (h : EvT K δ R t b) : EvT K δ R (tNot t) (!b) := fun G H σ Q ok en k => h G H σ _ ok en fun G1 H1 ok1 l1 => k G1 H1 ok1 l1
theorem et_and {t u : TT} {a b : Bool} (h1 : EvT K δ R t a) (h2 : a = true → EvT K δ R u b) : EvT K δ R (tAnd t u) (a && b) := fun G H σ Q ok en k => h1 G H σ _ ok en fun G1 H1 ok1 l1 => by
  cases a with
  | true =>
    rw [if_pos rfl]
    exact h2 rfl G1 H1 σ Q ok1 (en.mono l1.g) fun G2 H2 ok2 l2 => k G2 H2 ok2 (l1.trans l2)
  | false =>
    rw [if_neg Bool.false_ne_true]
    exact k G1 H1 ok1 l1
theorem et_or {t u : TT} {a b : Bool} (h1 : EvT K δ R t a) (h2 : a = false → EvT K δ R u b) : EvT K δ R (tOr t u) (a || b) := fun G H σ Q ok en k => h1 G H σ _ ok en fun G1 H1 ok1 l1 => by
  cases a with
  | true =>
    rw [if_pos rfl]
    exact k G1 H1 ok1 l1
  | false =>
    rw [if_neg Bool.false_ne_true]
    exact h2 rfl G1 H1 σ Q ok1 (en.mono l1.g) fun G2 H2 ok2 l2 => k G2 H2 ok2 (l1.trans l2)
theorem et_is {t : TT} {a b : Bool} (h : EvT K δ R t a) (e : a = b) : EvT K δ R t b := e ▸ h
theorem et_yes : EvT K δ R tYes true := fun G H σ Q ok en k => k G H ok .refl
theorem ev_not {b : Bool} (h : Ev K δ R te (.d (.bool b))) : Ev K δ R (tNotV te) (.d (.bool (!b))) := fun G H σ Q ok en k => h G H σ _ ok en fun v G1 H1 ok1 l1 q1 => by
  cases (show Hv G1 v (.bool b) from q1)
  exact ⟨b, rfl, k _ G1 H1 ok1 l1 (show Hv G1 _ _ from .bl _)⟩
theorem ev_and {a b : Bool} (h1 : Ev K δ R ta (.d (.bool a))) (h2 : a = true → Ev K δ R tb (.d (.bool b))) : Ev K δ R (tAndV ta tb) (.d (.bool (a && b))) := fun G H σ Q ok en k => h1 G H σ _ ok en fun v G1 H1 ok1 l1 q1 => by
  cases (show Hv G1 v (.bool a) from q1)
  refine ⟨a, rfl, ?_⟩
  cases a with
  | true =>
    rw [if_pos rfl]
    exact h2 rfl G1 H1 σ Q ok1 (en.mono l1.g) fun u G2 H2 ok2 l2 => k u G2 H2 ok2 (l1.trans l2)
  | false =>
    rw [if_neg Bool.false_ne_true]
    exact k _ G1 H1 ok1 l1 (show Hv G1 _ _ from .bl _)
theorem ev_or {a b : Bool} (h1 : Ev K δ R ta (.d (.bool a))) (h2 : a = false → Ev K δ R tb (.d (.bool b))) : Ev K δ R (tOrV ta tb) (.d (.bool (a || b))) := fun G H σ Q ok en k => h1 G H σ _ ok en fun v G1 H1 ok1 l1 q1 => by
  cases (show Hv G1 v (.bool a) from q1)
  refine ⟨a, rfl, ?_⟩
  cases a with
  | true =>
    rw [if_pos rfl]
    exact k _ G1 H1 ok1 l1 (show Hv G1 _ _ from .bl _)
  | false =>
    rw [if_neg Bool.false_ne_true]
    exact h2 rfl G1 H1 σ Q ok1 (en.mono l1.g) fun u G2 H2 ok2 l2 => k u G2 H2 ok2 (l1.trans l2)
theorem ev_chain {r r' : R2} {a b : Bool} (h1 : Ev K δ R ta x) (h2 : Ev K δ R tb y) (hr : RV K R r x y (.d (.bool a))) (h3 : a = true → Ev K δ R tc z ∧ RV K R r' y z (.d (.bool b))) : Ev K δ R (tChain r r' ta tb tc) (.d (.bool (a && b))) := fun G H σ Q ok en k =>
  h1 G H σ _ ok en fun v G1 H1 ok1 l1 q1 => h2 G1 H1 σ _ ok1 (en.mono l1.g) fun w G2 H2 ok2 l2 q2 => hr G2 H2 v w _ ok2 (q1.mono l2.g) q2 fun u G3 H3 ok3 l3 q3 => by
    cases (show Hv G3 u (.bool a) from q3)
    refine ⟨a, rfl, ?_⟩
    cases a with
    | true =>
      rw [if_pos rfl]
      obtain ⟨h4, h5⟩ := h3 rfl
      exact h4 G3 H3 σ _ ok3 (en.mono ((l1.trans l2).trans l3).g) fun u' G4 H4 ok4 l4 q4 => h5 G4 H4 w u' Q ok4 (q2.mono (l3.trans l4).g) q4 fun u'' G5 H5 ok5 l5 q5 => k u'' G5 H5 ok5 ((((l1.trans l2).trans l3).trans l4).trans l5) q5
    | false =>
      rw [if_neg Bool.false_ne_true]
      exact k _ G3 H3 ok3 ((l1.trans l2).trans l3) (show Hv G3 _ _ from .bl _)
/-! ### fields, dicts -/
theorem Fvs.look {K : PySem.W.Frag} {G : Hp} : ∀ {vs : List (Str × V)} {ds : List (Str × D)} {f : Str} {d : D}, Fvs K G vs ds → ds.lookup f = some d → ∃ v, vs.lookup f = some v ∧ HD K G v d
  | _, _, f, d, .nil, e => by simp at e
  | _, _, f, d, .cons (k := k) h t, e => by
    rw [List.lookup_cons] at e ⊢
    cases q : f == k with
    | true => rw [q] at e; cases e; exact ⟨_, rfl, h⟩
    | false => rw [q] at e; exact Fvs.look t e
theorem Fvs.lookN {K : PySem.W.Frag} {G : Hp} : ∀ {vs : List (Str × V)} {ds : List (Str × D)} {f : Str}, Fvs K G vs ds → ds.lookup f = none → vs.lookup f = none
  | _, _, f, .nil, e => rfl
  | _, _, f, .cons (k := k) h t, e => by
    rw [List.lookup_cons] at e ⊢
    cases q : f == k with
    | true => rw [q] at e; cases e
    | false => rw [q] at e; exact Fvs.lookN t e
theorem ev_fld {i : Nat} {a C : Addr} {fs : List (Str × D)} {f : Str} (h : Ev K δ R ta (.r a)) (hi : R[i]? = some (a, .ins C fs)) (hl : fs.lookup f = some d) (hc : Cls K C) (hn : NoAttr K C f) : Ev K δ R (tFld K ta f) d := fun G H σ Q ok en k =>
  h G H σ _ ok en fun v G1 H1 ok1 l1 q1 => by
    cases (show v = .ref a from q1)
    obtain ⟨dx, vs, e, fv⟩ := ok1.at hi
    obtain ⟨w, e2, q2⟩ := fv.look hl
    exact ⟨a, C, dx, vs, w, rfl, e, hc, hn, e2, k w G1 H1 ok1 l1 q2⟩
/-- a key -/
def keyD : Key → PyData
  | .inl i => .int i
  | .inr x => .str x
theorem Hv.key {G : Hp} {v : V} {k : Key} (h : Hv G v (keyD k)) : v = kV k := by
  cases k <;> (cases h; rfl)
def valD {κ : Type} [DecidableEq κ] (kvs : List (κ × D)) (k : κ) : Option D := (kvs.find? fun kv => decide (kv.1 = k)).map (·.2)
def ValAt (K : PySem.W.Frag) (G : Hp) (o : Option V) : Option D → Prop
  | some d => ∃ v, o = some v ∧ HD K G v d
  | none => o = none
theorem Fvs.val {K : PySem.W.Frag} {G : Hp} {κ : Type} [DecidableEq κ] {k : κ} : ∀ {vs : List (κ × V)} {ds : List (κ × D)}, Fvs K G vs ds → ValAt K G (valV vs k) (valD ds k)
  | _, _, .nil => rfl
  | _, _, .cons (k := j) (v := v) (d := d) (vs := vs) (ds := ds) h t => by
    by_cases e : j = k
    · have q1 : valD ((j, d) :: ds) k = some d := by simp [valD, List.find?_cons, e]
      rw [q1]
      exact ⟨v, valV_pos e, h⟩
    · have q1 : valD ((j, d) :: ds) k = valD ds k := by simp [valD, List.find?_cons, e]
      rw [q1]
      have q2 : valV ((j, v) :: vs) k = valV vs k := valV_neg e
      rw [q2]
      exact Fvs.val t
theorem Fvs.some {K : PySem.W.Frag} {G : Hp} {κ : Type} [DecidableEq κ] {k : κ} {vs : List (κ × V)} {ds : List (κ × D)} {d : D} (h : Fvs K G vs ds) (e : valD ds k = some d) : ∃ v, valV vs k = some v ∧ HD K G v d := by
  have q := h.val (k := k)
  rw [e] at q
  exact q
theorem Fvs.isSome {K : PySem.W.Frag} {G : Hp} {κ : Type} [DecidableEq κ] {k : κ} {vs : List (κ × V)} {ds : List (κ × D)} (h : Fvs K G vs ds) : (valV vs k).isSome = (valD ds k).isSome := by
  have q := h.val (k := k)
  cases e : valD ds k with
  | none => rw [e] at q; rw [show valV vs k = none from q]; rfl
  | some d => rw [e] at q; obtain ⟨v, q1, _⟩ := q; rw [q1]; rfl
theorem ev_dget {i : Nat} {a : Addr} {kvs : List (Key × D)} {k : Key} (h1 : Ev K δ R ta (.r a)) (h2 : Ev K δ R tb (.d (keyD k))) (hi : R[i]? = some (a, .dic kvs)) (hl : valD kvs k = some d) : Ev K δ R (tDGet ta tb) d := fun G H σ Q ok en kk =>
  h1 G H σ _ ok en fun v G1 H1 ok1 l1 q1 => h2 G1 H1 σ _ ok1 (en.mono l1.g) fun w G2 H2 ok2 l2 q2 => by
    cases (show v = .ref a from q1)
    have ew := Hv.key (show Hv G2 w (keyD k) from q2)
    subst ew
    obtain ⟨vs, e, _, fv⟩ := ok2.at hi
    obtain ⟨u, e1, e2⟩ := fv.some hl
    refine ⟨a, u, rfl, ?_, kk u G2 H2 ok2 (l1.trans l2) e2⟩
    rw [← e1]
    exact DGet.k e
theorem ev_din {i : Nat} {a : Addr} {kvs : List (Key × D)} {k : Key} (h2 : Ev K δ R tb (.d (keyD k))) (h1 : Ev K δ R ta (.r a)) (hi : R[i]? = some (a, .dic kvs)) : Ev K δ R (tDIn tb ta) (.d (.bool (valD kvs k).isSome)) := fun G H σ Q ok en kk =>
  h2 G H σ _ ok en fun w G1 H1 ok1 l1 q1 => h1 G1 H1 σ _ ok1 (en.mono l1.g) fun v G2 H2 ok2 l2 q2 => by
    cases (show v = .ref a from q2)
    have ew := Hv.key (show Hv G1 w (keyD k) from q1)
    subst ew
    obtain ⟨vs, e, _, fv⟩ := ok2.at hi
    refine ⟨a, _, rfl, DGet.k (k := k) e, ?_⟩
    rw [fv.isSome]
    exact kk _ G2 H2 ok2 (l1.trans l2) (show Hv G2 _ _ from .bl _)
theorem ev_dnotin {i : Nat} {a : Addr} {kvs : List (Key × D)} {k : Key} (h2 : Ev K δ R tb (.d (keyD k))) (h1 : Ev K δ R ta (.r a)) (hi : R[i]? = some (a, .dic kvs)) : Ev K δ R (tDNotIn tb ta) (.d (.bool (!(valD kvs k).isSome))) := fun G H σ Q ok en kk =>
  h2 G H σ _ ok en fun w G1 H1 ok1 l1 q1 => h1 G1 H1 σ _ ok1 (en.mono l1.g) fun v G2 H2 ok2 l2 q2 => by
    cases (show v = .ref a from q2)
    have ew := Hv.key (show Hv G1 w (keyD k) from q1)
    subst ew
    obtain ⟨vs, e, _, fv⟩ := ok2.at hi
    refine ⟨a, _, rfl, DGet.k (k := k) e, ?_⟩
    rw [fv.isSome]
    exact kk _ G2 H2 ok2 (l1.trans l2) (show Hv G2 _ _ from .bl _)
/-! ### calls of built-ins by values -/
theorem vals_one {G : Hp} {vs : List V} {x : PyData} (h : Hvs G vs [x]) : ∃ v, vs = [v] ∧ Hv G v x := by
  cases h with
  | cons h1 h2 => cases h2; exact ⟨_, rfl, h1⟩
def lenD (R : Res) (d : D) (n : Nat) : Prop := (∃ ds, Ls R d ds ∧ n = ds.length) ∨ (∃ ds, d = .d (.tuple ds) ∧ n = ds.length) ∨ (∃ z, d = .d (.str z) ∧ z.length ≤ 50000 ∧ n = z.length) ∨ ∃ ns, d = .s ns ∧ n = ns.length
def rLen (K : PySem.W.Frag) : List V → Hp → VK → Prop := fun xs H Q => ∃ x n, xs = [x] ∧ LenV K x H n ∧ Q (.int n) H
theorem ev_len {n : Nat} (h : Ev K δ R ta d) (hn : lenD R d n) : Ev K δ R (tCB (rLen K) (tCons ta tNil)) (.d (.int n)) := fun G H σ Q ok en k => h G H σ _ ok en fun v G1 H1 ok1 l1 q1 => by
  refine ⟨v, n, rfl, ?_, k _ G1 H1 ok1 l1 (show Hv G1 _ _ from .int _)⟩
  rcases hn with ⟨ds, hl, e⟩ | ⟨ds, rfl, e⟩ | ⟨z, rfl, hz, e⟩ | ⟨ns, rfl, e⟩
  · obtain ⟨a, vs, rfl, ea, la, hv⟩ := hl.hv ok1 q1
    exact .inl ⟨vs, SqL.of ea, by rw [e, hv.len]⟩
  · cases (show Hv G1 v (.tuple ds) from q1) with
    | tup e1 e2 e3 => exact .inr ⟨_, SqT.of (ok1.ex _ _ e1), by rw [e, e3.len]⟩
  · cases (show Hv G1 v (.str z) from q1)
    exact ⟨lim_le hz, e⟩
  · obtain ⟨a, rfl, hs⟩ := q1
    exact .inl ⟨_, gx_sql ok1.ex hs, by rw [e, List.length_map]⟩
theorem ev_lenL {ds : List PyData} (h : Ev K δ R ta d) (hn : Ls R d ds) : Ev K δ R (tCB (rLen K) (tCons ta tNil)) (.d (.int ds.length)) := ev_len h (.inl ⟨ds, hn, rfl⟩)
theorem ev_lenT {ds : List PyData} (h : Ev K δ R ta (.d (.tuple ds))) : Ev K δ R (tCB (rLen K) (tCons ta tNil)) (.d (.int ds.length)) := ev_len h (.inr (.inl ⟨ds, rfl, rfl⟩))
theorem ev_lenS {z : Str} (h : Ev K δ R ta (.d (.str z))) (hz : z.length ≤ 50000) : Ev K δ R (tCB (rLen K) (tCons ta tNil)) (.d (.int z.length)) := ev_len h (.inr (.inr (.inl ⟨z, rfl, hz, rfl⟩)))
theorem ev_lens {ns : List Int} (h : Ev K δ R ta (.s ns)) : Ev K δ R (tCB (rLen K) (tCons ta tNil)) (.d (.int ns.length)) := ev_len h (.inr (.inr (.inr ⟨ns, rfl, rfl⟩)))
def rListS (K : PySem.W.Frag) : List V → Hp → VK → Prop := fun xs H Q => ∃ p ys, xs = [.ref p] ∧ (SqL K H p ys ∨ SqT K H p ys) ∧ ∀ l, H l = none → Q (.ref l) (upd H l (.lst ys))
theorem evf_list {ds : List PyData} (h : Ev K δ R ta d) (hl : Ls R d ds) : EvF K δ R (tCB (rListS K) (tCons ta tNil)) ds := fun G H σ Q ok en k => h G H σ _ ok en fun v G1 H1 ok1 l1 q1 => by
  obtain ⟨a, vs, rfl, ea, la, hv⟩ := hl.hv ok1 q1
  refine ⟨a, vs, rfl, .inl (SqL.of ea), fun p hp => ?_⟩
  obtain ⟨ok', le⟩ := ok1.laid (q := .lst ds) (o := .lst vs) hp ⟨vs, upd_same, la, hv⟩
  exact k _ _ _ ok' (l1.trans le)
theorem evf_listD {i : Nat} {a : Addr} {kvs : List (Key × D)} (h : Ev K δ R ta (.r a)) (hi : R[i]? = some (a, .dic kvs)) : EvF K δ R (tCB rListD (tCons ta tNil)) (kvs.map fun kv => keyD kv.1) := fun G H σ Q ok en k => h G H σ _ ok en fun v G1 H1 ok1 l1 q1 => by
  cases (show v = .ref a from q1)
  obtain ⟨vs, e, hl, fv⟩ := ok1.at hi
  refine ⟨a, vs, rfl, e, fun p hp => ?_⟩
  have hv : Hvs G1 (vs.map fun kv => kV kv.1) (kvs.map fun kv => keyD kv.1) := by
    have e1 : (vs.map fun kv => kV kv.1) = (vs.map (·.1)).map kV := by rw [List.map_map]; rfl
    have e2 : (kvs.map fun kv => keyD kv.1) = (kvs.map (·.1)).map keyD := by rw [List.map_map]; rfl
    rw [e1, e2, fv.keys]
    generalize kvs.map (·.1) = ks
    induction ks with
    | nil => exact .nil
    | cons k ks ih =>
      refine .cons ?_ ih
      cases k with
      | inl i => exact .int i
      | inr x => exact .str x
  obtain ⟨ok', le⟩ := ok1.laid (q := .lst (kvs.map fun kv => keyD kv.1)) hp ⟨_, upd_same, by rw [List.length_map]; exact hl, hv⟩
  exact k _ _ _ ok' (l1.trans le)
def rInt1 : List V → Hp → VK → Prop := fun xs H Q => (∃ i, xs = [.int i] ∧ Q (.int i) H) ∨ ∃ k, xs = [.bl k] ∧ Q (.int (if k then 1 else 0)) H
theorem ev_int1 {b : Bool} (h : Ev K δ R ta (.d (.bool b))) : Ev K δ R (tCB rInt1 (tCons ta tNil)) (.d (.int (if b then 1 else 0))) := fun G H σ Q ok en k => h G H σ _ ok en fun v G1 H1 ok1 l1 q1 => by
  cases (show Hv G1 v (.bool b) from q1)
  exact .inr ⟨b, rfl, k _ G1 H1 ok1 l1 (show Hv G1 _ _ from .int _)⟩
def rStr1 : List V → Hp → VK → Prop := fun xs H Q => ∃ i, xs = [.int i] ∧ i.natAbs.log2 < 1920 ∧ Q (.str (toString i)) H
theorem ev_str1 {i : Int} (h : Ev K δ R ta (.d (.int i))) (hl : i.natAbs.log2 < 1920) : Ev K δ R (tCB rStr1 (tCons ta tNil)) (.d (.str (toString i))) := fun G H σ Q ok en k => h G H σ _ ok en fun v G1 H1 ok1 l1 q1 => by
  cases (show Hv G1 v (.int i) from q1)
  exact ⟨i, rfl, hl, k _ G1 H1 ok1 l1 (show Hv G1 _ _ from .str _)⟩
def rMin2 : List V → Hp → VK → Prop := fun xs H Q => ∃ i j, xs = [.int i, .int j] ∧ Q (.int (if j < i then j else i)) H
def rMax2 : List V → Hp → VK → Prop := fun xs H Q => ∃ i j, xs = [.int i, .int j] ∧ Q (.int (if j > i then j else i)) H
theorem ev_min2 {i j : Int} (h1 : Ev K δ R ta (.d (.int i))) (h2 : Ev K δ R tb (.d (.int j))) : Ev K δ R (tCB rMin2 (tCons ta (tCons tb tNil))) (.d (.int (if j < i then j else i))) := fun G H σ Q ok en k =>
  h1 G H σ _ ok en fun v G1 H1 ok1 l1 q1 => h2 G1 H1 σ _ ok1 (en.mono l1.g) fun w G2 H2 ok2 l2 q2 => by
    cases (show Hv G1 v (.int i) from q1)
    cases (show Hv G2 w (.int j) from q2)
    exact ⟨i, j, rfl, k _ G2 H2 ok2 (l1.trans l2) (show Hv G2 _ _ from .int _)⟩
theorem ev_max2 {i j : Int} (h1 : Ev K δ R ta (.d (.int i))) (h2 : Ev K δ R tb (.d (.int j))) : Ev K δ R (tCB rMax2 (tCons ta (tCons tb tNil))) (.d (.int (if j > i then j else i))) := fun G H σ Q ok en k =>
  h1 G H σ _ ok en fun v G1 H1 ok1 l1 q1 => h2 G1 H1 σ _ ok1 (en.mono l1.g) fun w G2 H2 ok2 l2 q2 => by
    cases (show Hv G1 v (.int i) from q1)
    cases (show Hv G2 w (.int j) from q2)
    exact ⟨i, j, rfl, k _ G2 H2 ok2 (l1.trans l2) (show Hv G2 _ _ from .int _)⟩
theorem ev_min1 {ns : List Int} {m : Int} (h : Ev K δ R ta d) (hl : Ls R d (ns.map .int)) (hm : m ∈ ns) (hle : ∀ y ∈ ns, m ≤ y) : Ev K δ R (tCB (rMin K) (tCons ta tNil)) (.d (.int m)) := fun G H σ Q ok en k => h G H σ _ ok en fun v G1 H1 ok1 l1 q1 => by
  obtain ⟨a, vs, rfl, ea, la, hv⟩ := hl.hv ok1 q1
  have e := hv.ints
  subst e
  refine ⟨a, ns, rfl, SqL.of ea, List.length_pos_of_mem hm, fun m' hm' hle' => ?_⟩
  have e : m' = m := Int.le_antisymm (hle' m hm) (hle m' hm')
  subst e
  exact k _ G1 H1 ok1 l1 (show Hv G1 _ _ from .int _)
theorem ev_sum {ns : List Int} (h : Ev K δ R ta d) (hl : Ls R d (ns.map .int)) : Ev K δ R (tCB (rSum K) (tCons ta tNil)) (.d (.int ns.sum)) := fun G H σ Q ok en k => h G H σ _ ok en fun v G1 H1 ok1 l1 q1 => by
  obtain ⟨a, vs, rfl, ea, la, hv⟩ := hl.hv ok1 q1
  have e := hv.ints
  subst e
  exact ⟨a, ns, rfl, SqL.of ea, k _ G1 H1 ok1 l1 (show Hv G1 _ _ from .int _)⟩
theorem ev_all {bs : List Bool} (h : Ev K δ R ta d) (hl : Ls R d (bs.map .bool)) : Ev K δ R (tCB (rAll K) (tCons ta tNil)) (.d (.bool (bs.all id))) := fun G H σ Q ok en k => h G H σ _ ok en fun v G1 H1 ok1 l1 q1 => by
  obtain ⟨a, vs, rfl, ea, la, hv⟩ := hl.hv ok1 q1
  have e := hv.bls
  subst e
  exact ⟨a, bs, rfl, SqL.of ea, k _ G1 H1 ok1 l1 (show Hv G1 _ _ from .bl _)⟩
/-- sorted, of ints: the sorted list is any list that is a permutation and rises -/
theorem evf_sorted {ns ms : List Int} (h : Ev K δ R ta d) (hl : Ls R d (ns.map .int)) (hp : ns.Perm ms) (hs : ms.Pairwise (· ≤ ·)) : EvF K δ R (tCB (rSortedI K) (tCons ta tNil)) (ms.map .int) := fun G H σ Q ok en k => h G H σ _ ok en fun v G1 H1 ok1 l1 q1 => by
  obtain ⟨a, vs, rfl, ea, la, hv⟩ := hl.hv ok1 q1
  have e := hv.ints
  subst e
  refine ⟨a, ns, rfl, SqL.of ea, fun ns' p hp' hs' new => ?_⟩
  have e : ns' = ms := by
    have q : ns'.Perm ms := hp'.trans hp
    exact q.eq_of_pairwise (fun a b _ _ h1 h2 => Int.le_antisymm h1 h2) hs' hs
  subst e
  have hlen : ns'.length = ns.length := hp'.length_eq
  obtain ⟨ok', le⟩ := ok1.laid (q := .lst (ns'.map .int)) new ⟨_, upd_same, by rw [List.length_map] at la ⊢; omega, hvs_ints _⟩
  exact k _ _ _ ok' (l1.trans le)
/-! ### isinstance with a built-in class -/
def tyD : PyData → Option String
  | .none => some "NoneType"
  | .bool _ => some "bool"
  | .int _ => some "int"
  | .str _ => some "str"
  | .list _ => some "list"
  | .tuple _ => some "tuple"
  | .dict _ => none
theorem Hv.ty {H : Hp} {v : V} {x : PyData} (h : Hv H v x) : ∃ T, tyD x = some T ∧ TyX K H v (.type T) := by
  cases h with
  | non => exact ⟨_, rfl, .base .non⟩
  | bl b => exact ⟨_, rfl, .base (.bl b)⟩
  | int i => exact ⟨_, rfl, .base (.int i)⟩
  | str x => exact ⟨_, rfl, .base (.str x)⟩
  | lst h1 _ _ => exact ⟨_, rfl, .base (.lst h1)⟩
  | tup h1 _ _ => exact ⟨_, rfl, .base (.tup h1)⟩
theorem ev_isi {x : PyData} {T C : String} {b : Bool} (h : Ev K δ R ta d) (hv : Vw R d x) (ht : tyD x = some T) (hb : kitB T C = some b) : Ev K δ R (tCB (rIsi K) (tCons ta (tCons (tC (.ty C)) tNil))) (.d (.bool b)) := fun G H σ Q ok en k => h G H σ _ ok en fun v G1 H1 ok1 l1 q1 => by
  obtain ⟨T', e, ty⟩ := Hv.ty (K := K) (hv.hv ok1 q1)
  rw [ht] at e
  cases e
  exact ⟨v, .ty C, .type T, .type C, b, rfl, .ty C, ty, kit_ty hb, k _ G1 H1 ok1 l1 (show Hv G1 _ _ from .bl _)⟩
end
end Fl
/-! Sources, comprehensions, statements, calls, defs. -/
namespace Fl
open PySem PySem.Spec PyProof.Rows L2
/-! ### sources: what a for walks -/
/-- the value x that a turn hands out, at the heap H' -/
def StepTo (K : PySem.W.Frag) (G H : Hp) (x : V) (H' : Hp) (u : PyData) : Prop :=
  (H' = H ∧ Hv G x u) ∨ ∃ (T : Addr) (vs : List V) (xs : List PyData), H T = none ∧ H' = upd H T (.tup vs) ∧ vs.length ≤ 50000 ∧ x = .ref T ∧ Hvs G vs xs ∧ u = .tuple xs
def IsIt (K : PySem.W.Frag) (J : It) (G : Hp) (us : List PyData) : Prop := ∀ G2 H2 : Hp, Gx G G2 → Gx G2 H2 → (∀ i, us.length ≤ i → J.stop i H2) ∧ ∀ (i : Nat) (u : PyData), us[i]? = some u → J.go i H2 ∧ ∀ x H', J.yld i H2 x H' → StepTo K G2 H2 x H' u
def EvI (K : PySem.W.Frag) (δ : DEnv) (R : Res) (wi : TI) (us : List PyData) : Prop := ∀ (G H : Hp) (σ : L2.St) (Q : It → Hp → Prop), Ok K G H R → DE K G σ δ →
  (∀ J G' H', Ok K G' H' R → Le G H R G' H' R → us.length ≤ 50000 → IsIt K J G' us → Q J H') → wi σ H Q
section
variable {K : PySem.W.Frag} {G G' H H' : Hp} {R : Res} {δ : DEnv} {ta tb tc te tl : TE} {d x y z : D} {r : R2}
theorem StepTo.ok {v : V} {u : PyData} (s : StepTo K G H v H' u) (ok : Ok K G H R) : ∃ G', Ok K G' H' R ∧ Le G H R G' H' R ∧ Hv G' v u := by
  rcases s with ⟨rfl, h⟩ | ⟨T, vs, xs, hT, rfl, hl, rfl, hv, rfl⟩
  · exact ⟨G, ok, .refl, h⟩
  · obtain ⟨ok', le⟩ := ok.seen (o := .tup vs) hT
    exact ⟨_, ok', le, .tup upd_same hl (Hvs.mono le.g _ hv)⟩
theorem isIt_list {a : Addr} {vs : List V} {ds : List PyData} (e : G a = some (.lst vs)) (hv : Hvs G vs ds) : IsIt K (Itl K a) G ds := fun G2 H2 g1 g2 => by
  have e2 : H2 a = some (.lst vs) := g2 _ _ (g1 _ _ e)
  have el := hv.len
  refine ⟨fun i hi => ⟨vs, SqL.of e2, by omega⟩, fun i u hu => ?_⟩
  obtain ⟨v, h1, h2⟩ := hv.getd hu
  exact ⟨⟨vs, v, SqL.of e2, h1⟩, fun x H' ⟨y1, y2⟩ => .inl ⟨y1, by
    have q := y2 vs (SqL.of e2)
    rw [h1] at q
    cases q
    exact Hv.mono g1 _ h2⟩⟩
theorem ei_list {ds : List PyData} (h : Ev K δ R tl (.d (.list ds))) : EvI K δ R (iList K tl) ds := fun G H σ Q ok en k => h G H σ _ ok en fun v G1 H1 ok1 l1 q1 => by
  cases (show Hv G1 v (.list ds) from q1) with
  | lst e1 e2 e3 =>
    refine ⟨_, rfl, ⟨_, SqL.of (ok1.ex _ _ e1)⟩, k _ G1 H1 ok1 l1 ?_ (isIt_list e1 e3)⟩
    rw [← e3.len]
    exact e2
theorem ei_tup {ds : List PyData} (h : Ev K δ R tl (.d (.tuple ds))) : EvI K δ R (iTup K tl) ds := fun G H σ Q ok en k => h G H σ _ ok en fun v G1 H1 ok1 l1 q1 => by
  cases (show Hv G1 v (.tuple ds) from q1) with
  | @tup a vs ds e1 e2 e3 =>
    have el := e3.len
    refine ⟨a, rfl, ⟨vs, SqT.of (ok1.ex _ _ e1)⟩, k _ G1 H1 ok1 l1 (by omega) fun G2 H2 g1 g2 => ?_⟩
    have e4 : H2 a = some (.tup vs) := g2 _ _ (g1 _ _ e1)
    refine ⟨fun i hi => ⟨vs, SqT.of e4, by omega⟩, fun i u hu => ?_⟩
    obtain ⟨w, h1, h2⟩ := e3.getd hu
    exact ⟨⟨vs, w, SqT.of e4, h1⟩, fun x H' ⟨y1, y2⟩ => .inl ⟨y1, by
      have q := y2 vs (SqT.of e4)
      rw [h1] at q
      cases q
      exact Hv.mono g1 _ h2⟩⟩
def rngD (lo : Int) (n : Nat) : List PyData := (List.range n).map fun i => .int (lo + (i : Nat))
theorem rngD_len (lo : Int) (n : Nat) : (rngD lo n).length = n := by simp [rngD]
theorem rngD_get {lo : Int} {n i : Nat} {u : PyData} (h : (rngD lo n)[i]? = some u) : i < n ∧ u = .int (lo + (i : Nat)) := by
  unfold rngD at h
  rw [List.getElem?_map] at h
  by_cases z : i < n
  · rw [List.getElem?_range z] at h
    exact ⟨z, (Option.some.inj h).symm⟩
  · rw [List.getElem?_eq_none (by simpa using z)] at h
    cases h
theorem isIt_rng {lo : Int} {n : Nat} : IsIt K (Itr lo n) G (rngD lo n) := fun G2 H2 g1 g2 => by
  refine ⟨fun i hi => by rw [rngD_len] at hi; exact hi, fun i u hu => ?_⟩
  obtain ⟨h1, rfl⟩ := rngD_get hu
  exact ⟨h1, fun x H' ⟨y1, y2⟩ => .inl ⟨y1, by rw [y2]; exact .int _⟩⟩
theorem ei_rng1 {n : Int} (h : Ev K δ R ta (.d (.int n))) (hn : 0 ≤ n ∧ n ≤ 50000) : EvI K δ R (iRng1 (tCons ta tNil)) (rngD 0 n.toNat) := fun G H σ Q ok en k => h G H σ _ ok en fun v G1 H1 ok1 l1 q1 => by
  cases (show Hv G1 v (.int n) from q1)
  exact ⟨n, rfl, by omega, by omega, k _ G1 H1 ok1 l1 (by rw [rngD_len]; omega) isIt_rng⟩
theorem ei_rng2 {a n : Int} (h1 : Ev K δ R ta (.d (.int a))) (h2 : Ev K δ R tb (.d (.int n))) (hn : -50000 ≤ a ∧ a ≤ n + 1 ∧ n ≤ 50000 ∧ n - a ≤ 50000) : EvI K δ R (iRng2 (tCons ta (tCons tb tNil))) (rngD a (n - a).toNat) := fun G H σ Q ok en k =>
  h1 G H σ _ ok en fun v G1 H1 ok1 l1 q1 => h2 G1 H1 σ _ ok1 (en.mono l1.g) fun w G2 H2 ok2 l2 q2 => by
    cases (show Hv G1 v (.int a) from q1)
    cases (show Hv G2 w (.int n) from q2)
    exact ⟨a, n, rfl, ⟨by omega, by omega, by omega, by omega⟩, k _ G2 H2 ok2 (l1.trans l2) (by rw [rngD_len]; omega) isIt_rng⟩
/-- reversed(range(a, n)) -/
theorem ei_revR {a n : Int} (h1 : Ev K δ R ta (.d (.int a))) (h2 : Ev K δ R tb (.d (.int n))) (hn : -50000 ≤ a ∧ a ≤ n + 1 ∧ n ≤ 50000 ∧ n - a ≤ 50000) : EvI K δ R (iRevR (tRg2 ta tb)) (rngD a (n - a).toNat).reverse := fun G H σ Q ok en k =>
  h1 G H σ _ ok en fun v G1 H1 ok1 l1 q1 => h2 G1 H1 σ _ ok1 (en.mono l1.g) fun w G2 H2 ok2 l2 q2 => by
    cases (show Hv G1 v (.int a) from q1)
    cases (show Hv G2 w (.int n) from q2)
    refine ⟨a, n, rfl, rfl, by omega, by omega, by omega, by omega, k _ G2 H2 ok2 (l1.trans l2) (by rw [List.length_reverse, rngD_len]; omega) fun G3 H3 g1 g2 => ⟨fun i hi => by rw [List.length_reverse, rngD_len] at hi; exact hi, fun i u hu => ?_⟩⟩
    obtain ⟨hi, e⟩ := List.getElem?_eq_some_iff.mp hu
    have hi' := hi
    rw [List.length_reverse, rngD_len] at hi'
    rw [List.getElem_reverse] at e
    have e2 : (rngD a (n - a).toNat)[(rngD a (n - a).toNat).length - 1 - i]? = some u := by
      rw [← e]
      exact List.getElem?_eq_getElem _
    obtain ⟨_, rfl⟩ := rngD_get e2
    rw [rngD_len]
    refine ⟨hi', fun x H' ⟨y1, y2⟩ => .inl ⟨y1, ?_⟩⟩
    rw [y2]
    have e3 : a + (((n - a).toNat : Nat) : Int) - 1 + (i : Nat) * -1 = a + (((n - a).toNat - 1 - i : Nat) : Int) := by omega
    rw [e3]
    exact .int _
/-- the signs of a text -/
def sgnD (z : Str) : List PyData := z.cps.toList.map fun c => .str ⟨#[c]⟩
theorem ei_str {z : Str} (h : Ev K δ R te (.d (.str z))) (hz : z.cps.size ≤ 50000) : EvI K δ R (iStr te) (sgnD z) := fun G H σ Q ok en k => h G H σ _ ok en fun v G1 H1 ok1 l1 q1 => by
  cases (show Hv G1 v (.str z) from q1)
  have e1 : (sgnD z).length = z.cps.size := by simp [sgnD]
  refine ⟨z, rfl, k _ G1 H1 ok1 l1 (by omega) fun G2 H2 g1 g2 => ⟨fun i hi => by rw [e1] at hi; exact hi, fun i u hu => ?_⟩⟩
  have hi : i < z.cps.size := by rw [← e1]; exact (List.getElem?_eq_some_iff.mp hu).1
  refine ⟨hi, fun x H' ⟨y1, c, y2, y3⟩ => .inl ⟨y1, ?_⟩⟩
  unfold sgnD at hu
  rw [List.getElem?_map, Array.getElem?_toList, y2] at hu
  rw [y3, ← Option.some.inj hu]
  exact .str _

theorem zip_get {α β : Type} : ∀ {xs : List α} {ys : List β} {i : Nat} {p : α × β}, (xs.zip ys)[i]? = some p → xs[i]? = some p.1 ∧ ys[i]? = some p.2
  | [], ys, i, p, h => by simp at h
  | x :: xs, [], i, p, h => by simp at h
  | x :: xs, y :: ys, 0, p, h => by simp at h; subst h; exact ⟨rfl, rfl⟩
  | x :: xs, y :: ys, i + 1, p, h => by
    have := zip_get (xs := xs) (ys := ys) (i := i) (p := p) (by simpa using h)
    simpa using this
/-- zip of two lists -/
def zipD (xs ys : List PyData) : List PyData := (xs.zip ys).map fun p => .tuple [p.1, p.2]
theorem ei_zip {xs ys : List PyData} (h1 : Ev K δ R ta (.d (.list xs))) (h2 : Ev K δ R tb (.d (.list ys))) : EvI K δ R (iZip K (tCons ta (tCons tb tNil))) (zipD xs ys) := fun G H σ Q ok en k =>
  h1 G H σ _ ok en fun v G1 H1 ok1 l1 q1 => h2 G1 H1 σ _ ok1 (en.mono l1.g) fun w G2 H2 ok2 l2 q2 => by
    cases (show Hv G2 v (.list xs) from q1.mono l2.g) with
    | @lst a vs _ e1 e2 e3 =>
      cases (show Hv G2 w (.list ys) from q2) with
      | @lst b ws _ f1 f2 f3 =>
        have a1 := e3.len
        have a2 := f3.len
        have zl : (zipD xs ys).length = min xs.length ys.length := by simp [zipD]
        refine ⟨a, b, vs, ws, rfl, SqL.of (ok2.ex _ _ e1), SqL.of (ok2.ex _ _ f1), k _ G2 H2 ok2 (l1.trans l2) (by omega) fun G3 H3 g1 g2 => ⟨fun i hi => ⟨vs, ws, SqL.of (g2 _ _ (g1 _ _ e1)), SqL.of (g2 _ _ (g1 _ _ f1)), by omega⟩, fun i u hu => ?_⟩⟩
        unfold zipD at hu
        rw [List.getElem?_map] at hu
        cases hz : (xs.zip ys)[i]? with
        | none => rw [hz] at hu; cases hu
        | some p =>
          rw [hz] at hu
          obtain ⟨p1, p2⟩ := zip_get hz
          obtain ⟨v', b1, b2⟩ := e3.getd p1
          obtain ⟨w', c1, c2⟩ := f3.getd p2
          have s1 := SqL.of (K := K) (g2 _ _ (g1 _ _ e1))
          have s2 := SqL.of (K := K) (g2 _ _ (g1 _ _ f1))
          refine ⟨⟨vs, ws, v', w', s1, s2, b1, c1⟩, fun x H' ⟨T, x1, x2, t1, t2, t3, t4, t5⟩ => .inr ⟨T, [x1, x2], [p.1, p.2], t2, t3, by show 2 ≤ 50000; decide, t1, ?_, (Option.some.inj hu).symm⟩⟩
          have t4 := t4 vs s1
          have t5 := t5 ws s2
          rw [b1] at t4
          rw [c1] at t5
          cases t4
          cases t5
          exact .cons (Hv.mono g1 _ b2) (.cons (Hv.mono g1 _ c2) .nil)
/-! ### targets -/
def EvG (K : PySem.W.Frag) (δ : DEnv) (g : TG) (u : PyData) (δ' : DEnv) : Prop := ∀ (G H : Hp) (R : Res) (σ : L2.St) (v : V) (Q : L2.St → Hp → Prop), Ok K G H R → DE K G σ δ → Hv G v u → (∀ σ', DE K G σ' δ' → Q σ' H) → g v σ H Q
theorem eg_name {i : Nat} {u : PyData} : EvG K δ (gName i) u (δ.set i (some (.d u))) := fun G H R σ v Q ok en h k => k _ (en.set h)
theorem eg_tup2 {i j : Nat} {a b : PyData} : EvG K δ (gTup K 2 (gCons (gName i) (gCons (gName j) gNil))) (.tuple [a, b]) ((δ.set i (some (.d a))).set j (some (.d b))) := fun G H R σ v Q ok en h k => by
  cases h with
  | tup e1 e2 e3 =>
    cases e3 with
    | cons h1 h2 =>
      cases h2 with
      | cons h3 h4 =>
        cases h4
        exact ⟨_, _, rfl, SqT.of (ok.ex _ _ e1), rfl, _, _, rfl, _, _, rfl, rfl, k _ ((en.set (d := .d a) h1).set (d := .d b) h3)⟩
theorem eg_tup4 {i j k l : Nat} {a b c e : PyData} : EvG K δ (gTup K 4 (gCons (gName i) (gCons (gName j) (gCons (gName k) (gCons (gName l) gNil))))) (.tuple [a, b, c, e]) ((((δ.set i (some (.d a))).set j (some (.d b))).set k (some (.d c))).set l (some (.d e))) := fun G H R σ v Q ok en h kk => by
  cases h with
  | tup e1 e2 e3 =>
    cases e3 with
    | cons h1 t1 => cases t1 with
      | cons h2 t2 => cases t2 with
        | cons h3 t3 => cases t3 with
          | cons h4 t4 =>
            cases t4
            exact ⟨_, _, rfl, SqT.of (ok.ex _ _ e1), rfl, _, _, rfl, _, _, rfl, _, _, rfl, _, _, rfl, rfl, kk _ ((((en.set (d := .d a) h1).set (d := .d b) h2).set (d := .d c) h3).set (d := .d e) h4)⟩
/-! ### comprehensions -/
theorem ok_pre {p : Addr × RO} (ok : Ok K G H (p :: R)) : Ok K G H R := Ok.part (A := [p]) (B := []) (by simpa using ok)
theorem ok_pre_whole {p : Addr × RO} {R' : Res} (ok : Ok K G H (p :: R)) (ok' : Ok K G' H' R') (le : Le G H R G' H' R') : Ok K G' H' (p :: R') ∧ Le G H (p :: R) G' H' (p :: R') := by
  have q := Ok.whole (A := [p]) (B := []) (by simpa using ok) ok' le
  simpa using q
/-- [te for target in wi if tt]: the turns' data are us; f tells which stay, g what is made -/
theorem evf_lcG {wi : TI} {j : Nat} {tt : TT} {vs : List Nat} {us : List PyData} (f : Nat → Bool) (g : Nat → PyData) (hi : EvI K δ R wi us) (hj : j ∈ vs)
    (ht : ∀ (i : Nat) (u : PyData), us[i]? = some u → EvT K ((wipeD δ vs).set j (some (.d u))) R tt (f i))
    (he : ∀ (i : Nat) (u : PyData), us[i]? = some u → f i = true → Ev K ((wipeD δ vs).set j (some (.d u))) R te (.d (g i))) :
    EvF K δ R (tLc wi (gName j) tt te vs) (((List.range us.length).filter f).map g) := fun G H σ Q ok en k => hi G H σ _ ok en fun J G1 H1 ok1 l1 hlen it => by
  intro Dl hD
  let acc := fun n => ((List.range n).filter f).map g
  have acc_len : ∀ n, (acc n).length ≤ n := fun n => by
    show (((List.range n).filter f).map g).length ≤ n
    rw [List.length_map]
    exact Nat.le_trans (List.length_filter_le _ _) (by simp)
  have acc_yes : ∀ n, f n = true → acc (n + 1) = acc n ++ [g n] := fun n h => by
    show ((List.range (n + 1)).filter f).map g = ((List.range n).filter f).map g ++ [g n]
    rw [List.range_succ, List.filter_append, List.map_append, List.filter_cons, if_pos h]
    rfl
  have acc_no : ∀ n, f n = false → acc (n + 1) = acc n := fun n h => by
    show ((List.range (n + 1)).filter f).map g = ((List.range n).filter f).map g
    rw [List.range_succ, List.filter_append, List.map_append, List.filter_cons, if_neg (by rw [h]; decide)]
    simp
  let W : Nat → Hp → Prop := fun n H2 => ∃ G2, Ok K G2 H2 ((Dl, .lst (acc n)) :: R) ∧ Le G H R G2 H2 ((Dl, .lst (acc n)) :: R) ∧ Gx G1 G2
  have start : W 0 (upd H1 Dl (.lst [])) := by
    obtain ⟨ok2, l2⟩ := ok1.laid (p := Dl) (o := .lst []) (q := .lst []) hD ⟨[], upd_same, Nat.zero_le _, .nil⟩
    exact ⟨G1, ok2, l1.trans l2, Gx.refl _⟩
  refine ⟨fun i m H2 => m = us.length - i ∧ i ≤ us.length ∧ W i H2, ⟨us.length, by simp, Nat.zero_le _, start⟩, ?_⟩
  rintro i m H2 ⟨rfl, hle, G2, ok2, l2, gx⟩
  obtain ⟨st, go⟩ := it G2 H2 gx ok2.ex
  by_cases hlt : i < us.length
  · obtain ⟨u, hu⟩ : ∃ u, us[i]? = some u := ⟨us[i], List.getElem?_eq_getElem hlt⟩
    obtain ⟨hg, hy⟩ := go i u hu
    refine .inr ⟨hg, W (i + 1), fun H' p => ⟨us.length - (i + 1), by omega, rfl, hlt, p⟩, fun x H3 y => ?_⟩
    obtain ⟨G3, ok3, l3, hv⟩ := (hy x H3 y).ok (ok_pre ok2)
    obtain ⟨ok3', l3'⟩ := ok_pre_whole ok2 ok3 l3
    have enw : DE K G3 (L2.wipe σ vs) (wipeD δ vs) := (en.wipe vs).mono (l2.g.trans l3.g)
    show L2.wipe ((L2.wipe σ vs).set j (some x)) vs = L2.wipe σ vs ∧ _
    refine ⟨wipe_set hj, ht i u hu G3 H3 _ _ ok3 (enw.set (d := .d u) hv) fun G4 H4 ok4 l4 => ?_⟩
    obtain ⟨ok4', l4'⟩ := ok_pre_whole ok3' ok4 l4
    cases hf : f i with
    | true =>
      rw [if_pos rfl]
      refine he i u hu hf G4 H4 _ _ ok4 ((enw.set (d := .d u) hv).mono l4.g) fun y G5 H5 ok5 l5 q5 => ?_
      obtain ⟨ok5', l5'⟩ := ok_pre_whole ok4' ok5 l5
      obtain ⟨ws, e1, e2, e3⟩ := ok5'.at (i := 0) rfl
      have el := e3.len
      have al := acc_len i
      refine ⟨ws, e1, lim_lt e2, G5, ?_⟩
      have w := ok5'.write (i := 0) (a := Dl) (o := .lst (ws ++ [y])) (q := .lst (acc (i + 1))) rfl ⟨_, upd_same, by rw [List.length_append]; show ws.length + 1 ≤ 50000; omega, by rw [acc_yes i hf]; exact e3.app (.cons q5 .nil)⟩
      obtain ⟨ok6, l6⟩ := w
      exact ⟨ok6, (((l2.trans l3').trans l4').trans l5').trans l6, ((gx.trans l3.g).trans l4.g).trans l5.g⟩
    | false =>
      rw [if_neg Bool.false_ne_true]
      refine ⟨G4, ?_⟩
      rw [acc_no i hf]
      exact ⟨ok4', (l2.trans l3').trans l4', (gx.trans l3.g).trans l4.g⟩
  · have e : i = us.length := by omega
    subst e
    exact .inl ⟨st _ (Nat.le_refl _), k Dl G2 H2 ok2 l2⟩
theorem filter_range_map {α β : Type} (xs : List α) (p : α → Bool) (h : α → β) (f : Nat → Bool) (g : Nat → β) (hf : ∀ i x, xs[i]? = some x → f i = p x) (hg : ∀ i x, xs[i]? = some x → g i = h x) :
    ((List.range xs.length).filter f).map g = (xs.filter p).map h := by
  have all : ∀ n, n ≤ xs.length → ((List.range n).filter f).map g = ((xs.take n).filter p).map h := by
    intro n
    induction n with
    | zero => intro _; simp
    | succ n ih =>
      intro hn
      have e1 : xs[n]? = some xs[n] := List.getElem?_eq_getElem (by omega)
      have q1 := hf _ _ e1
      have q2 := hg _ _ e1
      rw [List.range_succ, List.filter_append, List.map_append, ih (by omega), List.take_succ, e1, List.filter_append, List.map_append]
      congr 1
      cases hp : p xs[n] with
      | true => simp [q1, q2, hp]
      | false => simp [q1, q2, hp]
  have q := all xs.length (Nat.le_refl _)
  rw [List.take_length] at q
  exact q
/-- over a list of α, told by enc -/
theorem evf_lcI {α : Type} {wi : TI} {j : Nat} {tt : TT} {vs : List Nat} {xs : List α} {enc : α → PyData} (f : α → Bool) (g : α → PyData) (hi : EvI K δ R wi (xs.map enc)) (hj : j ∈ vs)
    (ht : ∀ x ∈ xs, EvT K ((wipeD δ vs).set j (some (.d (enc x)))) R tt (f x)) (he : ∀ x ∈ xs, f x = true → Ev K ((wipeD δ vs).set j (some (.d (enc x)))) R te (.d (g x))) :
    EvF K δ R (tLc wi (gName j) tt te vs) ((xs.filter f).map g) := by
  have get : ∀ (i : Nat) (u : PyData), (xs.map enc)[i]? = some u → ∃ x, xs[i]? = some x ∧ x ∈ xs ∧ u = enc x := fun i u h => by
    rw [List.getElem?_map] at h
    cases e : xs[i]? with
    | none => rw [e] at h; cases h
    | some x => rw [e] at h; exact ⟨x, rfl, List.mem_of_getElem? e, (Option.some.inj h).symm⟩
  refine evf_is (evf_lcG (fun i => match xs[i]? with | some x => f x | none => false) (fun i => match xs[i]? with | some x => g x | none => .none) hi hj (fun i u hu => ?_) (fun i u hu hf => ?_)) ?_
  · obtain ⟨x, e, m, rfl⟩ := get i u hu
    simp only [e]
    exact ht x m
  · obtain ⟨x, e, m, rfl⟩ := get i u hu
    simp only [e] at hf ⊢
    exact he x m hf
  · rw [List.length_map]
    exact filter_range_map xs f g _ _ (fun i x e => by simp only [e]) (fun i x e => by simp only [e])
/-- the same without a test -/
theorem evf_lcI0 {α : Type} {wi : TI} {j : Nat} {vs : List Nat} {xs : List α} {enc : α → PyData} (g : α → PyData) (hi : EvI K δ R wi (xs.map enc)) (hj : j ∈ vs)
    (he : ∀ x ∈ xs, Ev K ((wipeD δ vs).set j (some (.d (enc x)))) R te (.d (g x))) : EvF K δ R (tLc wi (gName j) tYes te vs) (xs.map g) :=
  evf_is (evf_lcI (fun _ => true) g hi hj (fun _ _ => et_yes) fun x m _ => he x m) (by rw [List.filter_eq_self.mpr (fun _ _ => rfl)])
theorem ei_is {wi : TI} {us ws : List PyData} (h : EvI K δ R wi us) (e : us = ws) : EvI K δ R wi ws := e ▸ h
end
end Fl
/-! Statements, calls, defs. -/
namespace Fl
open PySem PySem.Spec PyProof.Rows L2
/-- an expression that may change what is owned, or raise -/
def EvE (K : PySem.W.Frag) (Ek : WX) (δ : DEnv) (R : Res) (te : TE) (N : D → Res → Prop) (M : Value → Res → Prop) : Prop := ∀ (G H : Hp) (σ : L2.St) (Q : VK), Ok K G H R → DE K G σ δ →
  (∀ d R' v G' H', N d R' → Ok K G' H' R' → Le G H R G' H' R' → HD K G' v d → Q v H') → (∀ c R' G' H', M c R' → Ok K G' H' R' → Le G H R G' H' R' → Ek c none σ H') → te σ H Q
/-- what is wanted behind a statement -/
structure Post where
  nx : DEnv → Res → Prop
  rt : D → Res → Prop
  bk : DEnv → Res → Prop
  ct : DEnv → Res → Prop
  xe : Value → DEnv → Res → Prop
structure Cn (K : PySem.W.Frag) (Ek : WX) (P : Post) (D : Ends) (G H : Hp) (R : Res) : Prop where
  nx : ∀ δ' R' σ' G' H', P.nx δ' R' → Ok K G' H' R' → Le G H R G' H' R' → DE K G' σ' δ' → D.nx σ' H'
  rt : ∀ d R' v G' H', P.rt d R' → Ok K G' H' R' → Le G H R G' H' R' → HD K G' v d → D.rt v H'
  bk : ∀ δ' R' σ' G' H', P.bk δ' R' → Ok K G' H' R' → Le G H R G' H' R' → DE K G' σ' δ' → D.bk σ' H'
  ct : ∀ δ' R' σ' G' H', P.ct δ' R' → Ok K G' H' R' → Le G H R G' H' R' → DE K G' σ' δ' → D.ct σ' H'
  xe : ∀ c δ' R' σ' G' H', P.xe c δ' R' → Ok K G' H' R' → Le G H R G' H' R' → DE K G' σ' δ' → Ek c none σ' H'
def XS (K : PySem.W.Frag) (Ek : WX) (δ : DEnv) (R : Res) (t : TS) (P : Post) : Prop := ∀ (G H : Hp) (σ : L2.St) (D : Ends), Ok K G H R → DE K G σ δ → Cn K Ek P D G H R → t D σ H
section
variable {K : PySem.W.Frag} {Ek : WX} {G G' H H' : Hp} {R R' : Res} {δ δ' : DEnv} {ta tb tc te tl : TE} {d x y z : D} {r : R2} {t u : TS} {P : Post} {tt : TT} {D : Ends}
theorem Cn.mono (c : Cn K Ek P D G H R) (le : Le G H R G' H' R') : Cn K Ek P D G' H' R' :=
  ⟨fun a b e f g p q l => c.nx a b e f g p q (le.trans l), fun a b e f g p q l => c.rt a b e f g p q (le.trans l), fun a b e f g p q l => c.bk a b e f g p q (le.trans l), fun a b e f g p q l => c.ct a b e f g p q (le.trans l), fun a b e f g h p q l => c.xe a b e f g h p q (le.trans l)⟩
/-! ### expressions as such -/
theorem ee_ev {N : Fl.D → Res → Prop} {M : Value → Res → Prop} (h : Ev K δ R te d) (n : N d R) : EvE K Ek δ R te N M := fun G H σ Q ok en k _ => h G H σ Q ok en fun v G' H' ok' le hv => k d R v G' H' n ok' le hv
theorem ee_evf {ds : List PyData} {N : Fl.D → Res → Prop} {M : Value → Res → Prop} (h : EvF K δ R te ds) (n : ∀ a, N (.r a) ((a, .lst ds) :: R)) : EvE K Ek δ R te N M := fun G H σ Q ok en k _ => h G H σ Q ok en fun a G' H' ok' le => k _ _ _ G' H' (n a) ok' le rfl
theorem EvE.mono {N N' : Fl.D → Res → Prop} {M M' : Value → Res → Prop} (h : EvE K Ek δ R te N M) (n : ∀ d R', N d R' → N' d R') (m : ∀ c R', M c R' → M' c R') : EvE K Ek δ R te N' M' := fun G H σ Q ok en k j =>
  h G H σ Q ok en (fun d R' v G' H' q => k d R' v G' H' (n d R' q)) fun c R' G' H' q => j c R' G' H' (m c R' q)
theorem ev_ee (h : EvE K (fun _ _ _ _ => False) δ R te (fun d' R' => d' = d ∧ R' = R) fun _ _ => False) : Ev K δ R te d := fun G H σ Q ok en k => h G H σ Q ok en (fun d' R' v G' H' q ok' le hv => by
  obtain ⟨rfl, rfl⟩ := q
  exact k v G' H' ok' le hv) fun c R' G' H' q => q.elim
/-! ### blocks -/
theorem x_nil (h : P.nx δ R) : XS K Ek δ R tNext P := fun G H σ D ok en c => c.nx δ R σ G H h ok .refl en
theorem x_seq (h : XS K Ek δ R t { P with nx := fun δ' R' => XS K Ek δ' R' u P }) : XS K Ek δ R (tSeq t u) P := fun G H σ D ok en c =>
  h G H σ { D with nx := u D } ok en ⟨fun δ' R' σ' G' H' q ok' le en' => q G' H' σ' D ok' en' (c.mono le), c.rt, c.bk, c.ct, c.xe⟩
theorem XS.post {P' : Post} (h : XS K Ek δ R t P) (n : ∀ δ' R', P.nx δ' R' → P'.nx δ' R') (r : ∀ d R', P.rt d R' → P'.rt d R') (b : ∀ δ' R', P.bk δ' R' → P'.bk δ' R') (c : ∀ δ' R', P.ct δ' R' → P'.ct δ' R') (x : ∀ e δ' R', P.xe e δ' R' → P'.xe e δ' R') : XS K Ek δ R t P' :=
  fun G H σ D ok en k => h G H σ D ok en ⟨fun a b' e f g p => k.nx a b' e f g (n _ _ p), fun a b' e f g p => k.rt a b' e f g (r _ _ p), fun a b' e f g p => k.bk a b' e f g (b _ _ p), fun a b' e f g p => k.ct a b' e f g (c _ _ p), fun a b' e f g h' p => k.xe a b' e f g h' (x _ _ _ p)⟩
theorem x_brk (h : P.bk δ R) : XS K Ek δ R tBreak P := fun G H σ D ok en c => c.bk δ R σ G H h ok .refl en
theorem x_cont (h : P.ct δ R) : XS K Ek δ R tCont P := fun G H σ D ok en c => c.ct δ R σ G H h ok .refl en
/-! ### x = e, the general form, a datum, an own list -/
theorem x_asgE {i : Nat} {N : Fl.D → Res → Prop} {M : Value → Res → Prop} (h : EvE K Ek δ R te N M) (n : ∀ d R', N d R' → P.nx (δ.set i (some d)) R') (m : ∀ c R', M c R' → P.xe c δ R') : XS K Ek δ R (tAsg te (gName i)) P := fun G H σ D ok en c =>
  h G H σ _ ok en (fun d R' v G' H' q ok' le hv => c.nx _ R' _ G' H' (n d R' q) ok' le ((en.mono le.g).set hv)) fun e R' G' H' q ok' le => c.xe e δ R' σ G' H' (m e R' q) ok' le (en.mono le.g)
theorem x_asg {i : Nat} (h : Ev K δ R te d) (n : P.nx (δ.set i (some d)) R) : XS K Ek δ R (tAsg te (gName i)) P := fun G H σ D ok en c =>
  h G H σ _ ok en fun v G' H' ok' le hv => c.nx _ R _ G' H' n ok' le ((en.mono le.g).set hv)
theorem x_asgF {i : Nat} {ds : List PyData} (h : EvF K δ R te ds) (n : ∀ a, P.nx (δ.set i (some (.r a))) ((a, .lst ds) :: R)) : XS K Ek δ R (tAsg te (gName i)) P := fun G H σ D ok en c =>
  h G H σ _ ok en fun a G' H' ok' le => c.nx _ _ _ G' H' (n a) ok' le ((en.mono le.g).set (d := .r a) rfl)
theorem x_asgG {g : TG} {w : PyData} (h : Ev K δ R te (.d w)) (hg : EvG K δ g w δ') (n : P.nx δ' R) : XS K Ek δ R (tAsg te g) P := fun G H σ D ok en c =>
  h G H σ _ ok en fun v G' H' ok' le hv => hg G' H' R σ v _ ok' (en.mono le.g) hv fun σ' en' => c.nx _ R _ G' H' n ok' le en'
/-! ### return, drop -/
theorem x_ret (h : Ev K δ R te d) (n : P.rt d R) : XS K Ek δ R (tRet te) P := fun G H σ D ok en c => h G H σ _ ok en fun v G' H' ok' le hv => c.rt d R v G' H' n ok' le hv
theorem x_retE {N : Fl.D → Res → Prop} {M : Value → Res → Prop} (h : EvE K Ek δ R te N M) (n : ∀ d R', N d R' → P.rt d R') (m : ∀ c R', M c R' → P.xe c δ R') : XS K Ek δ R (tRet te) P := fun G H σ D ok en c =>
  h G H σ _ ok en (fun d R' v G' H' q ok' le hv => c.rt d R' v G' H' (n d R' q) ok' le hv) fun e R' G' H' q ok' le => c.xe e δ R' σ G' H' (m e R' q) ok' le (en.mono le.g)
theorem x_retF {ds : List PyData} (h : EvF K δ R te ds) (n : ∀ a, P.rt (.r a) ((a, .lst ds) :: R)) : XS K Ek δ R (tRet te) P := fun G H σ D ok en c => h G H σ _ ok en fun a G' H' ok' le => c.rt _ _ _ G' H' (n a) ok' le rfl
theorem x_retN (n : P.rt (.d .none) R) : XS K Ek δ R tRetN P := fun G H σ D ok en c => c.rt _ R _ G H n ok .refl (show Hv G .non .none from .non)
theorem x_drop (h : Ev K δ R te d) (n : P.nx δ R) : XS K Ek δ R (tDrop te) P := fun G H σ D ok en c => h G H σ _ ok en fun v G' H' ok' le hv => c.nx δ R σ G' H' n ok' le (en.mono le.g)
theorem x_dropE {N : Fl.D → Res → Prop} {M : Value → Res → Prop} (h : EvE K Ek δ R te N M) (n : ∀ d R', N d R' → P.nx δ R') (m : ∀ c R', M c R' → P.xe c δ R') : XS K Ek δ R (tDrop te) P := fun G H σ D ok en c =>
  h G H σ _ ok en (fun d R' v G' H' q ok' le hv => c.nx δ R' σ G' H' (n d R' q) ok' le (en.mono le.g)) fun e R' G' H' q ok' le => c.xe e δ R' σ G' H' (m e R' q) ok' le (en.mono le.g)
/-! ### if -/
theorem x_if {b : Bool} (h : EvT K δ R tt b) (h1 : b = true → XS K Ek δ R t P) (h2 : b = false → XS K Ek δ R u P) : XS K Ek δ R (tIfS tt t u) P := fun G H σ D ok en c => h G H σ _ ok en fun G' H' ok' le => by
  cases b with
  | true =>
    rw [if_pos rfl]
    exact h1 rfl G' H' σ D ok' (en.mono le.g) (c.mono le)
  | false =>
    rw [if_neg Bool.false_ne_true]
    exact h2 rfl G' H' σ D ok' (en.mono le.g) (c.mono le)
/-! ### for, while -/
/-- I: the turn, the slots, what is owned -/
theorem x_for {wi : TI} {g : TG} {us : List PyData} (I : Nat → DEnv → Res → Prop) (h : EvI K δ R wi us) (h0 : I 0 δ R)
    (hs : ∀ (i : Nat) (w : PyData) δ' R', us[i]? = some w → I i δ' R' → ∃ δ2, EvG K δ' g w δ2 ∧ XS K Ek δ2 R' t { P with nx := I (i + 1), ct := I (i + 1), bk := P.nx })
    (hd : ∀ δ' R', I us.length δ' R' → P.nx δ' R') : XS K Ek δ R (tFor wi g t) P := fun G H σ D ok en c => h G H σ _ ok en fun J G1 H1 ok1 l1 hlen it => by
  refine ⟨fun i m σ2 H2 => m = us.length - i ∧ i ≤ us.length ∧ ∃ δ2 R2 G2, I i δ2 R2 ∧ Ok K G2 H2 R2 ∧ Le G H R G2 H2 R2 ∧ Gx G1 G2 ∧ DE K G2 σ2 δ2, ⟨us.length, by simp, Nat.zero_le _, δ, R, G1, h0, ok1, l1, Gx.refl _, en.mono l1.g⟩, ?_⟩
  rintro i m σ2 H2 ⟨rfl, hle, δ2, R2, G2, hI, ok2, l2, gx, en2⟩
  obtain ⟨st, go⟩ := it G2 H2 gx ok2.ex
  by_cases hlt : i < us.length
  · obtain ⟨w, hw⟩ : ∃ w, us[i]? = some w := ⟨us[i], List.getElem?_eq_getElem hlt⟩
    obtain ⟨hg, hy⟩ := go i w hw
    refine .inr ⟨hg, fun σ' H' => ∃ δ3 R3 G3, I (i + 1) δ3 R3 ∧ Ok K G3 H' R3 ∧ Le G H R G3 H' R3 ∧ Gx G1 G3 ∧ DE K G3 σ' δ3, fun σ' H' p => ⟨us.length - (i + 1), by omega, rfl, hlt, p⟩, fun v H3 q => ?_⟩
    obtain ⟨G3, ok3, l3, hv⟩ := (hy v H3 q).ok ok2
    obtain ⟨δ4, eg, xs⟩ := hs i w δ2 R2 hw hI
    refine eg G3 H3 R2 σ2 v _ ok3 (en2.mono l3.g) hv fun σ4 en4 => ?_
    have c3 := c.mono (l2.trans l3)
    exact xs G3 H3 σ4 _ ok3 en4 ⟨fun a b e f g' p q' l w' => ⟨a, b, f, p, q', (l2.trans l3).trans l, (gx.trans l3.g).trans l.g, w'⟩, c3.rt, fun a b e f g' p q' l w' => c3.nx a b e f g' p q' l w', fun a b e f g' p q' l w' => ⟨a, b, f, p, q', (l2.trans l3).trans l, (gx.trans l3.g).trans l.g, w'⟩, c3.xe⟩
  · have e : i = us.length := by omega
    subst e
    exact .inl ⟨st _ (Nat.le_refl _), c.nx δ2 R2 σ2 G2 H2 (hd δ2 R2 hI) ok2 l2 en2⟩
/-- I: a measure that falls, the slots, what is owned -/
theorem x_while (I : Nat → DEnv → Res → Prop) (m : Nat) (h0 : I m δ R)
    (hs : ∀ m δ' R', I m δ' R' → ∃ b, EvT K δ' R' tt b ∧ (b = true → XS K Ek δ' R' t { P with nx := fun δ2 R2 => ∃ m', m' < m ∧ I m' δ2 R2, ct := fun δ2 R2 => ∃ m', m' < m ∧ I m' δ2 R2, bk := P.nx }) ∧ (b = false → P.nx δ' R')) : XS K Ek δ R (tWhile tt t) P := fun G H σ D ok en c => by
  refine ⟨fun m σ2 H2 => ∃ δ2 R2 G2, I m δ2 R2 ∧ Ok K G2 H2 R2 ∧ Le G H R G2 H2 R2 ∧ DE K G2 σ2 δ2, ⟨m, δ, R, G, h0, ok, .refl, en⟩, ?_⟩
  rintro m σ2 H2 ⟨δ2, R2, G2, hI, ok2, l2, en2⟩
  obtain ⟨b, ht, h1, h2⟩ := hs m δ2 R2 hI
  refine ht G2 H2 σ2 _ ok2 en2 fun G3 H3 ok3 l3 => ?_
  have c3 := c.mono (l2.trans l3)
  cases b with
  | true =>
    rw [if_pos rfl]
    refine ⟨fun σ' H' => ∃ m', m' < m ∧ ∃ δ2 R2 G2, I m' δ2 R2 ∧ Ok K G2 H' R2 ∧ Le G H R G2 H' R2 ∧ DE K G2 σ' δ2, fun σ' H' p => p, h1 rfl G3 H3 σ2 _ ok3 (en2.mono l3.g) ⟨fun a b e f g' p q' l w' => ?_, c3.rt, c3.nx, fun a b e f g' p q' l w' => ?_, c3.xe⟩⟩
    · obtain ⟨m', hm, p⟩ := p
      exact ⟨m', hm, a, b, f, p, q', (l2.trans l3).trans l, w'⟩
    · obtain ⟨m', hm, p⟩ := p
      exact ⟨m', hm, a, b, f, p, q', (l2.trans l3).trans l, w'⟩
  | false =>
    rw [if_neg Bool.false_ne_true]
    exact c.nx δ2 R2 σ2 G3 H3 (h2 rfl) ok3 (l2.trans l3) (en2.mono l3.g)
/-! ### owned objects change -/
/-- xs.append(e) -/
theorem x_app {i : Nat} {a : Addr} {ds : List PyData} {w : PyData} (h1 : Ev K δ R ta (.r a)) (hi : R[i]? = some (a, .lst ds)) (h : Ev K δ R te (.d w)) (hz : ds.length < 50000) (n : P.nx δ (R.set i (a, .lst (ds ++ [w])))) :
    XS K Ek δ R (tDrop (tBM K "list" rAppend ta (tCons te tNil))) P := fun G H σ D ok en c => h1 G H σ _ ok en fun v G1 H1 ok1 l1 q1 => by
  cases (show v = .ref a from q1)
  obtain ⟨ws, e1, _, _⟩ := ok1.at hi
  refine ⟨.inl ⟨rfl, ws, SqL.of e1⟩, h G1 H1 σ _ ok1 (en.mono l1.g) fun u G2 H2 ok2 l2 q2 => ?_⟩
  obtain ⟨vs, e2, e3, e4⟩ := ok2.at hi
  have el := e4.len
  refine ⟨a, vs, u, rfl, rfl, e2, lim_lt e3, ?_⟩
  obtain ⟨ok3, l3⟩ := ok2.write (o := .lst (vs ++ [u])) (q := .lst (ds ++ [w])) hi ⟨_, upd_same, by rw [List.length_append]; show vs.length + 1 ≤ 50000; omega, e4.app (.cons q2 .nil)⟩
  exact c.nx δ _ σ _ _ n ok3 ((l1.trans l2).trans l3) (((en.mono l1.g).mono l2.g).mono l3.g)
/-- xs.extend(ys) -/
theorem x_ext {i : Nat} {a : Addr} {ds es : List PyData} (h1 : Ev K δ R ta (.r a)) (hi : R[i]? = some (a, .lst ds)) (h : Ev K δ R te (.d (.list es))) (hz : ds.length + es.length ≤ 50000) (n : P.nx δ (R.set i (a, .lst (ds ++ es)))) :
    XS K Ek δ R (tDrop (tBM K "list" rExtend ta (tCons te tNil))) P := fun G H σ D ok en c => h1 G H σ _ ok en fun v G1 H1 ok1 l1 q1 => by
  cases (show v = .ref a from q1)
  obtain ⟨ws, e1, _, _⟩ := ok1.at hi
  refine ⟨.inl ⟨rfl, ws, SqL.of e1⟩, h G1 H1 σ _ ok1 (en.mono l1.g) fun u G2 H2 ok2 l2 q2 => ?_⟩
  obtain ⟨vs, e2, e3, e4⟩ := ok2.at hi
  have el := e4.len
  cases (show Hv G2 u (.list es) from q2) with
  | @lst b us _ f1 f2 f3 =>
    have fl := f3.len
    refine ⟨a, b, vs, us, rfl, rfl, e2, ok2.ex _ _ f1, lim_le (by omega), ?_⟩
    obtain ⟨ok3, l3⟩ := ok2.write (o := .lst (vs ++ us)) (q := .lst (ds ++ es)) hi ⟨_, upd_same, by rw [List.length_append]; omega, e4.app f3⟩
    exact c.nx δ _ σ _ _ n ok3 ((l1.trans l2).trans l3) (((en.mono l1.g).mono l2.g).mono l3.g)
/-- xs[i] = e -/
theorem x_setL {i j : Nat} {a : Addr} {ds : List PyData} {w : PyData} {k : Int} (h : Ev K δ R te (.d w)) (h1 : Ev K δ R ta (.r a)) (h2 : Ev K δ R tb (.d (.int k))) (hi : R[i]? = some (a, .lst ds)) (hj : ixN ds.length k = some j) (n : P.nx δ (R.set i (a, .lst (ds.set j w)))) :
    XS K Ek δ R (tAsg te (gSub ta tb rSetL)) P := fun G H σ D ok en c => h G H σ _ ok en fun u G1 H1 ok1 l1 q1 => h1 G1 H1 σ _ ok1 (en.mono l1.g) fun v G2 H2 ok2 l2 q2 => h2 G2 H2 σ _ ok2 ((en.mono l1.g).mono l2.g) fun x G3 H3 ok3 l3 q3 => by
  cases (show v = .ref a from q2)
  cases (show Hv G3 x (.int k) from q3)
  obtain ⟨vs, e1, e2, e3⟩ := ok3.at hi
  have el := e3.len
  refine ⟨a, vs, k, j, rfl, rfl, e1, by rw [el]; exact hj, ?_⟩
  obtain ⟨ok4, l4⟩ := ok3.write (o := .lst (vs.set j u)) (q := .lst (ds.set j w)) hi ⟨_, upd_same, by rw [List.length_set]; exact e2, e3.set (Hv.mono (l2.g.trans l3.g) _ q1) j⟩
  exact c.nx δ _ σ _ _ n ok4 (((l1.trans l2).trans l3).trans l4) ((((en.mono l1.g).mono l2.g).mono l3.g).mono l4.g)
/-- xs.clear() -/
theorem x_clear {i : Nat} {a : Addr} {ds : List PyData} (h1 : Ev K δ R ta (.r a)) (hi : R[i]? = some (a, .lst ds)) (n : P.nx δ (R.set i (a, .lst []))) : XS K Ek δ R (tDrop (tBM0 K "list" rClear ta)) P := fun G H σ D ok en c => h1 G H σ _ ok en fun v G1 H1 ok1 l1 q1 => by
  cases (show v = .ref a from q1)
  obtain ⟨ws, e1, _, _⟩ := ok1.at hi
  obtain ⟨ok3, l3⟩ := ok1.write (o := .lst []) (q := .lst []) hi ⟨[], upd_same, Nat.zero_le _, .nil⟩
  exact ⟨.inl ⟨rfl, ws, SqL.of e1⟩, a, ws, rfl, rfl, e1, c.nx δ _ σ _ _ n ok3 (l1.trans l3) ((en.mono l1.g).mono l3.g)⟩
/-- an attribute is stored -/
def putFD (f : Str) (v : Fl.D) : List (Str × Fl.D) → List (Str × Fl.D)
  | [] => [(f, v)]
  | (g, w) :: r => if g = f then (g, v) :: r else (g, w) :: putFD f v r
theorem Fvs.put {f : Str} {v : V} (q : HD K G v d) : ∀ {vs : List (Str × V)} {ds : List (Str × Fl.D)}, Fvs K G vs ds → Fvs K G (putF f v vs) (putFD f d ds)
  | _, _, .nil => .cons q .nil
  | _, _, .cons (k := k) h t => by
    unfold putF putFD
    by_cases e : k = f
    · rw [if_pos e, if_pos e]; exact .cons q t
    · rw [if_neg e, if_neg e]; exact .cons h (Fvs.put q t)
theorem x_fld {i : Nat} {a C : Addr} {fs : List (Str × Fl.D)} {f : Str} (h : Ev K δ R te d) (h1 : Ev K δ R ta (.r a)) (hi : R[i]? = some (a, .ins C fs)) (hl : fs.length < 1000) (n : P.nx δ (R.set i (a, .ins C (putFD f d fs)))) (hc : Cls K C) (hn : NoAttr K C f) :
    XS K Ek δ R (sFld K ta te f) P := fun G H σ D ok en c => h G H σ _ ok en fun u G1 H1 ok1 l1 q1 => h1 G1 H1 σ _ ok1 (en.mono l1.g) fun v G2 H2 ok2 l2 q2 => by
  cases (show v = .ref a from q2)
  obtain ⟨dx, vs, e, fv⟩ := ok2.at hi
  obtain ⟨ok4, l4⟩ := ok2.write (o := .ins C dx (putF f u vs)) (q := .ins C (putFD f d fs)) hi ⟨dx, _, upd_same, fv.put (q1.mono l2.g)⟩
  exact ⟨a, C, dx, vs, rfl, e, hc, hn, by rw [fv.len]; exact hl, c.nx δ _ σ _ _ n ok4 ((l1.trans l2).trans l4) (((en.mono l1.g).mono l2.g).mono l4.g)⟩
/-- an attribute is a new own list -/
theorem x_fldF {i : Nat} {a C : Addr} {fs : List (Str × Fl.D)} {f : Str} {ds : List PyData} (h : EvF K δ R te ds) (h1 : ∀ R', Ev K δ R' ta (.r a)) (hi : R[i]? = some (a, .ins C fs)) (hl : fs.length < 1000) (n : ∀ b, P.nx δ ((b, .lst ds) :: R.set i (a, .ins C (putFD f (.r b) fs)))) (hc : Cls K C) (hn : NoAttr K C f) :
    XS K Ek δ R (sFld K ta te f) P := fun G H σ D ok en c => h G H σ _ ok en fun b G1 H1 ok1 l1 => h1 _ G1 H1 σ _ ok1 (en.mono l1.g) fun v G2 H2 ok2 l2 q2 => by
  cases (show v = .ref a from q2)
  have hi' : ((b, RO.lst ds) :: R)[i + 1]? = some (a, .ins C fs) := by simpa using hi
  obtain ⟨dx, vs, e, fv⟩ := ok2.at hi'
  obtain ⟨ok4, l4⟩ := ok2.write (o := .ins C dx (putF f (.ref b) vs)) (q := .ins C (putFD f (.r b) fs)) hi' ⟨dx, _, upd_same, fv.put (d := .r b) rfl⟩
  exact ⟨a, C, dx, vs, rfl, e, hc, hn, by rw [fv.len]; exact hl, c.nx δ _ σ _ _ (n b) ok4 ((l1.trans l2).trans l4) (((en.mono l1.g).mono l2.g).mono l4.g)⟩
/-- an attribute is a new empty dict -/
theorem x_fldD {i : Nat} {a C : Addr} {fs : List (Str × Fl.D)} {f : Str} (h1 : ∀ R', Ev K δ R' ta (.r a)) (hi : R[i]? = some (a, .ins C fs)) (hl : fs.length < 1000) (n : ∀ b, P.nx δ ((b, .dic []) :: R.set i (a, .ins C (putFD f (.r b) fs)))) (hc : Cls K C) (hn : NoAttr K C f) :
    XS K Ek δ R (sFld K ta tDNewK f) P := fun G H σ D ok en c b hb => by
  obtain ⟨ok1, l1⟩ := ok.laid (o := .dK []) (q := .dic []) hb ⟨[], upd_same, Nat.zero_le _, .nil⟩
  refine h1 _ G _ σ _ ok1 (en.mono l1.g) fun v G2 H2 ok2 l2 q2 => ?_
  cases (show v = .ref a from q2)
  have hi' : ((b, RO.dic []) :: R)[i + 1]? = some (a, .ins C fs) := by simpa using hi
  obtain ⟨dx, vs, e, fv⟩ := ok2.at hi'
  obtain ⟨ok4, l4⟩ := ok2.write (o := .ins C dx (putF f (.ref b) vs)) (q := .ins C (putFD f (.r b) fs)) hi' ⟨dx, _, upd_same, fv.put (d := .r b) rfl⟩
  exact ⟨a, C, dx, vs, rfl, e, hc, hn, by rw [fv.len]; exact hl, c.nx δ _ σ _ _ (n b) ok4 ((l1.trans l2).trans l4) (((en.mono l1.g).mono l2.g).mono l4.g)⟩
/-- d[k] = v -/
def putD {κ : Type} [DecidableEq κ] (kvs : List (κ × Fl.D)) (k : κ) (v : Fl.D) : List (κ × Fl.D) := if (kvs.any fun kv => decide (kv.1 = k)) = true then kvs.map (fun kv => if kv.1 = k then (kv.1, v) else kv) else kvs ++ [(k, v)]
def dropD {κ : Type} [DecidableEq κ] (kvs : List (κ × Fl.D)) (k : κ) : List (κ × Fl.D) := kvs.filter fun kv => decide (kv.1 ≠ k)
theorem Fvs.app1 {κ : Type} {k : κ} {v : V} (q : HD K G v d) : ∀ {vs : List (κ × V)} {ds : List (κ × Fl.D)}, Fvs K G vs ds → Fvs K G (vs ++ [(k, v)]) (ds ++ [(k, d)])
  | _, _, .nil => .cons q .nil
  | _, _, .cons h t => .cons h (Fvs.app1 q t)
theorem Fvs.mapPut {κ : Type} [DecidableEq κ] {k : κ} {v : V} (q : HD K G v d) : ∀ {vs : List (κ × V)} {ds : List (κ × Fl.D)}, Fvs K G vs ds → Fvs K G (vs.map fun kv => if kv.1 = k then (kv.1, v) else kv) (ds.map fun kv => if kv.1 = k then (kv.1, d) else kv)
  | _, _, .nil => .nil
  | _, _, .cons (k := j) h t => by
    simp only [List.map_cons]
    by_cases e : j = k
    · rw [if_pos e, if_pos e]; exact .cons q (Fvs.mapPut q t)
    · rw [if_neg e, if_neg e]; exact .cons h (Fvs.mapPut q t)
theorem Fvs.anyKey {κ : Type} [DecidableEq κ] {k : κ} : ∀ {vs : List (κ × V)} {ds : List (κ × Fl.D)}, Fvs K G vs ds → (vs.any fun kv => decide (kv.1 = k)) = (ds.any fun kv => decide (kv.1 = k))
  | _, _, .nil => rfl
  | _, _, .cons h t => by
    rw [List.any_cons, List.any_cons, Fvs.anyKey t]
theorem Fvs.putK {κ : Type} [DecidableEq κ] {k : κ} {v : V} {vs : List (κ × V)} {ds : List (κ × Fl.D)} (h : Fvs K G vs ds) (q : HD K G v d) : Fvs K G (L2.putK vs k v) (putD ds k d) := by
  unfold L2.putK putD
  rw [h.anyKey]
  by_cases e : (ds.any fun kv => decide (kv.1 = k)) = true
  · rw [if_pos e, if_pos e]; exact h.mapPut q
  · rw [if_neg e, if_neg e]; exact h.app1 q
theorem Fvs.dropK {κ : Type} [DecidableEq κ] {k : κ} : ∀ {vs : List (κ × V)} {ds : List (κ × Fl.D)}, Fvs K G vs ds → Fvs K G (L2.dropK vs k) (dropD ds k)
  | _, _, .nil => .nil
  | _, _, .cons (k := j) (v := v) (d := e) (vs := vs) (ds := ds) h t => by
    by_cases q : j = k
    · have e1 : L2.dropK ((j, v) :: vs) k = L2.dropK vs k := dropK_pos q
      have e2 : dropD ((j, e) :: ds) k = dropD ds k := by unfold dropD; rw [List.filter_cons, if_neg (by simp [q])]
      rw [e1, e2]; exact Fvs.dropK t
    · have e1 : L2.dropK ((j, v) :: vs) k = (j, v) :: L2.dropK vs k := dropK_neg q
      have e2 : dropD ((j, e) :: ds) k = (j, e) :: dropD ds k := by unfold dropD; rw [List.filter_cons, if_pos (by simp [q])]
      rw [e1, e2]; exact .cons h (Fvs.dropK t)
theorem putK_len {κ : Type} [DecidableEq κ] (c : List (κ × V)) (k : κ) (x : V) : (L2.putK c k x).length ≤ c.length + 1 := by
  unfold L2.putK
  split
  · rw [List.length_map]; omega
  · rw [List.length_append]; simp
theorem x_dput {i : Nat} {a : Addr} {kvs : List (Key × Fl.D)} {k : Key} (h : Ev K δ R te d) (h1 : Ev K δ R ta (.r a)) (h2 : Ev K δ R tb (.d (keyD k))) (hi : R[i]? = some (a, .dic kvs)) (hz : kvs.length < 50000) (n : P.nx δ (R.set i (a, .dic (putD kvs k d)))) :
    XS K Ek δ R (sDPut ta tb te) P := fun G H σ D ok en c => h G H σ _ ok en fun u G1 H1 ok1 l1 q1 => h1 G1 H1 σ _ ok1 (en.mono l1.g) fun v G2 H2 ok2 l2 q2 => h2 G2 H2 σ _ ok2 ((en.mono l1.g).mono l2.g) fun x G3 H3 ok3 l3 q3 => by
  cases (show v = .ref a from q2)
  have ex := Hv.key (show Hv G3 x (keyD k) from q3)
  subst ex
  obtain ⟨vs, e1, e2, fv⟩ := ok3.at hi
  have fl := fv.len
  have pl := putK_len vs k u
  obtain ⟨ok4, l4⟩ := ok3.write (o := .dK (L2.putK vs k u)) (q := .dic (putD kvs k d)) hi ⟨_, upd_same, by omega, fv.putK (q1.mono (l2.g.trans l3.g))⟩
  exact ⟨a, _, rfl, DPut.k e1 (lim_lt e2), c.nx δ _ σ _ _ n ok4 (((l1.trans l2).trans l3).trans l4) ((((en.mono l1.g).mono l2.g).mono l3.g).mono l4.g)⟩
/-- d.pop(k), dropped -/
theorem x_dpop {i : Nat} {a : Addr} {kvs : List (Key × Fl.D)} {k : Key} (h1 : Ev K δ R ta (.r a)) (h2 : Ev K δ R tb (.d (keyD k))) (hi : R[i]? = some (a, .dic kvs)) (hl : valD kvs k = some d) (n : P.nx δ (R.set i (a, .dic (dropD kvs k)))) :
    XS K Ek δ R (tDrop (tDPop1 ta tb)) P := fun G H σ D ok en c => h1 G H σ _ ok en fun v G1 H1 ok1 l1 q1 => by
  cases (show v = .ref a from q1)
  obtain ⟨ws, f1, f2, f3⟩ := ok1.at hi
  refine ⟨a, rfl, .inl ⟨ws, .inl f1⟩, h2 G1 H1 σ _ ok1 (en.mono l1.g) fun x G2 H2 ok2 l2 q2 => ?_⟩
  have ex := Hv.key (show Hv G2 x (keyD k) from q2)
  subst ex
  obtain ⟨vs, e1, e2, fv⟩ := ok2.at hi
  obtain ⟨w, g1, g2⟩ := fv.some hl
  have fl := dropK_le vs k
  obtain ⟨ok4, l4⟩ := ok2.write (o := .dK (L2.dropK vs k)) (q := .dic (dropD kvs k)) hi ⟨_, upd_same, by omega, fv.dropK⟩
  exact ⟨vs, k, w, e1, rfl, g1, c.nx δ _ σ _ _ n ok4 ((l1.trans l2).trans l4) (((en.mono l1.g).mono l2.g).mono l4.g)⟩
end

/-! ### defs: what they promise, and how they are called -/
abbrev Fn := List D → Res → (D → Res → Prop) → (Value → Res → Prop) → Prop
inductive HDs (K : PySem.W.Frag) (G : Hp) : List V → List D → Prop
  | nil : HDs K G [] []
  | cons {v : V} {vs : List V} {d : D} {ds : List D} : HD K G v d → HDs K G vs ds → HDs K G (v :: vs) (d :: ds)
theorem HDs.len {K : PySem.W.Frag} {G : Hp} : ∀ {vs : List V} {ds : List D}, HDs K G vs ds → vs.length = ds.length
  | _, _, .nil => rfl
  | _, _, .cons h t => by simp [HDs.len t]
theorem HDs.get {K : PySem.W.Frag} {G : Hp} : ∀ {vs : List V} {ds : List D} {i : Nat} {d : D}, HDs K G vs ds → ds[i]? = some d → ∃ v, vs[i]? = some v ∧ HD K G v d
  | _, _, i, d, .nil, e => by simp at e
  | _, _, 0, d, .cons h t, e => by simp at e; subst e; exact ⟨_, rfl, h⟩
  | _, _, i + 1, d, .cons h t, e => by
    obtain ⟨v, a, b⟩ := HDs.get (i := i) t (by simpa using e)
    exact ⟨v, by simpa using a, b⟩
theorem hds_of {K : PySem.W.Frag} {G : Hp} : ∀ {vs : List V} {ds : List D}, vs.length = ds.length → (∀ (i : Nat) (v : V) (d : D), vs[i]? = some v → ds[i]? = some d → HD K G v d) → HDs K G vs ds
  | [], [], _, _ => .nil
  | [], d :: ds, h, _ => by simp at h
  | v :: vs, [], h, _ => by simp at h
  | v :: vs, d :: ds, h, q => .cons (q 0 v d rfl rfl) (hds_of (by simpa using h) fun i a b e f => q (i + 1) a b (by simpa using e) (by simpa using f))
def spD (K : PySem.W.Frag) (Φ : Fn) : Sp := fun vs H Q E => ∃ (G : Hp) (ds : List D) (R : Res) (N : D → Res → Prop) (M : Value → Res → Prop), HDs K G vs ds ∧ Ok K G H R ∧ Φ ds R N M ∧
  (∀ d R' v G' H', N d R' → Ok K G' H' R' → Le G H R G' H' R' → HD K G' v d → Q v H') ∧ (∀ c R' G' H', M c R' → Ok K G' H' R' → Le G H R G' H' R' → E c none H')
def startD (N : List Str) (ds : List D) : DEnv := ds.map some ++ List.replicate (N.length - ds.length) none
theorem start_de {K : PySem.W.Frag} {G : Hp} {N : List Str} {vs : List V} {ds : List D} (h : HDs K G vs ds) : DE K G (L2.start N vs) (startD N ds) := by
  have e := h.len
  refine ⟨by simp [L2.start, startD, e], fun i d hi => ?_⟩
  unfold startD at hi
  unfold L2.start
  by_cases z : i < ds.length
  · rw [List.getElem?_append_left (by simpa using z), List.getElem?_map] at hi
    cases q : ds[i]? with
    | none => rw [q] at hi; cases hi
    | some d' =>
      rw [q] at hi
      have hd : d' = d := Option.some.inj (Option.some.inj hi)
      subst hd
      obtain ⟨v, a, b⟩ := h.get q
      exact ⟨v, by rw [List.getElem?_append_left (by simpa [e] using z), List.getElem?_map, a]; rfl, b⟩
  · rw [List.getElem?_append_right (by simpa using z), List.getElem?_replicate] at hi
    split at hi <;> cases hi
/-- what a body reaches -/
def endsOf (N : D → Res → Prop) (M : Value → Res → Prop) : Post := ⟨fun _ R' => N (.d .none) R', N, fun _ _ => False, fun _ _ => False, fun c _ R' => M c R'⟩
theorem fn_sem {K : PySem.W.Frag} {Φ : Fn} {N : List Str} {t : XK → TS} {vs : List V} {H : Hp} {Q : VK} {E : XK} (h : ∀ (E : XK) (ds : List D) (R : Res) (N' : D → Res → Prop) (M' : Value → Res → Prop), Φ ds R N' M' → XS K (fun c d _ H => E c d H) (startD N ds) R (t E) (endsOf N' M'))
    (hs : spD K Φ vs H Q E) : t E { nx := fun _ H' => Q .non H', rt := Q } (L2.start N vs) H := by
  obtain ⟨G, ds, R, N', M', hd, ok, hp, hn, hm⟩ := hs
  exact h E ds R N' M' hp G H _ _ ok (start_de hd) ⟨fun δ' R' σ' G' H' p q l w => hn _ R' _ G' H' p q l (show Hv G' .non .none from .non), hn, fun δ' R' σ' G' H' p => p.elim, fun δ' R' σ' G' H' p => p.elim, fun c δ' R' σ' G' H' p q l w => hm c R' G' H' p q l⟩
theorem sp_len {K : PySem.W.Frag} {Φ : Fn} {n : Nat} {vs : List V} {H : Hp} {Q : VK} {E : XK} (h : ∀ ds R N M, Φ ds R N M → ds.length = n) (hs : spD K Φ vs H Q E) : vs.length = n := by
  obtain ⟨G, ds, R, N', M', hd, ok, hp, _⟩ := hs
  rw [hd.len]
  exact h _ _ _ _ hp
section
variable {K : PySem.W.Frag} {Ek : WX} {G G' H H' : Hp} {R R1 A B : Res} {δ δ' : DEnv} {ta tb te : TE} {tA : TA} {d x : D} {ds : List D} {Φ : Fn} {E : XK} {N : D → Res → Prop} {M : Value → Res → Prop}
/-- a call: R is A, then what the callee owns, then B -/
theorem ee_call {S : L2.St → XK} (ha : EvA K δ (A ++ R1 ++ B) tA ds) (hp : Φ ds R1 (fun d R' => N d (A ++ R' ++ B)) (fun c R' => M c (A ++ R' ++ B))) (hE : ∀ c R' σ H', M c R' → Ek c none σ H' → S σ c none H') : EvE K Ek δ (A ++ R1 ++ B) (tCallS (spD K Φ) S tA) N M := fun G H σ Q ok en k j =>
  ha G H σ _ ok en fun vs G1 H1 ok1 l1 ⟨q1, q2⟩ => ⟨G1, ds, R1, _, _, hds_of q1 q2, ok1.part, hp, fun d R' v G' H' n ok' le hv => by
    obtain ⟨ok2, l2⟩ := ok1.whole ok' le
    exact k d _ v G' H' n ok2 (l1.trans l2) hv, fun c R' G' H' m ok' le => by
    obtain ⟨ok2, l2⟩ := ok1.whole ok' le
    exact hE c _ σ H' m (j c _ G' H' m ok2 (l1.trans l2))⟩
theorem ee_callE (h : EvE K Ek δ R (tCallS (spD K Φ) (fun _ => E) tA) N M) : EvE K Ek δ R (tCall (spD K Φ) [] E tA) N M := fun G H σ Q ok en k j => by
  have q := h G H σ Q ok en k j
  show tA σ H fun vs H1 => spD K Φ (vs ++ []) H1 Q E
  have e : (fun (vs : List V) H1 => spD K Φ (vs ++ []) H1 Q E) = fun vs H1 => spD K Φ vs H1 Q E := by funext vs H1; rw [List.append_nil]
  rw [e]
  exact q
/-- a method -/
def tMethS' (C : Addr) (m : Str) (sp : Sp) (E : L2.St → XK) (ta : TE) (t : TA) : TE := fun σ H Q => ta σ H fun x H1 => ∃ a dx fs, x = .ref a ∧ H1 a = some (.ins C dx fs) ∧ fs.lookup m = none ∧ t σ H1 fun vs H2 => sp (x :: vs) H2 Q (E σ)
theorem ee_meth {S : L2.St → XK} {C p : Addr} {m : Str} {i : Nat} {fs : List (Str × D)} (h1 : Ev K δ (A ++ R1 ++ B) ta (.r p)) (hi : (A ++ R1 ++ B)[i]? = some (p, .ins C fs)) (hl : fs.lookup m = none) (ha : EvA K δ (A ++ R1 ++ B) tA ds)
    (hp : Φ (.r p :: ds) R1 (fun d R' => N d (A ++ R' ++ B)) (fun c R' => M c (A ++ R' ++ B))) (hE : ∀ c R' σ H', M c R' → Ek c none σ H' → S σ c none H') : EvE K Ek δ (A ++ R1 ++ B) (tMethS' C m (spD K Φ) S ta tA) N M := fun G H σ Q ok en k j =>
  h1 G H σ _ ok en fun v G0 H0 ok0 l0 q0 => by
    cases (show v = .ref p from q0)
    obtain ⟨dx, vs0, e0, fv⟩ := ok0.at hi
    refine ⟨p, dx, vs0, rfl, e0, fv.lookN hl, ha G0 H0 σ _ ok0 (en.mono l0.g) fun vs G1 H1 ok1 l1 ⟨q1, q2⟩ => ⟨G1, .r p :: ds, R1, _, _, .cons rfl (hds_of q1 q2), ok1.part, hp, fun d R' v G' H' n ok' le hv => ?_, fun c R' G' H' m ok' le => ?_⟩⟩
    · obtain ⟨ok2, l2⟩ := ok1.whole ok' le
      exact k d _ v G' H' n ok2 ((l0.trans l1).trans l2) hv
    · obtain ⟨ok2, l2⟩ := ok1.whole ok' le
      exact hE c _ σ H' m (j c _ G' H' m ok2 ((l0.trans l1).trans l2))
theorem ee_methE {C : Addr} {m : Str} (h : EvE K Ek δ R (tMethS' C m (spD K Φ) (fun _ => E) ta tA) N M) : EvE K Ek δ R (tMeth C m (spD K Φ) [] E ta tA) N M := fun G H σ Q ok en k j => by
  have q := h G H σ Q ok en k j
  have e : tMeth C m (spD K Φ) [] E ta tA = tMethS' C m (spD K Φ) (fun _ => E) ta tA := by
    funext σ H Q
    unfold tMeth tMethS'
    simp only [List.append_nil]
  rw [e]
  exact q
/-- C(..): __init__'s promise at the new instance -/
def tMakeS (C : Addr) (sp : Sp) (S : L2.St → XK) (t : TA) : TE := fun σ H Q => t σ H fun vs H1 => ∀ x dx, H1 x = none → H1 dx = none → dx ≠ x → sp (.ref x :: vs) (upd (upd H1 dx (.own x)) x (.ins C dx [])) (fun v H2 => v = .non ∧ Q (.ref x) H2) (S σ)
theorem ee_make {S : L2.St → XK} {C : Addr} (ha : EvA K δ R tA ds) (hp : ∀ x, Φ (.r x :: ds) [(x, .ins C [])] (fun d R' => d = .d .none ∧ N (.r x) (R' ++ R)) (fun c _ => M c R)) (hE : ∀ c R' σ H', M c R' → Ek c none σ H' → S σ c none H') : EvE K Ek δ R (tMakeS C (spD K Φ) S tA) N M := fun G H σ Q ok en k j =>
  ha G H σ _ ok en fun vs G1 H1 ok1 l1 ⟨q1, q2⟩ => fun x dx nx ndx ne => by
    obtain ⟨ok2, l2⟩ := ok1.aside (p := dx) (o := .own x) ndx
    have nx2 : upd H1 dx (.own x) x = none := by rw [upd_ne ne.symm]; exact nx
    obtain ⟨ok3, l3⟩ := ok2.laid (p := x) (o := .ins C dx []) (q := .ins C []) nx2 ⟨dx, [], upd_same, .nil⟩
    have ok3' : Ok K G1 (upd (upd H1 dx (.own x)) x (.ins C dx [])) ([] ++ [(x, RO.ins C [])] ++ R) := ok3
    have l3' : Le G1 (upd H1 dx (.own x)) R G1 (upd (upd H1 dx (.own x)) x (.ins C dx [])) ([] ++ [(x, RO.ins C [])] ++ R) := l3
    refine ⟨G1, .r x :: ds, [(x, .ins C [])], _, _, .cons rfl (hds_of q1 q2), ok3'.part, hp x, fun d R' v G' H' n ok' le hv => ?_, fun c R' G' H' m ok' le => ?_⟩
    · obtain ⟨ok4, l4⟩ := ok3'.whole ok' le
      obtain ⟨rfl, n⟩ := n
      cases (show Hv G' v .none from hv)
      exact ⟨rfl, k (.r x) (R' ++ R) (.ref x) G' H' n ok4 (((l1.trans l2).trans l3').trans l4) rfl⟩
    · obtain ⟨ok4, l4⟩ := ok3'.whole ok' le
      have ok5 : Ok K G' H' R := Ok.part (A := R') (B := []) (by simpa using ok4)
      have l5 : Le G H R G' H' R := by
        have q := ((l1.trans l2).trans l3').trans l4
        exact ⟨q.g, q.h, q.n, fun a m => .inl m, q.dm⟩
      exact hE c R σ H' m (j c R G' H' m ok5 l5)
end
end Fl
/-! More rules: operators one by one, counts, calls by form, raise, try. -/
namespace Fl
open PySem PySem.Spec PyProof.Rows L2
section
variable {K : PySem.W.Frag} {Ek : WX} {G G' H H' : Hp} {R R1 A B : Res} {δ δ' : DEnv} {ta tb tc te tl : TE} {d x y z : D} {r : R2} {t u : TS} {P : Post} {tt : TT}
theorem rv_minus {i j : Int} : RV K R rMinus (.d (.int i)) (.d (.int j)) (.d (.int (i - j))) := rv_I0 fun _ => .int _
theorem rv_lt {i j : Int} : RV K R rLt (.d (.int i)) (.d (.int j)) (.d (.bool (decide (i < j)))) := rv_I0 fun _ => .bl _
theorem rv_le {i j : Int} : RV K R rLe (.d (.int i)) (.d (.int j)) (.d (.bool (decide (i ≤ j)))) := rv_I0 fun _ => .bl _
theorem rv_gt {i j : Int} : RV K R rGt (.d (.int i)) (.d (.int j)) (.d (.bool (decide (j < i)))) := rv_I0 fun _ => .bl _
theorem rv_ge {i j : Int} : RV K R rGe (.d (.int i)) (.d (.int j)) (.d (.bool (decide (j ≤ i)))) := rv_I0 fun _ => .bl _
theorem rv_div {i j : Int} (h : CDiv i j) : RV K R rDiv (.d (.int i)) (.d (.int j)) (.d (.int (i / j))) := rv_I h fun _ => .int _
theorem rv_mod {i j : Int} (h : 0 < j) : RV K R rMod (.d (.int i)) (.d (.int j)) (.d (.int (i % j))) := rv_I h fun _ => .int _
theorem rv_pow {i j : Int} (h : CPow i j) : RV K R rPow (.d (.int i)) (.d (.int j)) (.d (.int (i ^ j.toNat))) := rv_I h fun _ => .int _
theorem rv_times {i j : Int} (h : CMul i j) : RV K R rTimes (.d (.int i)) (.d (.int j)) (.d (.int (i * j))) := rv_I h fun _ => .int _
def rNeg : V → Hp → VK → Prop := rU fun i => .int (-i)
theorem un_neg' {X : Cx} : UnR X (unaryOp .USub) rNeg := un_neg
theorem ev_neg {i : Int} (h : Ev K δ R te (.d (.int i))) : Ev K δ R (tUn rNeg te) (.d (.int (-i))) := fun G H σ Q ok en k => h G H σ _ ok en fun v G1 H1 ok1 l1 q1 => by
  cases (show Hv G1 v (.int i) from q1)
  exact ⟨i, rfl, k _ G1 H1 ok1 l1 (show Hv G1 _ _ from .int _)⟩
/-! ### counts -/
def rCnt (K : PySem.W.Frag) : V → List V → Hp → VK → Prop := fun x vs H Q => ∃ (p : Addr) (ys : List V) (es : List PyData) (y : V) (d : PyData), x = .ref p ∧ vs = [y] ∧ SqL K H p ys ∧ DpAll K H ys es ∧ Dp K H y d ∧ PyData.plainAll es = true ∧ d.plain = true ∧ min (PyData.depthAll es) d.depth ≤ 60 ∧ Q (.int (es.countP fun e => PyData.eqv e d : Nat)) H
theorem mt_cnt {X : Cx} (hu : X.A.units + 64 < cLine) : MtR X "list.count" (rCnt X.K) := by
  intro pins s σ H x xs v us Q I rx rxs h
  obtain ⟨p, ys, es, y, d, rfl, rfl, hs, ha, hd, pe, pd, hm, q⟩ := h
  cases rx
  obtain ⟨w, rfl, ru⟩ := rxs.one
  obtain ⟨its, rv, pl, hlen⟩ := I.list hs
  obtain ⟨as, r1⟩ := Dp.readsAll I es ys its ha rv
  obtain ⟨bs, r2⟩ := Dp.reads I d y w hd ru
  exact SeqAt.count_list_data pl.isList (by simpa using r1) r2 pe pd (by omega) ⟨.int _, H, I.tok _, ⟨_, rfl⟩, q⟩
theorem ev_cnt {es : List PyData} {w : PyData} (h1 : Ev K δ R ta d) (hl : Ls R d es) (h2 : Ev K δ R tb (.d w)) (hm : min (PyData.depthAll es) w.depth ≤ 60) : Ev K δ R (tBM K "list" (rCnt K) ta (tCons tb tNil)) (.d (.int (es.countP fun e => PyData.eqv e w : Nat))) := fun G H σ Q ok en k =>
  h1 G H σ _ ok en fun v G1 H1 ok1 l1 q1 => by
    obtain ⟨a, vs, rfl, ea, la, hv⟩ := hl.hv ok1 q1
    refine ⟨.inl ⟨rfl, vs, SqL.of ea⟩, h2 G1 H1 σ _ ok1 (en.mono l1.g) fun u G2 H2 ok2 l2 q2 => ?_⟩
    obtain ⟨a', vs', e', ea', la', hv'⟩ := hl.hv ok2 (q1.mono l2.g)
    cases e'
    have m := Hvs.mono ok2.ex _ hv'
    exact ⟨a, vs', es, u, w, rfl, rfl, SqL.of ea', Hvs.dp _ m, Hv.dp _ (Hv.mono ok2.ex _ q2), Hvs.plain _ m, Hv.plain _ q2, hm, k _ G2 H2 ok2 (l1.trans l2) (show Hv G2 _ _ from .int _)⟩
/-! ### join -/
def rJoin (K : PySem.W.Frag) : V → List V → Hp → VK → Prop := fun x xs H Q => ∃ a p, ∃ ys : List Str, x = .str a ∧ xs = [.ref p] ∧ (SqL K H p (ys.map V.str) ∨ SqT K H p (ys.map V.str)) ∧ (ys.map (·.length)).sum + ys.length * a.length ≤ 16777216 ∧ Q (.str (Txt.join a ys)) H
theorem ev_join {ys : List Str} {a : Str} (h1 : Ev K δ R ta (.d (.str a))) (h2 : Ev K δ R tb d) (hl : Ls R d (ys.map .str)) (hz : (ys.map (·.length)).sum + ys.length * a.length ≤ 16777216) : Ev K δ R (tM1 (rJoin K) ta tb) (.d (.str (Txt.join a ys))) := fun G H σ Q ok en k =>
  h1 G H σ _ ok en fun v G1 H1 ok1 l1 q1 => by
    cases (show Hv G1 v (.str a) from q1)
    refine ⟨⟨a, rfl⟩, h2 G1 H1 σ _ ok1 (en.mono l1.g) fun u G2 H2 ok2 l2 q2 => ?_⟩
    obtain ⟨p, vs, rfl, ea, la, hv⟩ := hl.hv ok2 q2
    have e := hv.strs
    subst e
    exact ⟨a, p, ys, rfl, rfl, .inl (SqL.of ea), hz, k _ G2 H2 ok2 (l1.trans l2) (show Hv G2 _ _ from .str _)⟩
/-! ### list(range(a, b)) -/
theorem evf_listRg1 {n : Int} (h : Ev K δ R ta (.d (.int n))) (hn : 0 ≤ n ∧ n ≤ 50000) : EvF K δ R (tLstRg (tRg1 ta)) (rngD 0 n.toNat) := fun G H σ Q ok en k => h G H σ _ ok en fun v G1 H1 ok1 l1 q1 => by
  cases (show Hv G1 v (.int n) from q1)
  refine ⟨n, rfl, ⟨by omega, by omega, by omega, by omega, by omega⟩, fun p hp => ?_⟩
  have e1 : rgV 0 n = (List.range n.toNat).map fun i => V.int (0 + (i : Nat)) := by unfold rgV; rw [Int.sub_zero]
  have hv : Hvs G1 (rgV 0 n) (rngD 0 n.toNat) := by
    rw [e1]
    unfold rngD
    generalize List.range n.toNat = l
    induction l with
    | nil => exact .nil
    | cons a l ih => exact .cons (.int _) ih
  obtain ⟨ok', le⟩ := ok1.laid (o := .lst (rgV 0 n)) (q := .lst (rngD 0 n.toNat)) hp ⟨_, upd_same, by rw [hv.len, rngD_len]; omega, hv⟩
  exact k p _ _ ok' (l1.trans le)
theorem evf_listRg2 {a n : Int} (h1 : Ev K δ R ta (.d (.int a))) (h2 : Ev K δ R tb (.d (.int n))) (hn : -50000 ≤ a ∧ a ≤ n + 1 ∧ n ≤ 50000 ∧ n - a ≤ 50000) : EvF K δ R (tLstRg (tRg2 ta tb)) (rngD a (n - a).toNat) := fun G H σ Q ok en k =>
  h1 G H σ _ ok en fun v G1 H1 ok1 l1 q1 => h2 G1 H1 σ _ ok1 (en.mono l1.g) fun w G2 H2 ok2 l2 q2 => by
    cases (show Hv G1 v (.int a) from q1)
    cases (show Hv G2 w (.int n) from q2)
    refine ⟨a, n, rfl, rfl, ⟨by omega, by omega, by omega, by omega, by omega⟩, fun p hp => ?_⟩
    have hv : Hvs G2 (rgV a n) (rngD a (n - a).toNat) := by
      unfold rgV rngD
      generalize List.range (n - a).toNat = l
      induction l with
      | nil => exact .nil
      | cons b l ih => exact .cons (.int _) ih
    obtain ⟨ok', le⟩ := ok2.laid (o := .lst (rgV a n)) (q := .lst (rngD a (n - a).toNat)) hp ⟨_, upd_same, by rw [hv.len, rngD_len]; omega, hv⟩
    exact k p _ _ ok' ((l1.trans l2).trans le)
/-! ### calls by form -/
section
variable {tA : TA} {ds : List D} {Φ : Fn} {E : XK} {S : L2.St → XK} {N : D → Res → Prop} {M : Value → Res → Prop}
/-- the callee owns nothing ahead -/
theorem ee_callP (ha : EvA K δ R tA ds) (hp : Φ ds [] (fun d R' => N d (R' ++ R)) (fun c R' => M c (R' ++ R))) (hE : ∀ c R' σ H', M c R' → Ek c none σ H' → S σ c none H') : EvE K Ek δ R (tCallS (spD K Φ) S tA) N M := ee_call (A := []) (R1 := []) (B := R) ha hp hE
theorem ev_callP (ha : EvA K δ R tA ds) (hp : Φ ds [] (fun d' R' => d' = d ∧ R' ++ R = R) (fun _ _ => False)) : Ev K δ R (tCallS (spD K Φ) S tA) d :=
  ev_ee (ee_callP (N := fun d' R' => d' = d ∧ R' = R) (M := fun _ _ => False) ha hp (fun _ _ _ _ m => m.elim))
theorem evf_ee {es : List PyData} (h : EvE K (fun _ _ _ _ => False) δ R te (fun d' R' => ∃ a, d' = .r a ∧ R' = (a, .lst es) :: R) fun _ _ => False) : EvF K δ R te es := fun G H σ Q ok en k => h G H σ Q ok en (fun d' R' v G' H' q ok' le hv => by
  obtain ⟨a, rfl, rfl⟩ := q
  cases (show v = .ref a from hv)
  exact k a G' H' ok' le) fun c R' G' H' q => q.elim
theorem evf_callP {es : List PyData} (ha : EvA K δ R tA ds) (hp : Φ ds [] (fun d' R' => ∃ a, d' = .r a ∧ R' ++ R = (a, .lst es) :: R) (fun _ _ => False)) : EvF K δ R (tCallS (spD K Φ) S tA) es :=
  evf_ee (ee_callP (N := fun d' R' => ∃ a, d' = .r a ∧ R' = (a, .lst es) :: R) (M := fun _ _ => False) ha hp (fun _ _ _ _ m => m.elim))
/-- the callee owns a part: the first, the last, all -/
theorem ee_call1 (ha : EvA K δ (R1 ++ B) tA ds) (hp : Φ ds R1 (fun d R' => N d (R' ++ B)) (fun c R' => M c (R' ++ B))) (hE : ∀ c R' σ H', M c R' → Ek c none σ H' → S σ c none H') : EvE K Ek δ (R1 ++ B) (tCallS (spD K Φ) S tA) N M := ee_call (A := []) ha hp hE
theorem ee_call2 (ha : EvA K δ (A ++ R1) tA ds) (hp : Φ ds R1 (fun d R' => N d (A ++ R')) (fun c R' => M c (A ++ R'))) (hE : ∀ c R' σ H', M c R' → Ek c none σ H' → S σ c none H') : EvE K Ek δ (A ++ R1) (tCallS (spD K Φ) S tA) N M := by
  have e : ∀ X : Res, A ++ X = A ++ X ++ [] := fun X => (List.append_nil _).symm
  have hp' : Φ ds R1 (fun d R' => N d (A ++ R' ++ [])) (fun c R' => M c (A ++ R' ++ [])) := by
    simp only [List.append_nil]
    exact hp
  rw [e R1] at ha ⊢
  exact ee_call ha hp' hE
theorem ee_call3 (ha : EvA K δ R tA ds) (hp : Φ ds R N M) (hE : ∀ c R' σ H', M c R' → Ek c none σ H' → S σ c none H') : EvE K Ek δ R (tCallS (spD K Φ) S tA) N M := ee_call2 (A := []) ha hp hE
variable {C p : Addr} {m : Str} {i : Nat} {fs : List (Str × D)}
theorem ee_meth1 (h1 : Ev K δ (R1 ++ B) ta (.r p)) (hi : (R1 ++ B)[i]? = some (p, .ins C fs)) (hl : fs.lookup m = none) (ha : EvA K δ (R1 ++ B) tA ds) (hp : Φ (.r p :: ds) R1 (fun d R' => N d (R' ++ B)) (fun c R' => M c (R' ++ B))) (hE : ∀ c R' σ H', M c R' → Ek c none σ H' → S σ c none H') :
    EvE K Ek δ (R1 ++ B) (tMethS' C m (spD K Φ) S ta tA) N M := ee_meth (A := []) h1 hi hl ha hp hE
theorem ee_meth2 (h1 : Ev K δ (A ++ R1) ta (.r p)) (hi : (A ++ R1)[i]? = some (p, .ins C fs)) (hl : fs.lookup m = none) (ha : EvA K δ (A ++ R1) tA ds) (hp : Φ (.r p :: ds) R1 (fun d R' => N d (A ++ R')) (fun c R' => M c (A ++ R'))) (hE : ∀ c R' σ H', M c R' → Ek c none σ H' → S σ c none H') :
    EvE K Ek δ (A ++ R1) (tMethS' C m (spD K Φ) S ta tA) N M := by
  have e : ∀ X : Res, A ++ X = A ++ X ++ [] := fun X => (List.append_nil _).symm
  have hp' : Φ (.r p :: ds) R1 (fun d R' => N d (A ++ R' ++ [])) (fun c R' => M c (A ++ R' ++ [])) := by
    simp only [List.append_nil]
    exact hp
  rw [e R1] at h1 hi ha ⊢
  exact ee_meth h1 hi hl ha hp' hE
theorem ee_meth3 (h1 : Ev K δ R ta (.r p)) (hi : R[i]? = some (p, .ins C fs)) (hl : fs.lookup m = none) (ha : EvA K δ R tA ds) (hp : Φ (.r p :: ds) R N M) (hE : ∀ c R' σ H', M c R' → Ek c none σ H' → S σ c none H') :
    EvE K Ek δ R (tMethS' C m (spD K Φ) S ta tA) N M := ee_meth2 (A := []) h1 hi hl ha hp hE
end
/-! ### raise, try -/
def tRz (W : WX) (c : Value) : TS := fun _ σ H => W c none σ H
theorem x_raise {c : Value} (h : P.xe c δ R) : XS K Ek δ R (tRz Ek c) P := fun G H σ D ok en k => k.xe c δ R σ G H h ok .refl en
/-- try: body, except c1: s1, except c2: s2, .. -/
def tTry (K : PySem.W.Frag) (Wout : WX) (l : List (Value × (Addr → Value → Option Addr → TS))) (tb : WX → TS) : TS := fun D σ H => tb (wMany K Wout D l) D σ H
/-- how a raised c is met -/
def Met (K : PySem.W.Frag) (Ek : WX) (c : Value) (δ : DEnv) (R : Res) (P : Post) : List (Value × (Addr → Value → Option Addr → TS)) → Prop
  | [] => P.xe c δ R
  | (n, ts) :: r => ∃ b, PySem.W.exmOne K c n = some b ∧ (b = true → ∀ a, XS K Ek δ R (ts a c none) P) ∧ (b = false → Met K Ek c δ R P r)
theorem met_ok {D : Ends} {σ : L2.St} {c : Value} : ∀ {l : List (Value × (Addr → Value → Option Addr → TS))}, Met K Ek c δ R P l → Ok K G H R → DE K G σ δ → Cn K Ek P D G H R → wMany K Ek D l c none σ H
  | [], h, ok, en, k => k.xe c δ R σ G H h ok .refl en
  | (n, ts) :: r, ⟨b, h1, h2, h3⟩, ok, en, k => ⟨b, h1, fun e a _ => h2 e a G H σ D ok en k, fun e => met_ok (h3 e) ok en k⟩
theorem x_try {l : List (Value × (Addr → Value → Option Addr → TS))} {tb : WX → TS} (h : ∀ W, XS K W δ R (tb W) { P with xe := fun c δ' R' => Met K Ek c δ' R' P l }) : XS K Ek δ R (tTry K Ek l tb) P := fun G H σ D ok en k =>
  h _ G H σ D ok en ⟨k.nx, k.rt, k.bk, k.ct, fun c δ' R' σ' G' H' m ok' le en' => met_ok m ok' en' (k.mono le)⟩
/-- try: body, except n as x: suite; x stands in slot i -/
def tTryAs (K : PySem.W.Frag) (c : Value) (i : Nat) (ts : Addr → Value → Option Addr → TS) (Wout : WX) (tb : WX → TS) : TS := fun D σ H => tb (wAs K c i ts Wout D) D σ H
theorem x_tryAs {c : Value} {i : Nat} {ts : Addr → Value → Option Addr → TS} {tb : WX → TS} {Hx : Value → DEnv → Res → Prop} (h : ∀ W, XS K W δ R (tb W) { P with xe := Hx })
    (hh : ∀ e δ' R', Hx e δ' R' → ∃ b, PySem.W.exmOne K e c = some b ∧ (b = true → ∀ a, XS K Ek (δ'.set i (some (.r a))) R' (ts a e none) { P with nx := fun δ2 R2 => P.nx (δ2.set i none) R2, bk := fun δ2 R2 => P.bk (δ2.set i none) R2, ct := fun δ2 R2 => P.ct (δ2.set i none) R2 }) ∧ (b = false → P.xe e δ' R')) :
    XS K Ek δ R (tTryAs K c i ts Ek tb) P := fun G H σ D ok en k =>
  h _ G H σ D ok en ⟨k.nx, k.rt, k.bk, k.ct, fun e δ' R' σ' G' H' m ok' le en' => by
    obtain ⟨b, h1, h2, h3⟩ := hh e δ' R' m
    refine ⟨b, h1, fun q a _ => ?_, fun q => k.xe e δ' R' σ' G' H' (h3 q) ok' le en'⟩
    refine h2 q a G' H' _ _ ok' (en'.set (d := .r a) rfl) ⟨fun δ2 R2 σ2 G2 H2 p o l w => (k.mono le).nx _ R2 _ G2 H2 p o l w.unset, (k.mono le).rt, fun δ2 R2 σ2 G2 H2 p o l w => (k.mono le).bk _ R2 _ G2 H2 p o l w.unset, fun δ2 R2 σ2 G2 H2 p o l w => (k.mono le).ct _ R2 _ G2 H2 p o l w.unset, (k.mono le).xe⟩⟩
/-- isinstance(e, c), e the error that a suite holds -/
theorem ev_isE {Dd a : Addr} {c : V} {cv : Value} {b : Bool} (h : Ev K δ R ta (.r a)) (hc : ∀ u, RelV c u → u = cv) (hk : PySem.W.kitOne K (.ref Dd) cv = some b) : Ev K δ R (tCB (rIsE K Dd a) (tCons ta (tCons (tC c) tNil))) (.d (.bool b)) := fun G H σ Q ok en k => h G H σ _ ok en fun v G1 H1 ok1 l1 q1 => by
  cases (show v = .ref a from q1)
  exact ⟨c, cv, b, rfl, hc, hk, k _ G1 H1 ok1 l1 (show Hv G1 _ _ from .bl _)⟩
end
section
variable {X : Cx} {D : Ends}
theorem ps_rz {W : WX} {C : Addr} {e : Expr} {pos : Pos} (hc : X.calm = true) (tk : Takes X W) (he : PMk X e (fun _ H Q => Q (.ref C) none H)) : PS X (.Raise (some e) none pos) (tRz W (.ref C)) := ps_raise hc tk he
theorem ps_try' {body : List Stmt} {h₀ : ExceptHandler} {hds : List ExceptHandler} {l : List (Value × (Addr → Value → Option Addr → TS))} {pos : Pos} {tb : WX → TS} {Wout : WX} (hs : X.stack = X.env :: X.outer) (hf : X.env.frame = some X.env.locals) (tk : Takes X Wout)
    (hb : ∀ (W : WX) (pn : List (Addr × Obj)) (xe : Value → Shared → Prop), Takes (X.tr pn xe) W → PassesOwn (model X.prog X.w) X.A X.env xe → PSs (X.tr pn xe) body (tb W))
    (hh : HdsOk X (h₀ :: hds) l) : PS X (.Try body (h₀ :: hds) [] [] pos) (tTry X.K Wout l tb) := ps_try_many hs hf tk hb hh
end
end Fl
/-! Calls of what the text defines: defs, methods, classes, in each surrounding. -/
namespace Fl
open PySem PySem.Spec PyProof.Rows L2
section
variable (P : Program) (w : World) (K : PySem.W.Frag) (mg : Str → Option Value) (base : Heap)
structure Cl (k : Nat) (x : Str) (ps : List Str) (sp : Sp) : Prop where
  ex : ∃ (f : Addr) (fd : FuncData), FnOk P w K mg base (L2.CX P w) k f fd ps sp ∧ mg x = some (.ref f) ∧ PySem.W.keepIn K (.ref f) = true ∧ Binds K fd ps []
structure Mt (k : Nat) (C : Addr) (m : Str) (ps : List Str) (sp : Sp) : Prop where
  ex : ∃ (f : Addr) (fd : FuncData), FnOk P w K mg base (L2.CX P w) k f fd ps sp ∧ Cls K C ∧ Meth K C m f ∧ Binds K fd ps []
structure Mc (k : Nat) (x : Str) (C : Addr) (ps : List Str) (sp : Sp) : Prop where
  ex : ∃ (f : Addr) (fd : FuncData), FnOk P w K mg base (L2.CX P w) k f fd ps sp ∧ Mk K C f ∧ mg x = some (.ref C) ∧ Binds K fd ps []
end
/-- what a callee may let out is taken at the caller's slots -/
def Pas (X : Cx) (S : L2.St → XK) : Prop := ∀ σ, PassesAt (L2.CX X.prog X.w) X σ (S σ)
theorem pasN {X : Cx} : Pas X (fun _ => E0) := fun σ pins H s e s' I c => passL pins σ H s e s' I c
theorem pasX {X : Cx} {E : XK} (tk : Takes X (fun cls d _ H => E cls d H)) : Pas X (fun _ => E) := fun σ => passAt (W := fun cls d _ H => E cls d H) tk σ
theorem pasT {X : Cx} {W : WX} (tk : Takes X W) : Pas X (WE W) := fun σ => passAt tk σ
section
variable {X : Cx} {k j : Nat} {C : Addr} {x m : Str} {ps : List Str} {sp : Sp} {S : L2.St → XK} {p pos apos : Pos} {e o : Expr} {es : List Expr} {ta : TE} {t : TA}
theorem pe_cl (c : Cl X.prog X.w X.K X.mg X.base k x ps sp) (hr : Room j X.A) (hk : k ≤ j) (hg : Gl X x) (hx : Pas X S) (ha : PA X (e :: es) t)
    (hdb : (x == ("__debug__" : Str)) = false := by decide) (he : starEach (e :: es) X.env = (false, eval e X.env) :: starEach es X.env := by rfl) (hpl : (backTo pos (starEach es X.env)).any (·.1) = false := by rfl) :
    PE X (.Call (.Name x p) (e :: es) [] pos) (tCallS sp S t) := by
  obtain ⟨f, fd, F, hm, kp, b⟩ := c.ex
  exact pe_callS F (hr.mono hk) hg hm kp b hx ha hdb he hpl
theorem pe_mtS {pl : Sem Bool} (c : Mt X.prog X.w X.K X.mg X.base k C m ps sp) (hr : Room j X.A) (hk : k ≤ j) (hx : Pas X S) (ho : PE X o ta) (ha : PA X (e :: es) t)
    (hst : starEach (e :: es) X.env = (false, eval e X.env) :: starEach es X.env := by rfl) (hpl : (backTo pos (starEach es X.env)).any (·.1) = false := by rfl)
    (ht : eval (.Call (.Attribute o m apos) (e :: es) [] pos) X.env = (do
      let ov ← eval o X.env
      standAt apos.atName
      let (f, first) ← holding [ov] (getMethod ov m pl)
      callWith pos f first (backTo pos (starEach (e :: es) X.env)) (backToKw pos (keywordEach [] X.env))) := by rfl) :
    PE X (.Call (.Attribute o m apos) (e :: es) [] pos) (tMethS' C m sp S ta t) := by
  obtain ⟨f, fd, F, hc, hm, b⟩ := c.ex
  refine ⟨fun pins s σ H Q I h => ?_⟩
  refine PySem.W.methodCall_KW (pl := pl) (thn (ho.run pins s σ H _ I h) fun u s1 ⟨x, H1, I1, rx, a, dx, fs, ex, ea, l, q⟩ => ?_) ht
  subst ex
  obtain rfl : u = Value.ref a := rx
  refine getmeth_ok I1 ea hc hm l ?_
  refine PySem.W.callWith_K (first := [.ref a]) (h₀ := X.base) I.ok.mod.kin hm.kp (thn (ha.run pos pins s1 σ H1 _ I1 q) fun us s2 ⟨vs, H2, I2, r, q2⟩ => ⟨I2.kIn, ?_⟩) hst hpl
  exact run_fnS (us := .ref a :: us) (vs := .ref a :: vs) F (hr.mono hk) b (hx σ) I2 (.cons rfl r) q2
theorem pe_mtS0 {pl : Sem Bool} (c : Mt X.prog X.w X.K X.mg X.base k C m ps sp) (hr : Room j X.A) (hk : k ≤ j) (hx : Pas X S) (ho : PE X o ta)
    (ht : eval (.Call (.Attribute o m apos) [] [] pos) X.env = (do
      let ov ← eval o X.env
      standAt apos.atName
      let (f, first) ← holding [ov] (getMethod ov m pl)
      callWith pos f first (backTo pos (starEach [] X.env)) (backToKw pos (keywordEach [] X.env))) := by rfl) :
    PE X (.Call (.Attribute o m apos) [] [] pos) (tMethS' C m sp S ta tNil) := by
  obtain ⟨f, fd, F, hc, hm, b⟩ := c.ex
  refine ⟨fun pins s σ H Q I h => ?_⟩
  refine PySem.W.methodCall_KW (pl := pl) (thn (ho.run pins s σ H _ I h) fun u s1 ⟨x, H1, I1, rx, a, dx, fs, ex, ea, l, q⟩ => ?_) ht
  subst ex
  obtain rfl : u = Value.ref a := rx
  refine getmeth_ok I1 ea hc hm l ?_
  exact PySem.W.callWith_K0 (first := [.ref a]) I1.kIn hm.kp (run_fnS (us := [.ref a]) (vs := [.ref a]) F (hr.mono hk) b (hx σ) I1 (.cons rfl .nil) q)
theorem pe_mkS (c : Mc X.prog X.w X.K X.mg X.base k x C ps sp) (hr : Room j X.A) (hk : k + 1 ≤ j) (hg : Gl X x) (hx : Pas X S) (ha : PA X (e :: es) t)
    (hdb : (x == ("__debug__" : Str)) = false := by decide) (he : starEach (e :: es) X.env = (false, eval e X.env) :: starEach es X.env := by rfl) (hpl : (backTo pos (starEach es X.env)).any (·.1) = false := by rfl) :
    PE X (.Call (.Name x p) (e :: es) [] pos) (tMakeS C sp S t) := by
  obtain ⟨f, fd, F, M, hm, b⟩ := c.ex
  refine ⟨fun pins s σ H Q I h => ?_⟩
  refine wpAny_Call_Name_kw (ld_glob I hg hm ?_ hdb)
  refine PySem.W.callWith_K (h₀ := X.base) I.ok.mod.kin M.kp (thn (ha.run pos pins s σ H _ I h) fun us s1 ⟨vs, H1, I1, r, q⟩ => ⟨I1.kIn, ?_⟩) he hpl
  refine thn (Q := EP X pins σ fun v H2 => Q v H2) ?_ fun _ _ z => z
  have hq := q (s1.heap.objs.size + 1) s1.heap.objs.size (I1.hok.fresh (Nat.le_succ _)) (I1.hok.fresh (Nat.le_refl _)) (Nat.ne_of_lt (Nat.lt_succ_self _))
  have I2 := Inv.made (C := C) I1
  have r2 : Vals (V.ref (s1.heap.objs.size + 1) :: vs) (Value.ref (s1.heap.objs.size + 1) :: us) := .cons rfl r
  have hl : (Value.ref (s1.heap.objs.size + 1) :: us).length = ps.length := by
    have e := r2.length
    rw [F.len _ _ _ _ hq] at e
    exact e.symm
  have bb := b _ (Value.ref (s1.heap.objs.size + 1) :: us) I2.kIn (by rw [List.append_nil]; exact hl)
  rw [List.append_nil] at bb
  refine wpAny_call (make_map (f := f) I1.kIn M.makes M.init (beq_iff_eq.mp M.fn) (codeAny_mono (F.run _ X.stack _ _ ⟨Value.ref (s1.heap.objs.size + 1) :: us, []⟩ (Value.ref (s1.heap.objs.size + 1) :: us) _ _ (S σ) ((hr.mono hk).make C us [])
    (I2.env0.make C us []) bb r2 hq) fun r s' hq' => ?_))
  cases r with
  | error e => exact hx σ pins _ _ e s' I2 hq'
  | ok fl =>
    cases fl with
    | ret u =>
      obtain ⟨v, H', I3, rv, ev, q3⟩ := I2.after hq'
      subst ev
      exact ⟨rv, ⟨V.ref (s1.heap.objs.size + 1), H', I3, rfl, q3⟩⟩
    | next => exact False.elim hq'
    | brk => exact False.elim hq'
    | cont => exact False.elim hq'
end
theorem op_isN' {X : Cx} : OpR X (compareOp .Is) rIsN := op_isN
theorem op_notN' {X : Cx} : OpR X (compareOp .IsNot) rNotN := op_notN
theorem m1_of {X : Cx} {o : Expr} {m : Str} {apos cpos : Pos} {e : Expr} (h1 : attributeBase o m X.env (eval o X.env) = eval o X.env := by rfl)
    (h2 : ((backTo cpos (starEach [e] X.env)).all (fun x => !x.1) && (backToKw cpos (keywordEach [] X.env)).all (fun x => x.1.isSome) && decide (([e] : List Expr).length + ([] : List Keyword).length + (if ([] : List Keyword).isEmpty then 0 else 1) < 30)) = true := by rfl)
    (h3 : (apos.endLine == cpos.line) = true := by rfl) (h4 : backTo cpos (starEach [e] X.env) = [(false, eval e X.env)] := by rfl) : M1 X o m apos e cpos := ⟨h1, h2, h3, h4⟩
/-- a def holds its promise: a reading of its body, and what that reaches -/
theorem cl_of {P : Program} {w : World} {K : PySem.W.Frag} {mg : Str → Option Value} {base : Heap} {x qual : Str} {st : Stmt} {f : Addr} {fd : FuncData} {N ps : List Str} {k : Nat} {Φ : Fn} (t : XK → TS) (F : Fun K x qual st f fd) (S : FnScope N ps (defScope st))
    (len : ∀ ds R N' M', Φ ds R N' M' → ds.length = ps.length)
    (sem : ∀ (E : XK) (ds : List D) (R : Res) (N' : D → Res → Prop) (M' : Value → Res → Prop), Φ ds R N' M' → XS K (fun c d _ H => E c d H) (startD N ds) R (t E) (endsOf N' M'))
    (der : ∀ (cdv : Value) (A : Around) (outer : List Env) (s : Shared) (H : Hp) (E : XK), Room k (A.deeper (envOfC qual (defScope st) s.heap.objs.size f cdv)) → PSs (cxOf (L2.CX P w) P w K mg base N qual (defScope st) f cdv A outer s H E) (defBody st) (t E)) :
    FnOk P w K mg base (L2.CX P w) (k + 1) f fd ps (spD K Φ) :=
  F.okX S (fun vs H Q E h => sp_len len h) fun cdv A outer s H vs Q E hr h => ⟨t E, der cdv A outer s H E hr, fn_sem (t := t) sem h⟩
end Fl
/-! Forms for lists that are told by a map; the addresses of the classes. -/
namespace Fl
open PySem PySem.Spec PyProof.Rows L2
/-- where the text's classes stand -/
structure Ad where
  C : Addr
  bf : Addr
  ng : Addr
  nf : Addr
  nb : Addr
  ns : Addr
  sh : Addr
  oc : Addr
  bt : Addr
  le : Addr
def cutL {α : Type} (xs : List α) (lo hi : Option Int) : List α := (xs.drop (HT.sIx xs.length 0 lo)).take (HT.sIx xs.length xs.length hi - HT.sIx xs.length 0 lo)
theorem cutD_map {α : Type} (f : α → PyData) (xs : List α) (lo hi : Option Int) : cutD (xs.map f) lo hi = (cutL xs lo hi).map f := by
  unfold cutD cutL
  rw [List.length_map, List.map_take, List.map_drop]
theorem cutL_from {α : Type} (xs : List α) (n : Nat) : cutL xs (some (n : Int)) none = xs.drop n := by
  unfold cutL
  have e1 : HT.sIx xs.length 0 (some (n : Int)) = min n xs.length := by
    show (if (n : Int) < 0 then ((n : Int) + xs.length).toNat else min (n : Int).toNat xs.length) = _
    rw [if_neg (by omega)]
    simp
  have e2 : HT.sIx xs.length xs.length none = xs.length := rfl
  rw [e1, e2]
  by_cases h : n ≤ xs.length
  · rw [Nat.min_eq_left h]
    rw [List.take_of_length_le (by rw [List.length_drop]; omega)]
  · rw [Nat.min_eq_right (by omega), List.drop_of_length_le (Nat.le_refl _), List.drop_of_length_le (by omega)]
    simp
theorem cutL_upto {α : Type} (xs : List α) (n : Nat) : cutL xs none (some (n : Int)) = xs.take n := by
  unfold cutL
  have e1 : HT.sIx xs.length xs.length (some (n : Int)) = min n xs.length := by
    show (if (n : Int) < 0 then ((n : Int) + xs.length).toNat else min (n : Int).toNat xs.length) = _
    rw [if_neg (by omega)]
    simp
  have e2 : HT.sIx xs.length 0 none = 0 := rfl
  rw [e1, e2, List.drop_zero, Nat.sub_zero]
  by_cases h : n ≤ xs.length
  · rw [Nat.min_eq_left h]
  · rw [Nat.min_eq_right (by omega), List.take_of_length_le (Nat.le_refl _), List.take_of_length_le (by omega)]
theorem cutL_mid {α : Type} (xs : List α) (m n : Nat) : cutL xs (some (m : Int)) (some (n : Int)) = (xs.drop m).take (n - m) := by
  unfold cutL
  have e1 : ∀ k d : Nat, HT.sIx xs.length d (some (k : Int)) = min k xs.length := fun k d => by
    show (if (k : Int) < 0 then ((k : Int) + xs.length).toNat else min (k : Int).toNat xs.length) = _
    rw [if_neg (by omega)]
    simp
  rw [e1, e1]
  by_cases h : m ≤ xs.length
  · rw [Nat.min_eq_left h]
    apply List.ext_getElem?
    intro i
    rw [List.getElem?_take, List.getElem?_take, List.getElem?_drop]
    by_cases h1 : i < n - m
    · rw [if_pos h1]
      by_cases h2 : i < min n xs.length - m
      · rw [if_pos h2]
      · rw [if_neg h2, List.getElem?_eq_none (by omega)]
    · rw [if_neg h1, if_neg (by omega)]
  · have e2 : min m xs.length = xs.length := by omega
    rw [e2, List.drop_of_length_le (Nat.le_refl _), List.drop_of_length_le (by omega)]
    simp
section
variable {K : PySem.W.Frag} {Ek : WX} {R : Res} {δ : DEnv} {ta tb te tl : TE} {d x y z : D} {α : Type}
theorem evf_slM {tl th : TO} {lo hi : Option Int} {f : α → PyData} {xs : List α} (h : Ev K δ R te d) (h1 : EvO K δ R tl lo) (h2 : EvO K δ R th hi) (hl : Ls R d (xs.map f)) : EvF K δ R (tSl (rSlL K) te tl th) ((cutL xs lo hi).map f) := evf_is (evf_sl h h1 h2 hl) (cutD_map f xs lo hi)
theorem ei_rng1M {n : Int} (h : Ev K δ R ta (.d (.int n))) (hn : 0 ≤ n ∧ n ≤ 50000) : EvI K δ R (iRng1 (tCons ta tNil)) ((List.range n.toNat).map fun (i : Nat) => .int (i : Int)) := ei_is (ei_rng1 h hn) (by unfold rngD; simp)
theorem ei_rng2M {a n : Int} (h1 : Ev K δ R ta (.d (.int a))) (h2 : Ev K δ R tb (.d (.int n))) (hn : -50000 ≤ a ∧ a ≤ n + 1 ∧ n ≤ 50000 ∧ n - a ≤ 50000) : EvI K δ R (iRng2 (tCons ta (tCons tb tNil))) ((List.range (n - a).toNat).map fun (i : Nat) => .int (a + (i : Int))) := ei_rng2 h1 h2 hn
theorem rvf_plusM {f : α → PyData} {xs ys : List α} (hx : Ls R x (xs.map f)) (hy : Ls R y (ys.map f)) (hl : xs.length + ys.length ≤ 50000) : RVF K R rPlus x y ((xs ++ ys).map f) := by
  rw [List.map_append]
  exact rvf_plus hx hy (by rw [List.length_map, List.length_map]; exact hl)
theorem atI_some {xs : List α} {i : Nat} {v : α} (h : xs[i]? = some v) : atI xs (i : Int) = some v := atI_nat h
theorem atI_back {xs : List α} {v : α} (h : xs.getLast? = some v) : atI xs (-1) = some v := by
  have hne : xs ≠ [] := by intro e; subst e; cases h
  have e : xs = xs.dropLast ++ [v] := by
    rw [List.getLast?_eq_some_getLast hne] at h
    rw [← Option.some.inj h]
    exact (List.dropLast_concat_getLast hne).symm
  rw [e]
  exact atI_last _ _
theorem rv_ixLM {f : α → PyData} {xs : List α} {i : Int} {e : α} (h : Ls R x (xs.map f)) (ha : atI xs i = some e) : RV K R (rIx K) x (.d (.int i)) (.d (f e)) := rv_ixL h (atI_map ha)
end
/-! ### == of data told by a map -/
theorem eqv_ints : ∀ (a b : List Int), PyData.eqvAll (a.map .int) (b.map .int) = decide (a = b)
  | [], [] => rfl
  | [], _ :: _ => rfl
  | _ :: _, [] => rfl
  | x :: a, y :: b => by
    show (PyData.eqv (.int x) (.int y) && PyData.eqvAll (a.map .int) (b.map .int)) = _
    rw [eqv_ints a b]
    show ((x == y) && decide (a = b)) = decide (x :: a = y :: b)
    rw [Bool.eq_iff_iff]
    simp
theorem eqv_bools : ∀ (a b : List Bool), PyData.eqvAll (a.map .bool) (b.map .bool) = decide (a = b)
  | [], [] => rfl
  | [], _ :: _ => rfl
  | _ :: _, [] => rfl
  | x :: a, y :: b => by
    show (PyData.eqv (.bool x) (.bool y) && PyData.eqvAll (a.map .bool) (b.map .bool)) = _
    rw [eqv_bools a b]
    show ((x == y) && decide (a = b)) = decide (x :: a = y :: b)
    rw [Bool.eq_iff_iff]
    simp
theorem eqv_strs : ∀ (a b : List Str), PyData.eqvAll (a.map .str) (b.map .str) = decide (a = b)
  | [], [] => rfl
  | [], _ :: _ => rfl
  | _ :: _, [] => rfl
  | x :: a, y :: b => by
    show (PyData.eqv (.str x) (.str y) && PyData.eqvAll (a.map .str) (b.map .str)) = _
    rw [eqv_strs a b]
    show ((x == y) && decide (a = b)) = decide (x :: a = y :: b)
    rw [Bool.eq_iff_iff]
    simp
mutual
theorem eqv_self : ∀ d : PyData, d.plain = true → PyData.eqv d d = true := fun d h => SeqAt.eqv_refl_plain d h
end
/-! ### sides -/
def sds (u : Bool) : Str := if u then "up" else "down"
def sd (u : Bool) : PyData := .str (sds u)
theorem sds_inj {a b : Bool} (h : sds a = sds b) : a = b := by
  revert h
  cases a <;> cases b <;> decide
theorem sds_up (u : Bool) : (sds u == ("up" : Str)) = u := by cases u <;> decide
theorem sds_down (u : Bool) : (sds u == ("down" : Str)) = !u := by cases u <;> decide
theorem eqv_up (u : Bool) : PyData.eqv (sd u) (.str "up") = u := sds_up u
theorem eqv_down (u : Bool) : PyData.eqv (sd u) (.str "down") = !u := sds_down u
theorem eqv_sd (a b : Bool) : PyData.eqv (sd a) (sd b) = (a == b) := by
  show (sds a == sds b) = _
  revert a b
  decide
theorem eqv_sds (a b : List Bool) : PyData.eqvAll (a.map sd) (b.map sd) = decide (a = b) := by
  have e : ∀ l : List Bool, l.map sd = (l.map sds).map PyData.str := fun l => by rw [List.map_map]; rfl
  rw [e, e, eqv_strs, Bool.eq_iff_iff]
  simp only [decide_eq_true_eq]
  constructor
  · intro h
    exact (List.map_inj_right (fun x y => sds_inj)).mp h
  · intro h; rw [h]
/-! ### depth -/
theorem dep_all {α : Type} {f : α → PyData} {n : Nat} : ∀ (xs : List α), (∀ x, (f x).depth ≤ n) → PyData.depthAll (xs.map f) ≤ n
  | [], _ => Nat.zero_le _
  | x :: xs, h => by
    show max (f x).depth (PyData.depthAll (xs.map f)) ≤ n
    exact Nat.max_le.mpr ⟨h x, dep_all xs h⟩
theorem dep_l {a b : PyData} (h : a.depth ≤ 60) : min a.depth b.depth ≤ 64 := by omega
theorem dep_r {a b : PyData} (h : b.depth ≤ 60) : min a.depth b.depth ≤ 64 := by omega
theorem dep_map {α : Type} {f : α → PyData} {xs : List α} (h : ∀ x, (f x).depth ≤ 10) : (PyData.list (xs.map f)).depth ≤ 60 := by
  show PyData.depthAll (xs.map f) + 1 ≤ 60
  have := dep_all xs h
  omega
end Fl
namespace Fl
open PySem PySem.Spec PyProof.Rows L2
section
variable {K : PySem.W.Frag} {Ek : WX} {R : Res} {δ : DEnv} {te : TE} {d d' : D} {t u : TS} {P : Post} {tt : TT}
/-! ### forms that leave an equation -/
theorem x_retI (h : Ev K δ R te d') (e : d' = d) (n : P.rt d R) : XS K Ek δ R (tRet te) P := x_ret (ev_is h e) n
theorem x_asgI {i : Nat} (h : Ev K δ R te d') (e : d' = d) (n : P.nx (δ.set i (some d)) R) : XS K Ek δ R (tAsg te (gName i)) P := x_asg (ev_is h e) n
theorem x_ifI {b b' : Bool} (h : EvT K δ R tt b') (e : b' = b) (h1 : b = true → XS K Ek δ R t P) (h2 : b = false → XS K Ek δ R u P) : XS K Ek δ R (tIfS tt t u) P := x_if (et_is h e) h1 h2
theorem x_retFI {ds es : List PyData} (h : EvF K δ R te es) (e : es = ds) (n : ∀ a, P.rt (.r a) ((a, .lst ds) :: R)) : XS K Ek δ R (tRet te) P := x_retF (evf_is h e) n
theorem x_asgFI {i : Nat} {ds es : List PyData} (h : EvF K δ R te es) (e : es = ds) (n : ∀ a, P.nx (δ.set i (some (.r a))) ((a, .lst ds) :: R)) : XS K Ek δ R (tAsg te (gName i)) P := x_asgF (evf_is h e) n
/-- a loop over a list of α -/
theorem x_forI {α : Type} {wi : TI} {g : TG} {xs : List α} {enc : α → PyData} (I : Nat → DEnv → Res → Prop) (h : EvI K δ R wi (xs.map enc)) (h0 : I 0 δ R)
    (hs : ∀ (i : Nat) (w : α) δ' R', xs[i]? = some w → I i δ' R' → ∃ δ2, EvG K δ' g (enc w) δ2 ∧ XS K Ek δ2 R' t { P with nx := I (i + 1), ct := I (i + 1), bk := P.nx })
    (hd : ∀ δ' R', I xs.length δ' R' → P.nx δ' R') : XS K Ek δ R (tFor wi g t) P :=
  x_for I h h0 (fun i w δ' R' e p => by
    rw [List.getElem?_map] at e
    cases q : xs[i]? with
    | none => rw [q] at e; cases e
    | some x =>
      rw [q] at e
      cases e
      exact hs i x δ' R' q p) (fun δ' R' p => hd δ' R' (by rw [List.length_map] at p; exact p))
end
/-- what a def's body reaches, from its promise -/
abbrev Sem (K : PySem.W.Frag) (Φ : Fn) (N : List Str) (t : XK → TS) : Prop := ∀ (E : XK) (ds : List D) (R : Res) (N' : D → Res → Prop) (M' : Value → Res → Prop), Φ ds R N' M' → XS K (fun c d _ H => E c d H) (startD N ds) R (t E) (endsOf N' M')
/-- a list of two new own lists -/
theorem x_asgLL {K : PySem.W.Frag} {Ek : WX} {R : Res} {δ : DEnv} {ta tb : TE} {P : Post} {i : Nat} {xs ys : List PyData} (h1 : EvF K δ R ta xs) (h2 : ∀ a, EvF K δ ((a, .lst xs) :: R) tb ys) (n : ∀ a b c, P.nx (δ.set i (some (.r c))) ((c, .lsr [a, b]) :: (b, .lst ys) :: (a, .lst xs) :: R)) : XS K Ek δ R (tAsg (tLst (tCons ta (tCons tb tNil))) (gName i)) P := fun G H σ D ok en c =>
  h1 G H σ _ ok en fun a G1 H1 ok1 l1 => h2 a G1 H1 σ _ ok1 (en.mono l1.g) fun b G2 H2 ok2 l2 => ⟨by show 2 ≤ sizeLine; decide, fun p hp => by
    obtain ⟨ok3, l3⟩ := ok2.laid (o := .lst [.ref a, .ref b]) (q := .lsr [a, b]) hp ⟨upd_same, by show 2 ≤ 50000; decide⟩
    exact c.nx _ _ _ _ _ (n a b p) ok3 ((l1.trans l2).trans l3) (((en.mono l1.g).mono l2.g).set (d := .r p) rfl)⟩
/-- a call whose arguments may be own lists: read as data, the answer a scalar -/
inductive VwA (R : Res) : List D → List D → Prop
  | nil : VwA R [] []
  | same {d : D} {ds es : List D} (h : VwA R ds es) : VwA R (d :: ds) (d :: es)
  | vw {d : D} {x : PyData} {ds es : List D} (v : Vw R d x) (h : VwA R ds es) : VwA R (d :: ds) (.d x :: es)
def scalD : PyData → Bool
  | .list _ => false
  | .tuple _ => false
  | _ => true
theorem Hv.scal {G G' : Hp} {v : V} {x : PyData} (h : Hv G v x) (s : scalD x = true) : Hv G' v x := by
  cases h with
  | non => exact .non
  | bl b => exact .bl b
  | int i => exact .int i
  | str x => exact .str x
  | lst _ _ _ => cases s
  | tup _ _ _ => cases s
theorem VwA.hds {K : PySem.W.Frag} {G H : Hp} {R : Res} (ok : Ok K G H R) : ∀ {ds es : List D} {vs : List V}, VwA R ds es → HDs K G vs ds → HDs K H vs es
  | _, _, _, .nil, .nil => .nil
  | _, _, _, .same h, .cons a b => .cons (a.mono ok.ex) (VwA.hds ok h b)
  | _, _, _, .vw v h, .cons a b => .cons (v.hv ok a) (VwA.hds ok h b)
theorem ev_callZ {K : PySem.W.Frag} {R : Res} {δ : DEnv} {tA : TA} {ds es : List D} {Φ : Fn} {S : L2.St → XK} {x : PyData} (ha : EvA K δ R tA ds) (hv : VwA R ds es) (hp : Φ es [] (fun d' R' => d' = .d x ∧ R' = []) (fun _ _ => False)) (sc : scalD x = true) : Ev K δ R (tCallS (spD K Φ) S tA) (.d x) := fun G H σ Q ok en k =>
  ha G H σ _ ok en fun vs G1 H1 ok1 l1 ⟨q1, q2⟩ => ⟨H1, es, [], _, _, hv.hds ok1 (hds_of q1 q2), ⟨Gx.refl _, fun p hp => absurd hp List.not_mem_nil, List.nodup_nil⟩, hp, fun d R' v G' H' n ok' le h => by
    obtain ⟨rfl, rfl⟩ := n
    have gx : Gx H1 H' := fun a o e => le.h a o e (by simp)
    refine k v G1 H' ⟨ok1.ex.trans gx, fun p hp => ⟨(ok1.own p hp).1, Own1.mono (Gx.refl _) (fun o e => gx _ _ e) (ok1.own p hp).2⟩, ok1.nd⟩ ⟨l1.g, fun a o e m => gx _ _ (l1.h a o e m), l1.n, l1.r, fun a e => le.dm a (l1.dm a e)⟩ (Hv.scal h sc), fun c R' G' H' m => m.elim⟩
end Fl
namespace Fl
open PySem PySem.Spec PyProof.Rows L2
/-! Written lists at a reckoned place. -/
theorem eqv_int (a b : Int) : PyData.eqv (.int a) (.int b) = decide (a = b) := by
  show (a == b) = decide (a = b)
  rw [Bool.eq_iff_iff]; simp
theorem eqv_bool (a b : Bool) : PyData.eqv (.bool a) (.bool b) = decide (a = b) := by
  show (a == b) = decide (a = b)
  rw [Bool.eq_iff_iff]; simp
theorem eqv_str (a b : Str) : PyData.eqv (.str a) (.str b) = decide (a = b) := by
  show (a == b) = decide (a = b)
  rw [Bool.eq_iff_iff]; simp
theorem eqv_list (a b : List PyData) : PyData.eqv (.list a) (.list b) = PyData.eqvAll a b := rfl
def pws : List Int := [1, 2, 4, 8, 16, 32, 64, 128]
theorem pws_pos (c : Int) : ∀ k : Nat, CDiv c (pws.getD k 1)
  | 0 => show CDiv c 1 from ⟨by decide, by decide⟩
  | 1 => show CDiv c 2 from ⟨by decide, by decide⟩
  | 2 => show CDiv c 4 from ⟨by decide, by decide⟩
  | 3 => show CDiv c 8 from ⟨by decide, by decide⟩
  | 4 => show CDiv c 16 from ⟨by decide, by decide⟩
  | 5 => show CDiv c 32 from ⟨by decide, by decide⟩
  | 6 => show CDiv c 64 from ⟨by decide, by decide⟩
  | 7 => show CDiv c 128 from ⟨by decide, by decide⟩
  | k + 8 => show CDiv c 1 from ⟨by decide, by decide⟩
theorem pws_at : ∀ k : Nat, k < 8 → ([.int 1, .int 2, .int 4, .int 8, .int 16, .int 32, .int 64, .int 128] : List PyData)[k]? = some (.int (pws.getD k 1))
  | 0, _ => rfl
  | 1, _ => rfl
  | 2, _ => rfl
  | 3, _ => rfl
  | 4, _ => rfl
  | 5, _ => rfl
  | 6, _ => rfl
  | 7, _ => rfl
  | k + 8, h => by omega
section
variable {K : PySem.W.Frag} {R : Res} {δ : DEnv} {ta tb tc : TE}
theorem ev_pws {i : Int} (h : Ev K δ R tb (.d (.int i))) (hi : 0 ≤ i ∧ i < 8) : Ev K δ R (tOp (rIx K) (tLst (tCons (tC (.int 1)) (tCons (tC (.int 2)) (tCons (tC (.int 4)) (tCons (tC (.int 8)) (tCons (tC (.int 16)) (tCons (tC (.int 32)) (tCons (tC (.int 64)) (tCons (tC (.int 128)) tNil))))))))) tb) (.d (.int (pws.getD i.toNat 1))) := by
  refine ev_op (x := .d (.list [.int 1, .int 2, .int 4, .int 8, .int 16, .int 32, .int 64, .int 128])) (ev_frz (evf_lst (ex_cons ev_int (ex_cons ev_int (ex_cons ev_int (ex_cons ev_int (ex_cons ev_int (ex_cons ev_int (ex_cons ev_int (ex_cons ev_int ex_nil)))))))) (by decide))) h (rv_ixL (.d _) ?_)
  have e : ((i.toNat : Nat) : Int) = i := by omega
  have q := atI_some (pws_at i.toNat (by omega))
  rw [e] at q
  exact q
/-- [a, b][i], i 0 or 1 -/
theorem ev_pair {i : Int} {x y : PyData} (ha : Ev K δ R ta (.d x)) (hb : Ev K δ R tb (.d y)) (h : Ev K δ R tc (.d (.int i))) (hi : i = 0 ∨ i = 1) : Ev K δ R (tOp (rIx K) (tLst (tCons ta (tCons tb tNil))) tc) (.d (if i = 0 then x else y)) := by
  refine ev_op (ev_frz (evf_lst (ex_cons ha (ex_cons hb ex_nil)) (by show 2 ≤ 50000; decide))) h (rv_ixL (.d _) ?_)
  rcases hi with rfl | rfl <;> rfl
theorem ev_pairB {b : Bool} {x y : PyData} (ha : Ev K δ R ta (.d x)) (hb : Ev K δ R tb (.d y)) (h : Ev K δ R tc (.d (.bool b))) : Ev K δ R (tOp (rIx K) (tLst (tCons ta (tCons tb tNil))) (tCB rInt1 (tCons tc tNil))) (.d (if b = true then y else x)) := by
  refine ev_is (ev_pair ha hb (ev_int1 h) (by cases b <;> decide)) ?_
  cases b <;> rfl
theorem ev_updown {i : Int} (h : Ev K δ R tc (.d (.int i))) (hi : i = 0 ∨ i = 1) : Ev K δ R (tOp (rIx K) (tLst (tCons (tC (.str "up")) (tCons (tC (.str "down")) tNil))) tc) (.d (sd (decide (i = 0)))) :=
  ev_is (ev_pair ev_str ev_str h hi) (by rcases hi with rfl | rfl <;> rfl)
end
end Fl
namespace Fl
open PySem PySem.Spec PyProof.Rows L2
/-! The ends. -/
/-- what a law promises -/
def Φ_top : Fn := fun ds R N M => ∃ ns, ds = [.s ns] ∧ R = [] ∧ ns.length ≤ 63 ∧ ∀ R', N (.d (.bool true)) R'
theorem law_start {K : PySem.W.Frag} {H : Hp} {a : Addr} {ns : List Int} (hl : ns.length ≤ 63) (hs : SqL K H a (ns.map V.int)) : spD K Φ_top [.ref a] H (fun v _ => v = .bl true) fun _ _ _ => False :=
  ⟨H, [.s ns], [], fun d _ => d = .d (.bool true), fun _ _ => False, .cons ⟨a, rfl, hs⟩ .nil, ⟨Gx.refl H, fun p hp => absurd hp List.not_mem_nil, List.nodup_nil⟩, ⟨ns, rfl, rfl, hl, fun _ => rfl⟩, fun d R' v G' H' n ok le h => by
    subst n
    cases (show Hv G' v (.bool true) from h)
    rfl, fun _ _ _ _ m => m.elim⟩
theorem walk_fl {l : PySem.W.OpenLaw} {k : Nat} {q : Program} {loose : List Str} {XP : (Str → Option Value) → Heap → Prop} {YP : World → Heap → Prop} {d : DefRec} {K : Params → PySem.W.Frag}
    (hn : l.most = some 63) (hdf : d.params.defaults = []) (hr : Room k callerA) (hY : ∀ (w : World) (h : Heap), YP w h → (K w.params).In h)
    (F : ∀ (w : World) (mg : Str → Option Value) (fa : Addr) (h : Heap), (K w.params).In h → h.Ns mainGlobals mg → mg d.name = some (.ref fa) →
      ∃ fd : FuncData, (∀ (s : Shared) (u : Value), BindsTo s fd ⟨[u], []⟩ [(("script" : Str), u)]) ∧ ∀ base : Heap, (K w.params).In base → base.Ns mainGlobals mg → FnOk l.prog w (K w.params) mg base (L2.CX l.prog w) k fa fd ["script"] (spD (K w.params) Φ_top)) :
    PySem.W.WalkO q loose XP YP l.row.toRowW d [] (fun f vs => PySem.call f vs) :=
  L2.walk_of (n := 63) (k := k) (x := "script") (CX := fun w => L2.CX l.prog w) (sp := fun w => spD (K w.params) Φ_top) hn (by decide) hdf hr hY F (fun _ _ _ _ hl _ hS => law_start hl hS) fun _ _ _ _ _ z => by
    obtain ⟨_, _, _, _, _, _, _, _, _, _, _, _, z⟩ := z
    exact z.elim
theorem pe_gcn {X : Cx} {x : Str} {pos : Pos} {v : V} (hg : Gl X x) (h : ∃ u, X.mg x = some u ∧ RelV v u) (hd : (x == ("__debug__" : Str)) = false := by decide) : PE X (.Name x pos) (tC v) := by
  obtain ⟨u, hm, r⟩ := h
  exact pe_glob hg hm r hd
end Fl
namespace Fl
open PySem PySem.Spec PyProof.Rows L2
/-! What is owned, in another order or in part; a part of it handed to a callee. -/
theorem adr_sub {R0 R : Res} (s : ∀ p ∈ R0, p ∈ R) {a : Addr} (m : a ∈ adr R0) : a ∈ adr R := by
  obtain ⟨p, hp, rfl⟩ := List.mem_map.mp m
  exact List.mem_map.mpr ⟨p, s p hp, rfl⟩
section
variable {K : PySem.W.Frag} {Ek : WX} {G G' H H' : Hp} {R R0 R' R1 : Res} {δ δ' : DEnv} {ta tb tc te tl : TE} {d x y z : D} {t u : TS} {P : Post} {tt : TT} {D : Ends}
theorem Ok.sub (ok : Ok K G H R) (s : ∀ p ∈ R0, p ∈ R) (nd : (adr R0).Nodup) : Ok K G H R0 := ⟨ok.ex, fun p hp => ok.own p (s p hp), nd⟩
theorem Le.subL (s : ∀ p ∈ R0, p ∈ R) (le : Le G H R0 G' H' R') : Le G H R G' H' R' := ⟨le.g, fun a o e n => le.h a o e fun m => n (adr_sub s m), fun a e => (le.n a e).imp id (fun q => q.imp id (adr_sub s)), fun a m => (le.r a m).imp (adr_sub s) id, le.dm⟩
theorem Le.subR (s : ∀ p ∈ R0, p ∈ R') (le : Le G H R G' H' R') : Le G H R G' H' R0 := ⟨le.g, le.h, le.n, fun a m => le.r a (adr_sub s m), le.dm⟩
theorem Cn.subL (c : Cn K Ek P D G H R) (s : ∀ p ∈ R0, p ∈ R) : Cn K Ek P D G H R0 :=
  ⟨fun a b e f g p q l => c.nx a b e f g p q (l.subL s), fun a b e f g p q l => c.rt a b e f g p q (l.subL s), fun a b e f g p q l => c.bk a b e f g p q (l.subL s), fun a b e f g p q l => c.ct a b e f g p q (l.subL s), fun a b e f g h p q l => c.xe a b e f g h p q (l.subL s)⟩
theorem XS.sub (h : XS K Ek δ R0 t P) (s : ∀ p ∈ R0, p ∈ R) (nd : (adr R).Nodup → (adr R0).Nodup) : XS K Ek δ R t P := fun G H σ D ok en c => h G H σ D (ok.sub s (nd ok.nd)) en (c.subL s)
theorem XS.dropL (h : XS K Ek δ R0 t P) (s : R0.Sublist R) : XS K Ek δ R t P := h.sub (fun p hp => s.subset hp) fun nd => nd.sublist (s.map _)
theorem XS.perm (h : XS K Ek δ R0 t P) (s : R0.Perm R) : XS K Ek δ R t P := h.sub (fun p hp => s.subset hp) fun nd => ((s.map (·.1)).nodup_iff).mpr nd
theorem Ok.perm (ok : Ok K G H R) (s : R.Perm R0) : Ok K G H R0 := ok.sub (fun p hp => s.symm.subset hp) (((s.map (·.1)).nodup_iff).mp ok.nd)
theorem Le.permR (le : Le G H R G' H' R') (s : R'.Perm R0) : Le G H R G' H' R0 := le.subR fun p hp => s.symm.subset hp
theorem XS.forget (h : XS K Ek δ R t P) {p : Addr × RO} : XS K Ek δ (p :: R) t P := h.dropL (List.sublist_cons_self p R)
/-- R1 stands in R; f puts another in its place -/
inductive Inn (X : Res) : Res → (Res → Res) → Prop
  | one : Inn X X fun Y => Y
  | here (B : Res) : Inn X (X ++ B) fun Y => Y ++ B
  | there (Z : Res) {R : Res} {f : Res → Res} (h : Inn X R f) : Inn X (Z ++ R) fun Y => Z ++ f Y
  | cons (z : Addr × RO) {R : Res} {f : Res → Res} (h : Inn X R f) : Inn X (z :: R) fun Y => z :: f Y
theorem Inn.eq {X : Res} {f : Res → Res} (h : Inn X R f) : ∃ A B, R = A ++ X ++ B ∧ ∀ Y, f Y = A ++ Y ++ B := by
  induction h with
  | one => exact ⟨[], [], by simp, fun Y => by simp⟩
  | here B => exact ⟨[], B, by simp, fun Y => by simp⟩
  | there Z h ih =>
    obtain ⟨A, B, rfl, e⟩ := ih
    exact ⟨Z ++ A, B, by simp, fun Y => by simp [e]⟩
  | cons z h ih =>
    obtain ⟨A, B, rfl, e⟩ := ih
    exact ⟨z :: A, B, by simp, fun Y => by simp [e]⟩
section
variable {tA : TA} {ds : List Fl.D} {Φ : Fn} {S : L2.St → XK} {N : Fl.D → Res → Prop} {M : Value → Res → Prop} {f : Res → Res} {C p : Addr} {m : Str} {fs : List (Str × Fl.D)}
theorem ee_callN (hi : Inn R1 R f) (ha : EvA K δ R tA ds) (hp : Φ ds R1 (fun d R' => N d (f R')) (fun c R' => M c (f R'))) (hE : ∀ c R' σ H', M c R' → Ek c none σ H' → S σ c none H') : EvE K Ek δ R (tCallS (spD K Φ) S tA) N M := by
  obtain ⟨A, B, rfl, e⟩ := hi.eq
  obtain rfl : f = fun Y => A ++ Y ++ B := funext e
  exact ee_call ha hp hE
theorem ee_methN (h1 : Ev K δ R ta (.r p)) (hi : Inn R1 R f) (h0 : R1[0]? = some (p, .ins C fs)) (hl : fs.lookup m = none) (ha : EvA K δ R tA ds) (hp : Φ (.r p :: ds) R1 (fun d R' => N d (f R')) (fun c R' => M c (f R'))) (hE : ∀ c R' σ H', M c R' → Ek c none σ H' → S σ c none H') :
    EvE K Ek δ R (tMethS' C m (spD K Φ) S ta tA) N M := by
  obtain ⟨A, B, rfl, e⟩ := hi.eq
  obtain rfl : f = fun Y => A ++ Y ++ B := funext e
  have q : (A ++ R1 ++ B)[A.length]? = some (p, RO.ins C fs) := by
    have l1 : 0 < R1.length := by
      cases R1 with
      | nil => simp at h0
      | cons _ _ => simp
    rw [List.append_assoc, List.getElem?_append_right (Nat.le_refl _), Nat.sub_self, List.getElem?_append_left l1]
    exact h0
  exact ee_meth (i := A.length) h1 q hl ha hp hE
theorem ev_eeP (h : EvE K (fun _ _ _ _ => False) δ R te (fun d' R' => d' = d ∧ R'.Perm R) fun _ _ => False) : Ev K δ R te d := fun G H σ Q ok en k => h G H σ Q ok en (fun d' R' v G' H' q ok' le hv => by
  obtain ⟨rfl, pr⟩ := q
  exact k v G' H' (ok'.perm pr) (le.permR pr) hv) fun c R' G' H' q => q.elim
theorem evf_eeP {es : List PyData} (h : EvE K (fun _ _ _ _ => False) δ R te (fun d' R' => ∃ a, d' = .r a ∧ R'.Perm ((a, .lst es) :: R)) fun _ _ => False) : EvF K δ R te es := fun G H σ Q ok en k => h G H σ Q ok en (fun d' R' v G' H' q ok' le hv => by
  obtain ⟨a, rfl, pr⟩ := q
  cases (show v = .ref a from hv)
  exact k a G' H' (ok'.perm pr) (le.permR pr)) fun c R' G' H' q => q.elim
theorem Inn.back (hi : Inn R1 R f) : f R1 = R := by
  obtain ⟨A, B, rfl, e⟩ := hi.eq
  exact e R1
theorem Inn.new {q : Addr × RO} (hi : Inn R1 R f) : (f (q :: R1)).Perm (q :: R) := by
  obtain ⟨A, B, rfl, e⟩ := hi.eq
  rw [e]
  simp only [List.append_assoc, List.cons_append]
  exact List.perm_middle
theorem ev_methN (h1 : Ev K δ R ta (.r p)) (hi : Inn R1 R f) (h0 : R1[0]? = some (p, .ins C fs)) (hl : fs.lookup m = none) (ha : EvA K δ R tA ds) (hp : f R1 = R → Φ (.r p :: ds) R1 (fun d' R' => d' = d ∧ f R' = R) (fun _ _ => False)) : Ev K δ R (tMethS' C m (spD K Φ) S ta tA) d :=
  ev_ee (ee_methN (Ek := fun _ _ _ _ => False) (N := fun d' R' => d' = d ∧ R' = R) (M := fun _ _ => False) h1 hi h0 hl ha (hp hi.back) fun _ _ _ _ z => z.elim)
theorem evf_methN {es : List PyData} (h1 : Ev K δ R ta (.r p)) (hi : Inn R1 R f) (h0 : R1[0]? = some (p, .ins C fs)) (hl : fs.lookup m = none) (ha : EvA K δ R tA ds) (hp : (∀ q, (f (q :: R1)).Perm (q :: R)) → Φ (.r p :: ds) R1 (fun d' R' => ∃ a, d' = .r a ∧ (f R').Perm ((a, .lst es) :: R)) (fun _ _ => False)) : EvF K δ R (tMethS' C m (spD K Φ) S ta tA) es :=
  evf_eeP (ee_methN (Ek := fun _ _ _ _ => False) (N := fun d' R' => ∃ a, d' = .r a ∧ R'.Perm ((a, .lst es) :: R)) (M := fun _ _ => False) h1 hi h0 hl ha (hp fun _ => hi.new) fun _ _ _ _ z => z.elim)
theorem ev_callN (hi : Inn R1 R f) (ha : EvA K δ R tA ds) (hp : f R1 = R → Φ ds R1 (fun d' R' => d' = d ∧ f R' = R) (fun _ _ => False)) : Ev K δ R (tCallS (spD K Φ) S tA) d :=
  ev_ee (ee_callN (Ek := fun _ _ _ _ => False) (N := fun d' R' => d' = d ∧ R' = R) (M := fun _ _ => False) hi ha (hp hi.back) fun _ _ _ _ z => z.elim)
theorem evf_callN {es : List PyData} (hi : Inn R1 R f) (ha : EvA K δ R tA ds) (hp : (∀ q, (f (q :: R1)).Perm (q :: R)) → Φ ds R1 (fun d' R' => ∃ a, d' = .r a ∧ (f R').Perm ((a, .lst es) :: R)) (fun _ _ => False)) : EvF K δ R (tCallS (spD K Φ) S tA) es :=
  evf_eeP (ee_callN (Ek := fun _ _ _ _ => False) (N := fun d' R' => ∃ a, d' = .r a ∧ R'.Perm ((a, .lst es) :: R)) (M := fun _ _ => False) hi ha (hp fun _ => hi.new) fun _ _ _ _ z => z.elim)
end
/-! ### comprehensions over an own list -/
def IsItR (K : PySem.W.Frag) (J : It) (G : Hp) (R : Res) (us : List PyData) : Prop := ∀ G2 H2 : Hp, Gx G G2 → Ok K G2 H2 R → (∀ i, us.length ≤ i → J.stop i H2) ∧ ∀ (i : Nat) (u : PyData), us[i]? = some u → J.go i H2 ∧ ∀ x H', J.yld i H2 x H' → StepTo K G2 H2 x H' u
def EvIR (K : PySem.W.Frag) (δ : DEnv) (R : Res) (wi : TI) (us : List PyData) : Prop := ∀ (G H : Hp) (σ : L2.St) (Q : It → Hp → Prop), Ok K G H R → DE K G σ δ →
  (∀ J G' H', Ok K G' H' R → Le G H R G' H' R → us.length ≤ 50000 → IsItR K J G' R us → Q J H') → wi σ H Q
theorem eir_own {i : Nat} {a : Addr} {us : List PyData} (h : Ev K δ R tl (.r a)) (hi : R[i]? = some (a, .lst us)) : EvIR K δ R (iList K tl) us := fun G H σ Q ok en k => h G H σ _ ok en fun v G1 H1 ok1 l1 q1 => by
  cases (show v = .ref a from q1)
  obtain ⟨vs, e1, e2, e3⟩ := ok1.at hi
  refine ⟨a, rfl, ⟨vs, SqL.of e1⟩, k _ G1 H1 ok1 l1 (by rw [← e3.len]; exact e2) fun G2 H2 gx ok2 => ?_⟩
  obtain ⟨ws, f1, f2, f3⟩ := ok2.at hi
  have el := f3.len
  refine ⟨fun j hj => ⟨ws, SqL.of f1, by omega⟩, fun j u hu => ?_⟩
  obtain ⟨w, h1, h2⟩ := f3.getd hu
  exact ⟨⟨ws, w, SqL.of f1, h1⟩, fun x H' ⟨y1, y2⟩ => .inl ⟨y1, by
    have q := y2 ws (SqL.of f1)
    rw [h1] at q
    cases q
    exact h2⟩⟩
theorem evf_lcGR {wi : TI} {j : Nat} {vs : List Nat} {us : List PyData} (g : Nat → PyData) (hi : EvIR K δ R wi us) (hj : j ∈ vs)
    (he : ∀ (i : Nat) (u : PyData), us[i]? = some u → Ev K ((wipeD δ vs).set j (some (.d u))) R te (.d (g i))) :
    EvF K δ R (tLc wi (gName j) tYes te vs) ((List.range us.length).map g) := fun G H σ Q ok en k => hi G H σ _ ok en fun J G1 H1 ok1 l1 hlen it => by
  intro Dl hD
  let acc := fun n => (List.range n).map g
  have acc_len : ∀ n, (acc n).length ≤ n := fun n => by
    show ((List.range n).map g).length ≤ n
    simp
  have acc_yes : ∀ n, acc (n + 1) = acc n ++ [g n] := fun n => by
    show (List.range (n + 1)).map g = (List.range n).map g ++ [g n]
    rw [List.range_succ, List.map_append]
    rfl
  let W : Nat → Hp → Prop := fun n H2 => ∃ G2, Ok K G2 H2 ((Dl, .lst (acc n)) :: R) ∧ Le G H R G2 H2 ((Dl, .lst (acc n)) :: R) ∧ Gx G1 G2
  have start : W 0 (upd H1 Dl (.lst [])) := by
    obtain ⟨ok2, l2⟩ := ok1.laid (p := Dl) (o := .lst []) (q := .lst []) hD ⟨[], upd_same, Nat.zero_le _, .nil⟩
    exact ⟨G1, ok2, l1.trans l2, Gx.refl _⟩
  refine ⟨fun i m H2 => m = us.length - i ∧ i ≤ us.length ∧ W i H2, ⟨us.length, by simp, Nat.zero_le _, start⟩, ?_⟩
  rintro i m H2 ⟨rfl, hle, G2, ok2, l2, gx⟩
  obtain ⟨st, go⟩ := it G2 H2 gx (ok_pre ok2)
  by_cases hlt : i < us.length
  · obtain ⟨u, hu⟩ : ∃ u, us[i]? = some u := ⟨us[i], List.getElem?_eq_getElem hlt⟩
    obtain ⟨hg, hy⟩ := go i u hu
    refine .inr ⟨hg, W (i + 1), fun H' p => ⟨us.length - (i + 1), by omega, rfl, hlt, p⟩, fun x H3 y => ?_⟩
    obtain ⟨G3, ok3, l3, hv⟩ := (hy x H3 y).ok (ok_pre ok2)
    obtain ⟨ok3', l3'⟩ := ok_pre_whole ok2 ok3 l3
    have enw : DE K G3 (L2.wipe σ vs) (wipeD δ vs) := (en.wipe vs).mono (l2.g.trans l3.g)
    show L2.wipe ((L2.wipe σ vs).set j (some x)) vs = L2.wipe σ vs ∧ _
    refine ⟨wipe_set hj, ?_⟩
    show tYes _ _ _
    refine (et_yes (K := K)) G3 H3 _ _ ok3 (enw.set (d := .d u) hv) fun G4 H4 ok4 l4 => ?_
    obtain ⟨ok4', l4'⟩ := ok_pre_whole ok3' ok4 l4
    rw [if_pos rfl]
    refine he i u hu G4 H4 _ _ ok4 ((enw.set (d := .d u) hv).mono l4.g) fun y G5 H5 ok5 l5 q5 => ?_
    obtain ⟨ok5', l5'⟩ := ok_pre_whole ok4' ok5 l5
    obtain ⟨ws, e1, e2, e3⟩ := ok5'.at (i := 0) rfl
    have el := e3.len
    have al := acc_len i
    refine ⟨ws, e1, lim_lt e2, G5, ?_⟩
    have w := ok5'.write (i := 0) (a := Dl) (o := .lst (ws ++ [y])) (q := .lst (acc (i + 1))) rfl ⟨_, upd_same, by rw [List.length_append]; show ws.length + 1 ≤ 50000; omega, by rw [acc_yes i]; exact e3.app (.cons q5 .nil)⟩
    obtain ⟨ok6, l6⟩ := w
    exact ⟨ok6, (((l2.trans l3').trans l4').trans l5').trans l6, ((gx.trans l3.g).trans l4.g).trans l5.g⟩
  · have e : i = us.length := by omega
    subst e
    exact .inl ⟨st _ (Nat.le_refl _), k Dl G2 H2 ok2 l2⟩
/-- [None for x in an own list] and its like -/
theorem evf_lcR0 {i j : Nat} {vs : List Nat} {us : List PyData} {a : Addr} {w : PyData} (h : Ev K δ R tl (.r a)) (hi : R[i]? = some (a, .lst us)) (hj : j ∈ vs) (he : ∀ u, Ev K ((wipeD δ vs).set j (some (.d u))) R te (.d w)) :
    EvF K δ R (tLc (iList K tl) (gName j) tYes te vs) (List.replicate us.length w) :=
  evf_is (evf_lcGR (fun _ => w) (eir_own h hi) hj fun _ u _ => he u) (by rw [List.map_const', List.length_range])
/-! ### dicts keyed by tuples -/
def keyT (ks : List Key) : PyData := .tuple (ks.map keyD)
theorem Hvs.keys {G : Hp} : ∀ {ks : List Key} {vs : List V}, Hvs G vs (ks.map keyD) → vs = ks.map kV
  | [], _, h => by cases h; rfl
  | k :: ks, _, h => by
    cases h with
    | cons h1 h2 => rw [Hv.key h1, Hvs.keys h2]; rfl
theorem Hv.keyT {G : Hp} {v : V} {ks : List Key} (h : Hv G v (keyT ks)) : ∃ b, v = .ref b ∧ G b = some (.tup (ks.map kV)) := by
  cases h with
  | tup h1 h2 h3 => exact ⟨_, rfl, by rw [← h3.keys]; exact h1⟩
def valT (kvs : List (List Key × Int)) (k : List Key) : Option Int := (kvs.find? fun kv => decide (kv.1 = k)).map (·.2)
def putT (kvs : List (List Key × Int)) (k : List Key) (v : Int) : List (List Key × Int) := if (kvs.any fun kv => decide (kv.1 = k)) = true then kvs.map (fun kv => if kv.1 = k then (kv.1, v) else kv) else kvs ++ [(k, v)]
abbrev encKT (kvs : List (List Key × Int)) : List (List Key × V) := kvs.map fun p => (p.1, V.int p.2)
theorem valV_T (kvs : List (List Key × Int)) (k : List Key) : valV (encKT kvs) k = (valT kvs k).map V.int := by
  induction kvs with
  | nil => rfl
  | cons p r ih =>
    by_cases e : p.1 = k
    · have q : valT (p :: r) k = some p.2 := by simp [valT, List.find?_cons, e]
      rw [q]
      exact valV_pos e
    · have q : valT (p :: r) k = valT r k := by simp [valT, List.find?_cons, e]
      rw [q, ← ih]
      exact valV_neg e
theorem putK_T (kvs : List (List Key × Int)) (k : List Key) (v : Int) : L2.putK (encKT kvs) k (V.int v) = encKT (putT kvs k v) := by
  unfold L2.putK putT
  have e : ((encKT kvs).any fun kv => decide (kv.1 = k)) = (kvs.any fun kv => decide (kv.1 = k)) := by
    simp [encKT, List.any_map, Function.comp_def]
  rw [e]
  split
  · simp only [encKT, List.map_map]
    refine List.map_congr_left fun p _ => ?_
    show (if p.1 = k then (p.1, V.int v) else (p.1, V.int p.2)) = ((if p.1 = k then (p.1, v) else p).1, V.int (if p.1 = k then (p.1, v) else p).2)
    split <;> rfl
  · simp [encKT]
theorem ev_dgetT {i : Nat} {a : Addr} {kvs : List (List Key × Int)} {k : List Key} {n : Int} (h1 : Ev K δ R ta (.r a)) (h2 : Ev K δ R tb (.d (keyT k))) (hi : R[i]? = some (a, .dit kvs)) (hl : valT kvs k = some n) : Ev K δ R (tDGet ta tb) (.d (.int n)) := fun G H σ Q ok en kk =>
  h1 G H σ _ ok en fun v G1 H1 ok1 l1 q1 => h2 G1 H1 σ _ ok1 (en.mono l1.g) fun w G2 H2 ok2 l2 q2 => by
    cases (show v = .ref a from q1)
    obtain ⟨b, rfl, eb⟩ := Hv.keyT (show Hv G2 w (keyT k) from q2)
    obtain ⟨e, _⟩ := ok2.at hi
    have q := DGet.t (k := k) e (ok2.ex _ _ eb)
    rw [valV_T, hl] at q
    exact ⟨a, _, rfl, q, kk _ G2 H2 ok2 (l1.trans l2) (show Hv G2 _ _ from .int _)⟩
theorem ev_dinT {i : Nat} {a : Addr} {kvs : List (List Key × Int)} {k : List Key} (h2 : Ev K δ R tb (.d (keyT k))) (h1 : Ev K δ R ta (.r a)) (hi : R[i]? = some (a, .dit kvs)) : Ev K δ R (tDIn tb ta) (.d (.bool (valT kvs k).isSome)) := fun G H σ Q ok en kk =>
  h2 G H σ _ ok en fun w G1 H1 ok1 l1 q1 => h1 G1 H1 σ _ ok1 (en.mono l1.g) fun v G2 H2 ok2 l2 q2 => by
    cases (show v = .ref a from q2)
    obtain ⟨b, rfl, eb⟩ := Hv.keyT (show Hv G1 w (keyT k) from q1)
    obtain ⟨e, _⟩ := ok2.at hi
    refine ⟨a, _, rfl, DGet.t (k := k) e (ok2.ex _ _ (l2.g _ _ eb)), ?_⟩
    rw [valV_T, Option.isSome_map]
    exact kk _ G2 H2 ok2 (l1.trans l2) (show Hv G2 _ _ from .bl _)
theorem putT_len (kvs : List (List Key × Int)) (k : List Key) (v : Int) : (putT kvs k v).length ≤ kvs.length + 1 := by
  unfold putT
  split
  · simp
  · simp
theorem x_dputT {i : Nat} {a : Addr} {kvs : List (List Key × Int)} {k : List Key} {n : Int} (h : Ev K δ R te (.d (.int n))) (h1 : Ev K δ R ta (.r a)) (h2 : Ev K δ R tb (.d (keyT k))) (hi : R[i]? = some (a, .dit kvs)) (hz : kvs.length < 50000) (nx : P.nx δ (R.set i (a, .dit (putT kvs k n)))) :
    XS K Ek δ R (sDPut ta tb te) P := fun G H σ D ok en c => h G H σ _ ok en fun u G1 H1 ok1 l1 q1 => h1 G1 H1 σ _ ok1 (en.mono l1.g) fun v G2 H2 ok2 l2 q2 => h2 G2 H2 σ _ ok2 ((en.mono l1.g).mono l2.g) fun x G3 H3 ok3 l3 q3 => by
  cases (show v = .ref a from q2)
  cases (show Hv G1 u (.int n) from q1)
  obtain ⟨b, rfl, eb⟩ := Hv.keyT (show Hv G3 x (keyT k) from q3)
  obtain ⟨e, hl⟩ := ok3.at hi
  have pl := putT_len kvs k n
  have pq : DPut H3 a (.ref b) (V.int n) (upd H3 a (.dT (encKT (putT kvs k n)))) := by
    rw [← putK_T]
    exact DPut.t e (ok3.ex _ _ eb) (by rw [List.length_map]; exact lim_lt (Nat.le_of_lt hz))
  obtain ⟨ok4, l4⟩ := ok3.write (o := .dT (encKT (putT kvs k n))) (q := .dit (putT kvs k n)) hi ⟨upd_same, by omega⟩
  exact ⟨a, _, rfl, pq, c.nx δ _ σ _ _ nx ok4 (((l1.trans l2).trans l3).trans l4) ((((en.mono l1.g).mono l2.g).mono l3.g).mono l4.g)⟩
/-- x = {}, a dict that is keyed by tuples -/
theorem x_asgNT {i : Nat} (n : ∀ a, P.nx (δ.set i (some (.r a))) ((a, .dit []) :: R)) : XS K Ek δ R (tAsg tDNewT (gName i)) P := fun G H σ D ok en c => by
  intro p hp
  obtain ⟨ok1, l1⟩ := ok.laid (o := .dT []) (q := .dit []) hp ⟨upd_same, Nat.zero_le _⟩
  exact c.nx _ _ _ _ _ (n p) ok1 l1 ((en.mono l1.g).set (d := .r p) rfl)
end
/-! ### text * int -/
def repS (z : Str) (n : Nat) : Str := ⟨(List.replicate n z.cps.toList).flatten.toArray⟩
theorem rep_fold (z : Array Nat) : ∀ (n : Nat) (acc : Array Nat), (List.replicate n z).foldl (· ++ ·) acc = (acc.toList ++ (List.replicate n z.toList).flatten).toArray
  | 0, acc => by simp
  | n + 1, acc => by
    rw [List.replicate_succ, List.foldl_cons, rep_fold z n (acc ++ z), List.replicate_succ, List.flatten_cons]
    simp
theorem repS_len (z : Str) (n : Nat) : (repS z n).length = n * z.length := by
  show ((List.replicate n z.cps.toList).flatten.toArray).size = n * z.cps.size
  rw [List.size_toArray, List.length_flatten, List.map_replicate, List.sum_replicate_nat, Array.length_toList]
def rRepS : R2 := fun x y H Q => ∃ (z : Str) (n : Int), x = .str z ∧ y = .int n ∧ 2 ≤ n ∧ n ≤ 1000 ∧ 1 ≤ z.length ∧ z.length ≤ 10 ∧ Q (.str (repS z n.toNat)) H
theorem op_repS {X : Cx} : OpR X (binaryOp .Mult) rRepS := by
  intro pins s σ H x y v u Q I rx ry h
  obtain ⟨z, n, rfl, rfl, h1, h2, h3, h4, q⟩ := h
  obtain ⟨t, rfl⟩ := rx
  obtain ⟨t', rfl⟩ := ry
  have e1 : ¬ n < 1 := by omega
  have e2 : (n == 1 || z.length == 0) = false := by
    rw [Bool.or_eq_false_iff]
    exact ⟨beq_eq_false_iff_ne.mpr (by omega), beq_eq_false_iff_ne.mpr (by omega)⟩
  have hb : n.toNat * z.length ≤ 10000 := Nat.le_trans (Nat.mul_le_mul (show n.toNat ≤ 1000 by omega) h4) (by decide)
  have hz : z.length * n.toNat ≤ 10000 := by rw [Nat.mul_comm]; exact hb
  refine PySem.P.mul_str ?_ (fun _ _ => ?_) (fun _ _ => ?_) ?_
  · rw [decide_eq_false (show ¬ n < -(2 ^ 63 : Int) by omega), decide_eq_false (show ¬ n ≥ 2 ^ 63 by omega)]
    rfl
  · have d : (100 : Int) ≤ (2 ^ 63 - 1) / n := (Int.le_ediv_iff_mul_le (by omega)).mpr (by omega)
    omega
  · show decide (z.length * n.toNat > sizeLine) = false
    rw [decide_eq_false_iff_not]
    exact Nat.not_lt.mpr (lim_le (by omega))
  · rw [if_neg e1, e2, if_neg Bool.false_ne_true]
    have ef : (⟨(List.replicate n.toNat z.cps).foldl (· ++ ·) #[]⟩ : Str) = repS z n.toNat := by
      rw [rep_fold]
      rfl
    rw [ef]
    refine ⟨?_, ⟨.str _, H, I.tok _, ⟨_, rfl⟩, q⟩⟩
    rw [repS_len]
    exact lim_le (by omega)
theorem rv_repS {K : PySem.W.Frag} {R : Res} {z : Str} {n : Int} (h : 2 ≤ n ∧ n ≤ 1000) (hz : 1 ≤ z.length ∧ z.length ≤ 10) : RV K R rRepS (.d (.str z)) (.d (.int n)) (.d (.str (repS z n.toNat))) := fun G H v w Q ok h1 h2 k => by
  cases (show Hv G v (.str z) from h1)
  cases (show Hv G w (.int n) from h2)
  exact ⟨z, n, rfl, rfl, h.1, h.2, hz.1, hz.2, k _ G H ok .refl (show Hv G _ _ from .str _)⟩
/-! ### a suite that speaks of one class -/
def tG (p : Prop) (t : TS) : TS := fun D σ H => p ∧ t D σ H
theorem pss_g {X : Cx} {ss : List Stmt} {p : Prop} {t : TS} (f : p → PSs X ss t) : PSs X ss (tG p t) := ⟨fun pins s σ H D I h => (f h.1).run pins s σ H D I h.2⟩
theorem x_g {K : PySem.W.Frag} {Ek : WX} {δ : DEnv} {R : Res} {t : TS} {P : Post} {p : Prop} (hp : p) (h : XS K Ek δ R t P) : XS K Ek δ R (tG p t) P := fun G H σ D ok en c => ⟨hp, h G H σ D ok en c⟩
theorem zc_of {c cE : Value} {xE : Option Addr} {o : Obj} (h : cE = c ∧ xE = none) (z : Zc cE xE o) : Zc c none o := by
  obtain ⟨rfl, rfl⟩ := h
  exact z
/-! ### isinstance of an error, by what k_is can tell -/
theorem kit_ref {K : PySem.W.Frag} {C : Addr} {t : Value} {b : Bool} (hd : PySem.W.hasDictIn K C = true) (ht : PySem.W.typeIn K (.ref C) = some (.type "type")) (h4 : PySem.W.subIn K t (.ref C) = some b) (hself : PySem.W.subIn K t t = some true) : PySem.W.kitOne K t (.ref C) = some b := by
  obtain ⟨cd, hc, _⟩ := PySem.W.any_some hd
  unfold PySem.W.kitOne
  split
  · rename_i e
    have e' : t = .ref C := beq_iff_eq.mp e
    rw [← e', hself] at h4
    exact h4
  · have e2 : ((PySem.W.clsIn K C).isSome && PySem.W.typeIn K (.ref C) == some (.type "type")) = true := by rw [hc, ht] <;> rfl
    show (if ((PySem.W.clsIn K C).isSome && PySem.W.typeIn K (.ref C) == some (.type "type")) = true then PySem.W.subIn K t (.ref C) else none) = some b
    rw [if_pos e2]
    exact h4
theorem kit_tyE {K : PySem.W.Frag} {C : Addr} {b : Bool} (h : PySem.W.subIn K (.ref C) (.type "ValueError") = some b) : PySem.W.kitOne K (.ref C) (.type "ValueError") = some b := by
  unfold PySem.W.kitOne
  rw [if_neg (by intro z; have := beq_iff_eq.mp z; cases this)]
  show (if PySem.W.kitMeta "ValueError" = true then PySem.W.subIn K (.ref C) (.type "ValueError") else none) = some b
  rw [if_pos (by decide +kernel)]
  exact h
/-! ### expressions that change what is owned -/
section
variable {K : PySem.W.Frag} {Ek : WX} {R : Res} {δ : DEnv} {ta tb tc te : TE} {x y z : D} {r : R2} {P : Post} {N N1 N' : D → Res → Prop} {M M' : Value → Res → Prop}
theorem ee_op (ha : Ev K δ R ta x) (hb : EvE K Ek δ R tb N1 M) (hr : ∀ d R', N1 d R' → ∃ z, RV K R' r x d z ∧ N z R') : EvE K Ek δ R (tOp r ta tb) N M := fun G H σ Q ok en k j =>
  ha G H σ _ ok en fun v G1 H1 ok1 l1 h1 => hb G1 H1 σ _ ok1 (en.mono l1.g) (fun d R' w G2 H2 n ok2 l2 h2 => by
    obtain ⟨z, rv, nz⟩ := hr d R' n
    exact rv G2 H2 v w Q ok2 (h1.mono l2.g) h2 fun u G3 H3 ok3 l3 h3 => k z R' u G3 H3 nz ok3 ((l1.trans l2).trans l3) h3) fun c R' G2 H2 m ok2 l2 => j c R' G2 H2 m ok2 (l1.trans l2)
theorem x_appE {i : Nat} {a : Addr} {ds : List PyData} (h1 : Ev K δ R ta (.r a)) (hi : R[i]? = some (a, .lst ds)) (h : EvE K Ek δ R te N M)
    (n : ∀ d R', N d R' → ∃ w i' ds', d = .d w ∧ R'[i']? = some (a, .lst ds') ∧ ds'.length < 50000 ∧ P.nx δ (R'.set i' (a, .lst (ds' ++ [w])))) (m : ∀ c R', M c R' → P.xe c δ R') :
    XS K Ek δ R (tDrop (tBM K "list" rAppend ta (tCons te tNil))) P := fun G H σ D ok en c => h1 G H σ _ ok en fun v G1 H1 ok1 l1 q1 => by
  cases (show v = .ref a from q1)
  obtain ⟨ws, e1, _, _⟩ := ok1.at hi
  refine ⟨.inl ⟨rfl, ws, SqL.of e1⟩, h G1 H1 σ _ ok1 (en.mono l1.g) (fun d R' u G2 H2 nn ok2 l2 q2 => ?_) fun e R' G2 H2 mm ok2 l2 => c.xe e δ R' σ G2 H2 (m e R' mm) ok2 (l1.trans l2) ((en.mono l1.g).mono l2.g)⟩
  obtain ⟨w, i', ds', rfl, hi', hz, nx⟩ := n d R' nn
  obtain ⟨vs, e2, e3, e4⟩ := ok2.at hi'
  have el := e4.len
  refine ⟨a, vs, u, rfl, rfl, e2, lim_lt e3, ?_⟩
  obtain ⟨ok3, l3⟩ := ok2.write (o := .lst (vs ++ [u])) (q := .lst (ds' ++ [w])) hi' ⟨_, upd_same, by rw [List.length_append]; show vs.length + 1 ≤ 50000; omega, e4.app (.cons q2 .nil)⟩
  exact c.nx δ _ σ _ _ nx ok3 ((l1.trans l2).trans l3) (((en.mono l1.g).mono l2.g).mono l3.g)
theorem EvE.sub (h : EvE K Ek δ R te N M) (n : ∀ d R', N d R' → ∃ R0, R0.Sublist R' ∧ N' d R0) (m : ∀ c R', M c R' → ∃ R0, R0.Sublist R' ∧ M' c R0) : EvE K Ek δ R te N' M' := fun G H σ Q ok en k j =>
  h G H σ Q ok en (fun d R' v G' H' q ok' le hv => by
    obtain ⟨R0, s, q'⟩ := n d R' q
    exact k d R0 v G' H' q' (ok'.sub (fun p hp => s.subset hp) (ok'.nd.sublist (s.map _))) (le.subR fun p hp => s.subset hp) hv) fun c R' G' H' q ok' le => by
    obtain ⟨R0, s, q'⟩ := m c R' q
    exact j c R0 G' H' q' (ok'.sub (fun p hp => s.subset hp) (ok'.nd.sublist (s.map _))) (le.subR fun p hp => s.subset hp)
/-- f(a, b, c, {}) -/
theorem ee_call4T {S : L2.St → XK} {Φ : Fn} (h1 : Ev K δ R ta x) (h2 : Ev K δ R tb y) (h3 : Ev K δ R tc z) (hp : ∀ a, Φ [x, y, z, .r a] [(a, .dit [])] (fun d R' => N d (R' ++ R)) (fun c R' => M c (R' ++ R))) (hE : ∀ c R' σ H', M c R' → Ek c none σ H' → S σ c none H') :
    EvE K Ek δ R (tCallS (spD K Φ) S (tCons ta (tCons tb (tCons tc (tCons tDNewT tNil))))) N M := fun G H σ Q ok en k j =>
  h1 G H σ _ ok en fun v1 G1 H1 ok1 l1 q1 => h2 G1 H1 σ _ ok1 (en.mono l1.g) fun v2 G2 H2 ok2 l2 q2 => h3 G2 H2 σ _ ok2 ((en.mono l1.g).mono l2.g) fun v3 G3 H3 ok3 l3 q3 => fun p hp' => by
    obtain ⟨ok4, l4⟩ := ok3.laid (o := .dT []) (q := .dit []) hp' ⟨upd_same, Nat.zero_le _⟩
    have ok4' : Ok K G3 (upd H3 p (.dT [])) ([] ++ [(p, RO.dit [])] ++ R) := ok4
    refine ⟨G3, [x, y, z, .r p], [(p, .dit [])], _, _, .cons (q1.mono (l2.g.trans l3.g)) (.cons (q2.mono l3.g) (.cons q3 (.cons rfl .nil))), ok4'.part, hp p, fun d R' v G' H' n ok' le hv => ?_, fun c R' G' H' m ok' le => ?_⟩
    · obtain ⟨ok5, l5⟩ := ok4'.whole ok' le
      exact k d _ v G' H' n ok5 ((((l1.trans l2).trans l3).trans l4).trans l5) hv
    · obtain ⟨ok5, l5⟩ := ok4'.whole ok' le
      exact hE c _ σ H' m (j c _ G' H' m ok5 ((((l1.trans l2).trans l3).trans l4).trans l5))
end
/-- return, and some of what is owned is let fall -/
theorem x_retS {K : PySem.W.Frag} {Ek : WX} {R R0 : Res} {δ : DEnv} {te : TE} {d : D} {P : Post} (h : Ev K δ R te d) (s : R0.Sublist R) (n : P.rt d R0) : XS K Ek δ R (tRet te) P := fun G H σ D ok en c =>
  h G H σ _ ok en fun v G' H' ok' le hv => c.rt d R0 v G' H' n (ok'.sub (fun p hp => s.subset hp) (ok'.nd.sublist (s.map _))) (le.subR fun p hp => s.subset hp) hv
/-! ### an own list is let go -/
section
variable {K : PySem.W.Frag} {Ek : WX} {G H : Hp} {R : Res} {δ : DEnv} {t : TS} {P : Post} {a : Addr} {ds : List PyData}
theorem Ok.frz (ok : Ok K G H ((a, .lst ds) :: R)) : ∃ G', Ok K G' H R ∧ Le G H ((a, .lst ds) :: R) G' H R ∧ Hv G' (.ref a) (.list ds) ∧ Gx G G' := by
  obtain ⟨ng, vs, e, hl, hv⟩ := ok.own _ List.mem_cons_self
  have nd : (a :: adr R).Nodup := ok.nd
  obtain ⟨nd1, nd2⟩ := List.nodup_cons.mp nd
  refine ⟨upd G a (.lst vs), ⟨fun b u q => ?_, fun y hy => ?_, nd2⟩, ⟨Gx.new ng, fun b o q _ => q, fun b q => ?_, fun b m => .inl (List.mem_cons_of_mem _ m), fun b q => q⟩, .lst upd_same hl (Hvs.mono (Gx.new ng) ds hv), Gx.new ng⟩
  · by_cases z : b = a
    · subst z; rw [upd_same] at q; cases q; exact e
    · rw [upd_ne z] at q; exact ok.ex b u q
  · obtain ⟨h1, h2⟩ := ok.own y (List.mem_cons_of_mem _ hy)
    have z : y.1 ≠ a := fun z => nd1 (z ▸ List.mem_map.mpr ⟨y, hy, rfl⟩)
    exact ⟨by rw [upd_ne z]; exact h1, Own1.mono (Gx.new ng) (fun _ q => q) h2⟩
  · by_cases z : b = a
    · subst z; exact .inr (.inr List.mem_cons_self)
    · rw [upd_ne z] at q; exact .inl q
theorem x_frz {i : Nat} (hi : δ[i]? = some (some (.r a))) (h : XS K Ek (δ.set i (some (.d (.list ds)))) R t P) : XS K Ek δ ((a, .lst ds) :: R) t P := fun G H σ D ok en c => by
  obtain ⟨G', ok', le, hv, gx⟩ := ok.frz
  obtain ⟨v, e, q⟩ := en.get i _ hi
  cases (show v = .ref a from q)
  refine h G' H σ D ok' ⟨by rw [List.length_set]; exact en.len, fun j d hj => ?_⟩ (c.mono le)
  by_cases z : i = j
  · subst z
    obtain ⟨hlt, _⟩ := List.getElem?_eq_some_iff.mp hi
    rw [List.getElem?_set_self hlt] at hj
    cases hj
    exact ⟨_, e, hv⟩
  · rw [List.getElem?_set_ne z] at hj
    exact (en.mono gx).get j d hj
end
/-- two statements with a word of what holds between -/
theorem x_seqM {K : PySem.W.Frag} {Ek : WX} {R : Res} {δ : DEnv} {t u : TS} {P : Post} (I : DEnv → Res → Prop) (h : XS K Ek δ R t { P with nx := I }) (k : ∀ δ' R', I δ' R' → XS K Ek δ' R' u P) : XS K Ek δ R (tSeq t u) P :=
  x_seq (h.post k (fun _ _ q => q) (fun _ _ q => q) (fun _ _ q => q) fun _ _ _ q => q)
end Fl
namespace Fl
open PySem PySem.Spec PyProof.Rows L2
/-! A flight, and the plain model beside it, as owned objects. -/
structure Fs where
  high : List Bool
  sides : List Bool
  places : List (Int × Int)
  done : List Int
  taken : Int
  given : Int
/-- where the parts stand -/
structure Fa where
  f : Addr
  h : Addr
  s : Addr
  p : Addr
  d : Addr
abbrev Pl := List (Int × Int)
def plc (ps : Pl) (b : Int) : Option Int := (ps.find? fun q => decide (q.1 = b)).map (·.2)
def pput (ps : Pl) (b v : Int) : Pl := if (ps.any fun q => decide (q.1 = b)) = true then ps.map (fun q => if q.1 = b then (q.1, v) else q) else ps ++ [(b, v)]
def pdrop (ps : Pl) (b : Int) : Pl := ps.filter fun q => decide (q.1 ≠ b)
def encP (ps : Pl) : List (Key × D) := ps.map fun q => (.inl q.1, .d (.int q.2))
theorem dec_inl (x b : Int) : decide ((Sum.inl x : Key) = .inl b) = decide (x = b) := by
  rw [Bool.eq_iff_iff, decide_eq_true_eq, decide_eq_true_eq]
  exact ⟨Sum.inl.inj, fun h => by rw [h]⟩
theorem valD_P (ps : Pl) (b : Int) : valD (encP ps) (.inl b) = (plc ps b).map fun v => .d (.int v) := by
  unfold valD encP plc
  rw [List.find?_map]
  have e : ((fun kv : Key × D => decide (kv.1 = (.inl b : Key))) ∘ fun q : Int × Int => ((.inl q.1 : Key), D.d (.int q.2))) = fun q : Int × Int => decide (q.1 = b) := by
    funext q
    exact dec_inl q.1 b
  rw [e]
  cases ps.find? (fun q => decide (q.1 = b)) <;> rfl
theorem putD_P (ps : Pl) (b v : Int) : putD (encP ps) (.inl b) (.d (.int v)) = encP (pput ps b v) := by
  have e : ((encP ps).any fun kv => decide (kv.1 = (.inl b : Key))) = (ps.any fun q => decide (q.1 = b)) := by
    unfold encP
    rw [List.any_map]
    congr 1
    funext q
    exact dec_inl q.1 b
  unfold putD pput
  rw [e]
  split
  · unfold encP
    rw [List.map_map, List.map_map]
    refine List.map_congr_left fun q _ => ?_
    show (if (Sum.inl q.1 : Key) = .inl b then _ else _) = ((.inl (if q.1 = b then (q.1, v) else q).1 : Key), D.d (.int (if q.1 = b then (q.1, v) else q).2))
    by_cases h : q.1 = b
    · rw [if_pos (by rw [h]), if_pos h]
    · rw [if_neg (fun z => h (Sum.inl.inj z)), if_neg h]
  · unfold encP
    rw [List.map_append]; rfl
theorem dropD_P (ps : Pl) (b : Int) : dropD (encP ps) (.inl b) = encP (pdrop ps b) := by
  unfold dropD encP pdrop
  rw [List.filter_map]
  congr 1
  refine List.filter_congr fun q _ => ?_
  show decide ((Sum.inl q.1 : Key) ≠ .inl b) = decide (q.1 ≠ b)
  rw [Bool.eq_iff_iff, decide_eq_true_eq, decide_eq_true_eq]
  exact ⟨fun h z => h (by rw [z]), fun h z => h (Sum.inl.inj z)⟩
theorem encP_keys (ps : Pl) : ((encP ps).map fun kv => keyD kv.1) = (ps.map (·.1)).map PyData.int := by
  unfold encP
  rw [List.map_map, List.map_map]; rfl
theorem encP_len (ps : Pl) : (encP ps).length = ps.length := by simp [encP]
def fldF (a : Fa) (S : Fs) : List (Str × D) := [("high", .r a.h), ("sides", .r a.s), ("places", .r a.p), ("done", .r a.d), ("taken", .d (.int S.taken)), ("given", .d (.int S.given))]
def flR (C : Addr) (a : Fa) (S : Fs) : Res := [(a.f, .ins C (fldF a S)), (a.h, .lst (S.high.map .bool)), (a.s, .lst (S.sides.map sd)), (a.p, .dic (encP S.places)), (a.d, .lst (S.done.map .int))]
def dicF (a : Fa) (S : Fs) : List (Key × D) := [(.inr "high", .r a.h), (.inr "sides", .r a.s), (.inr "places", .r a.p), (.inr "through", .r a.d), (.inr "drawn", .d (.int S.taken)), (.inr "out", .d (.int S.given))]
def stR (a : Fa) (S : Fs) : Res := [(a.f, .dic (dicF a S)), (a.h, .lst (S.high.map .bool)), (a.s, .lst (S.sides.map sd)), (a.p, .dic (encP S.places)), (a.d, .lst (S.done.map .int))]
/-! ### where it stands in what is owned -/
theorem Inn.sub {X R : Res} {f : Res → Res} (h : Inn X R f) {p : Addr × RO} (m : p ∈ X) : p ∈ R := by
  obtain ⟨A, B, rfl, _⟩ := h.eq
  simp [m]
section
variable {C : Addr} {a : Fa} {S : Fs} {R : Res} {f : Res → Res}
theorem fl_f (h : Inn (flR C a S) R f) : (a.f, RO.ins C (fldF a S)) ∈ R := h.sub (by simp [flR])
theorem fl_h (h : Inn (flR C a S) R f) : (a.h, RO.lst (S.high.map .bool)) ∈ R := h.sub (by simp [flR])
theorem fl_s (h : Inn (flR C a S) R f) : (a.s, RO.lst (S.sides.map sd)) ∈ R := h.sub (by simp [flR])
theorem fl_p (h : Inn (flR C a S) R f) : (a.p, RO.dic (encP S.places)) ∈ R := h.sub (by simp [flR])
theorem fl_d (h : Inn (flR C a S) R f) : (a.d, RO.lst (S.done.map .int)) ∈ R := h.sub (by simp [flR])
theorem st_f (h : Inn (stR a S) R f) : (a.f, RO.dic (dicF a S)) ∈ R := h.sub (by simp [stR])
theorem st_h (h : Inn (stR a S) R f) : (a.h, RO.lst (S.high.map .bool)) ∈ R := h.sub (by simp [stR])
theorem st_s (h : Inn (stR a S) R f) : (a.s, RO.lst (S.sides.map sd)) ∈ R := h.sub (by simp [stR])
theorem st_p (h : Inn (stR a S) R f) : (a.p, RO.dic (encP S.places)) ∈ R := h.sub (by simp [stR])
theorem st_d (h : Inn (stR a S) R f) : (a.d, RO.lst (S.done.map .int)) ∈ R := h.sub (by simp [stR])
end
theorem Ls.mem {R : Res} {a : Addr} {ds : List PyData} (h : (a, RO.lst ds) ∈ R) : Ls R (.r a) ds := by
  obtain ⟨i, hi⟩ := List.getElem?_of_mem h
  exact .own hi
theorem Vw.mem {R : Res} {a : Addr} {ds : List PyData} (h : (a, RO.lst ds) ∈ R) : Vw R (.r a) (.list ds) := by
  obtain ⟨i, hi⟩ := List.getElem?_of_mem h
  exact .own hi
/-! ### attributes -/
structure Fx (K : PySem.W.Frag) (A : Ad) : Prop where
  cl : Cls K A.C
  high : NoAttr K A.C "high"
  sides : NoAttr K A.C "sides"
  places : NoAttr K A.C "places"
  done : NoAttr K A.C "done"
  taken : NoAttr K A.C "taken"
  given : NoAttr K A.C "given"
section
variable {a : Fa} {S : Fs}
theorem lk_high : (fldF a S).lookup ("high" : Str) = some (.r a.h) := rfl
theorem lk_sides : (fldF a S).lookup ("sides" : Str) = some (.r a.s) := rfl
theorem lk_places : (fldF a S).lookup ("places" : Str) = some (.r a.p) := rfl
theorem lk_done : (fldF a S).lookup ("done" : Str) = some (.r a.d) := rfl
theorem lk_taken : (fldF a S).lookup ("taken" : Str) = some (.d (.int S.taken)) := rfl
theorem lk_given : (fldF a S).lookup ("given" : Str) = some (.d (.int S.given)) := rfl
theorem dv_high : valD (dicF a S) (.inr "high") = some (.r a.h) := rfl
theorem dv_sides : valD (dicF a S) (.inr "sides") = some (.r a.s) := rfl
theorem dv_places : valD (dicF a S) (.inr "places") = some (.r a.p) := rfl
theorem dv_through : valD (dicF a S) (.inr "through") = some (.r a.d) := rfl
theorem dv_drawn : valD (dicF a S) (.inr "drawn") = some (.d (.int S.taken)) := rfl
theorem dv_out : valD (dicF a S) (.inr "out") = some (.d (.int S.given)) := rfl
theorem pt_taken {t : Int} : putFD "taken" (.d (.int t)) (fldF a S) = fldF a { S with taken := t } := rfl
theorem pt_given {t : Int} : putFD "given" (.d (.int t)) (fldF a S) = fldF a { S with given := t } := rfl
theorem dp_drawn {t : Int} : putD (dicF a S) (.inr "drawn") (.d (.int t)) = dicF a { S with taken := t } := rfl
theorem dp_out {t : Int} : putD (dicF a S) (.inr "out") (.d (.int t)) = dicF a { S with given := t } := rfl
end
/-! ### what attributes and entries are worth -/
section
variable {K : PySem.W.Frag} {A : Ad} {δ : DEnv} {R : Res} {f : Res → Res} {a : Fa} {S : Fs} {te tb : TE}
theorem ev_fldM {p C : Addr} {fs : List (Str × D)} {n : Str} {d : D} (h : Ev K δ R te (.r p)) (hm : (p, RO.ins C fs) ∈ R) (hl : fs.lookup n = some d) (hc : Cls K C) (hn : NoAttr K C n) : Ev K δ R (tFld K te n) d := by
  obtain ⟨i, hi⟩ := List.getElem?_of_mem hm
  exact ev_fld h hi hl hc hn
theorem ev_dgetM {p : Addr} {kvs : List (Key × D)} {k : Key} {d : D} (h1 : Ev K δ R te (.r p)) (h2 : Ev K δ R tb (.d (keyD k))) (hm : (p, RO.dic kvs) ∈ R) (hl : valD kvs k = some d) : Ev K δ R (tDGet te tb) d := by
  obtain ⟨i, hi⟩ := List.getElem?_of_mem hm
  exact ev_dget h1 h2 hi hl
theorem f_high (fx : Fx K A) (h : Ev K δ R te (.r a.f)) (hi : Inn (flR A.C a S) R f) : Ev K δ R (tFld K te "high") (.r a.h) := ev_fldM h (fl_f hi) lk_high fx.cl fx.high
theorem f_sides (fx : Fx K A) (h : Ev K δ R te (.r a.f)) (hi : Inn (flR A.C a S) R f) : Ev K δ R (tFld K te "sides") (.r a.s) := ev_fldM h (fl_f hi) lk_sides fx.cl fx.sides
theorem f_places (fx : Fx K A) (h : Ev K δ R te (.r a.f)) (hi : Inn (flR A.C a S) R f) : Ev K δ R (tFld K te "places") (.r a.p) := ev_fldM h (fl_f hi) lk_places fx.cl fx.places
theorem f_done (fx : Fx K A) (h : Ev K δ R te (.r a.f)) (hi : Inn (flR A.C a S) R f) : Ev K δ R (tFld K te "done") (.r a.d) := ev_fldM h (fl_f hi) lk_done fx.cl fx.done
theorem f_taken (fx : Fx K A) (h : Ev K δ R te (.r a.f)) (hi : Inn (flR A.C a S) R f) : Ev K δ R (tFld K te "taken") (.d (.int S.taken)) := ev_fldM h (fl_f hi) lk_taken fx.cl fx.taken
theorem f_given (fx : Fx K A) (h : Ev K δ R te (.r a.f)) (hi : Inn (flR A.C a S) R f) : Ev K δ R (tFld K te "given") (.d (.int S.given)) := ev_fldM h (fl_f hi) lk_given fx.cl fx.given
theorem d_high (h : Ev K δ R te (.r a.f)) (hi : Inn (stR a S) R f) : Ev K δ R (tDGet te (tC (.str "high"))) (.r a.h) := ev_dgetM (k := .inr "high") h ev_str (st_f hi) dv_high
theorem d_sides (h : Ev K δ R te (.r a.f)) (hi : Inn (stR a S) R f) : Ev K δ R (tDGet te (tC (.str "sides"))) (.r a.s) := ev_dgetM (k := .inr "sides") h ev_str (st_f hi) dv_sides
theorem d_places (h : Ev K δ R te (.r a.f)) (hi : Inn (stR a S) R f) : Ev K δ R (tDGet te (tC (.str "places"))) (.r a.p) := ev_dgetM (k := .inr "places") h ev_str (st_f hi) dv_places
theorem d_through (h : Ev K δ R te (.r a.f)) (hi : Inn (stR a S) R f) : Ev K δ R (tDGet te (tC (.str "through"))) (.r a.d) := ev_dgetM (k := .inr "through") h ev_str (st_f hi) dv_through
theorem d_drawn (h : Ev K δ R te (.r a.f)) (hi : Inn (stR a S) R f) : Ev K δ R (tDGet te (tC (.str "drawn"))) (.d (.int S.taken)) := ev_dgetM (k := .inr "drawn") h ev_str (st_f hi) dv_drawn
theorem d_out (h : Ev K δ R te (.r a.f)) (hi : Inn (stR a S) R f) : Ev K δ R (tDGet te (tC (.str "out"))) (.d (.int S.given)) := ev_dgetM (k := .inr "out") h ev_str (st_f hi) dv_out
/-- places[b] -/
theorem d_plc {p : Addr} {ps : Pl} {b v : Int} (h1 : Ev K δ R te (.r p)) (h2 : Ev K δ R tb (.d (.int b))) (hm : (p, RO.dic (encP ps)) ∈ R) (hl : plc ps b = some v) : Ev K δ R (tDGet te tb) (.d (.int v)) :=
  ev_dgetM (k := .inl b) h1 h2 hm (by rw [valD_P, hl]; rfl)
theorem d_nin {p : Addr} {ps : Pl} {b : Int} (h2 : Ev K δ R tb (.d (.int b))) (h1 : Ev K δ R te (.r p)) (hm : (p, RO.dic (encP ps)) ∈ R) : Ev K δ R (tDNotIn tb te) (.d (.bool (!(plc ps b).isSome))) := by
  obtain ⟨i, hi⟩ := List.getElem?_of_mem hm
  refine ev_is (ev_dnotin (k := .inl b) h2 h1 hi) ?_
  rw [valD_P, Option.isSome_map]
theorem d_in {p : Addr} {ps : Pl} {b : Int} (h2 : Ev K δ R tb (.d (.int b))) (h1 : Ev K δ R te (.r p)) (hm : (p, RO.dic (encP ps)) ∈ R) : Ev K δ R (tDIn tb te) (.d (.bool (plc ps b).isSome)) := by
  obtain ⟨i, hi⟩ := List.getElem?_of_mem hm
  refine ev_is (ev_din (k := .inl b) h2 h1 hi) ?_
  rw [valD_P, Option.isSome_map]
/-- list(places) -/
theorem f_keys {p : Addr} {ps : Pl} (h : Ev K δ R te (.r p)) (hm : (p, RO.dic (encP ps)) ∈ R) : EvF K δ R (tCB rListD (tCons te tNil)) ((ps.map (·.1)).map .int) := by
  obtain ⟨i, hi⟩ := List.getElem?_of_mem hm
  exact evf_is (evf_listD h hi) (encP_keys ps)
/-- xs[i] of an own list -/
theorem ev_at {p : Addr} {α : Type} {g : α → PyData} {xs : List α} {i : Int} {e : α} (h1 : Ev K δ R te (.r p)) (h2 : Ev K δ R tb (.d (.int i))) (hm : (p, RO.lst (xs.map g)) ∈ R) (ha : atI xs i = some e) : Ev K δ R (tOp (rIx K) te tb) (.d (g e)) := ev_op h1 h2 (rv_ixLM (.mem hm) ha)
end
end Fl
namespace Fl
open PySem PySem.Spec PyProof.Rows L2
/-! ### deeds on the flight -/
section
variable {K : PySem.W.Frag} {Ek : WX} {A : Ad} {δ : DEnv} {P : Post} {a : Fa} {S : Fs} {te ta tb : TE}
/-- high[g] = b -/
theorem xf_high {g : Int} {b : Bool} {j : Nat} (h : Ev K δ (flR A.C a S) te (.d (.bool b))) (h1 : Ev K δ (flR A.C a S) ta (.r a.h)) (h2 : Ev K δ (flR A.C a S) tb (.d (.int g))) (hj : ixN S.high.length g = some j) (n : P.nx δ (flR A.C a { S with high := S.high.set j b })) :
    XS K Ek δ (flR A.C a S) (tAsg te (gSub ta tb rSetL)) P := by
  refine x_setL (i := 1) (j := j) h h1 h2 rfl (by rw [List.length_map]; exact hj) ?_
  rw [← List.map_set]
  exact n
theorem xf_sides {u : Bool} (h1 : Ev K δ (flR A.C a S) ta (.r a.s)) (h : Ev K δ (flR A.C a S) te (.d (sd u))) (hz : S.sides.length < 50000) (n : P.nx δ (flR A.C a { S with sides := S.sides ++ [u] })) :
    XS K Ek δ (flR A.C a S) (tDrop (tBM K "list" rAppend ta (tCons te tNil))) P := by
  refine x_app (i := 2) h1 rfl h (by rw [List.length_map]; exact hz) ?_
  have e : S.sides.map sd ++ [sd u] = (S.sides ++ [u]).map sd := by rw [List.map_append]; rfl
  rw [e]
  exact n
theorem xf_done {b : Int} (h1 : Ev K δ (flR A.C a S) ta (.r a.d)) (h : Ev K δ (flR A.C a S) te (.d (.int b))) (hz : S.done.length < 50000) (n : P.nx δ (flR A.C a { S with done := S.done ++ [b] })) :
    XS K Ek δ (flR A.C a S) (tDrop (tBM K "list" rAppend ta (tCons te tNil))) P := by
  refine x_app (i := 4) h1 rfl h (by rw [List.length_map]; exact hz) ?_
  have e : S.done.map PyData.int ++ [.int b] = (S.done ++ [b]).map PyData.int := by rw [List.map_append]; rfl
  rw [e]
  exact n
theorem xf_put {b v : Int} (h1 : Ev K δ (flR A.C a S) ta (.r a.p)) (h2 : Ev K δ (flR A.C a S) tb (.d (.int b))) (h : Ev K δ (flR A.C a S) te (.d (.int v))) (hz : S.places.length < 50000) (n : P.nx δ (flR A.C a { S with places := pput S.places b v })) :
    XS K Ek δ (flR A.C a S) (sDPut ta tb te) P := by
  refine x_dput (i := 3) (k := .inl b) h h1 h2 rfl (by rw [encP_len]; exact hz) ?_
  rw [putD_P]
  exact n
theorem xf_pop {b v : Int} (h1 : Ev K δ (flR A.C a S) ta (.r a.p)) (h2 : Ev K δ (flR A.C a S) tb (.d (.int b))) (hv : plc S.places b = some v) (n : P.nx δ (flR A.C a { S with places := pdrop S.places b })) :
    XS K Ek δ (flR A.C a S) (tDrop (tDPop1 ta tb)) P := by
  refine x_dpop (i := 3) (k := .inl b) (d := .d (.int v)) h1 h2 rfl (by rw [valD_P, hv]; rfl) ?_
  rw [dropD_P]
  exact n
theorem xf_taken {t : Int} (fx : Fx K A) (h1 : Ev K δ (flR A.C a S) ta (.r a.f)) (h : Ev K δ (flR A.C a S) te (.d (.int t))) (n : P.nx δ (flR A.C a { S with taken := t })) : XS K Ek δ (flR A.C a S) (sFld K ta te "taken") P :=
  x_fld (i := 0) h h1 rfl (by show 6 < 1000; decide) n fx.cl fx.taken
theorem xf_given {t : Int} (fx : Fx K A) (h1 : Ev K δ (flR A.C a S) ta (.r a.f)) (h : Ev K δ (flR A.C a S) te (.d (.int t))) (n : P.nx δ (flR A.C a { S with given := t })) : XS K Ek δ (flR A.C a S) (sFld K ta te "given") P :=
  x_fld (i := 0) h h1 rfl (by show 6 < 1000; decide) n fx.cl fx.given
end
/-! ### deeds on the plain model -/
section
variable {K : PySem.W.Frag} {Ek : WX} {A : Ad} {δ : DEnv} {P : Post} {a : Fa} {S : Fs} {te ta tb : TE}
/-- high[g] = b -/
theorem xs_high {g : Int} {b : Bool} {j : Nat} (h : Ev K δ (stR a S) te (.d (.bool b))) (h1 : Ev K δ (stR a S) ta (.r a.h)) (h2 : Ev K δ (stR a S) tb (.d (.int g))) (hj : ixN S.high.length g = some j) (n : P.nx δ (stR a { S with high := S.high.set j b })) :
    XS K Ek δ (stR a S) (tAsg te (gSub ta tb rSetL)) P := by
  refine x_setL (i := 1) (j := j) h h1 h2 rfl (by rw [List.length_map]; exact hj) ?_
  rw [← List.map_set]
  exact n
theorem xs_sides {u : Bool} (h1 : Ev K δ (stR a S) ta (.r a.s)) (h : Ev K δ (stR a S) te (.d (sd u))) (hz : S.sides.length < 50000) (n : P.nx δ (stR a { S with sides := S.sides ++ [u] })) :
    XS K Ek δ (stR a S) (tDrop (tBM K "list" rAppend ta (tCons te tNil))) P := by
  refine x_app (i := 2) h1 rfl h (by rw [List.length_map]; exact hz) ?_
  have e : S.sides.map sd ++ [sd u] = (S.sides ++ [u]).map sd := by rw [List.map_append]; rfl
  rw [e]
  exact n
theorem xs_done {b : Int} (h1 : Ev K δ (stR a S) ta (.r a.d)) (h : Ev K δ (stR a S) te (.d (.int b))) (hz : S.done.length < 50000) (n : P.nx δ (stR a { S with done := S.done ++ [b] })) :
    XS K Ek δ (stR a S) (tDrop (tBM K "list" rAppend ta (tCons te tNil))) P := by
  refine x_app (i := 4) h1 rfl h (by rw [List.length_map]; exact hz) ?_
  have e : S.done.map PyData.int ++ [.int b] = (S.done ++ [b]).map PyData.int := by rw [List.map_append]; rfl
  rw [e]
  exact n
theorem xs_put {b v : Int} (h1 : Ev K δ (stR a S) ta (.r a.p)) (h2 : Ev K δ (stR a S) tb (.d (.int b))) (h : Ev K δ (stR a S) te (.d (.int v))) (hz : S.places.length < 50000) (n : P.nx δ (stR a { S with places := pput S.places b v })) :
    XS K Ek δ (stR a S) (sDPut ta tb te) P := by
  refine x_dput (i := 3) (k := .inl b) h h1 h2 rfl (by rw [encP_len]; exact hz) ?_
  rw [putD_P]
  exact n
theorem xs_pop {b v : Int} (h1 : Ev K δ (stR a S) ta (.r a.p)) (h2 : Ev K δ (stR a S) tb (.d (.int b))) (hv : plc S.places b = some v) (n : P.nx δ (stR a { S with places := pdrop S.places b })) :
    XS K Ek δ (stR a S) (tDrop (tDPop1 ta tb)) P := by
  refine x_dpop (i := 3) (k := .inl b) (d := .d (.int v)) h1 h2 rfl (by rw [valD_P, hv]; rfl) ?_
  rw [dropD_P]
  exact n
theorem xs_drawn {t : Int} (h1 : Ev K δ (stR a S) ta (.r a.f)) (h : Ev K δ (stR a S) te (.d (.int t))) (n : P.nx δ (stR a { S with taken := t })) : XS K Ek δ (stR a S) (sDPut ta (tC (.str "drawn")) te) P :=
  x_dput (i := 0) (k := .inr "drawn") h h1 ev_str rfl (by show 6 < 50000; decide) n
theorem xs_out {t : Int} (h1 : Ev K δ (stR a S) ta (.r a.f)) (h : Ev K δ (stR a S) te (.d (.int t))) (n : P.nx δ (stR a { S with given := t })) : XS K Ek δ (stR a S) (sDPut ta (tC (.str "out")) te) P :=
  x_dput (i := 0) (k := .inr "out") h h1 ev_str rfl (by show 6 < 50000; decide) n
end
/-! ### the plain model is made -/
theorem tP {v : V} {tv : TE} {r : List (TE × TE)} {σ : L2.St} {H : Hp} {Q : List (V × V) → Hp → Prop} (h : tv σ H fun y H2 => tPairs r σ H2 fun ps H3 => Q ((v, y) :: ps) H3) : tPairs ((tC v, tv) :: r) σ H Q := h
section
variable {K : PySem.W.Frag} {Ek : WX} {δ : DEnv} {R : Res} {te : TE} {N : D → Res → Prop} {M : Value → Res → Prop}
theorem ee_new {lv : List Bool} (h : ∀ R, EvF K δ R te (lv.map .bool)) (n : ∀ a : Fa, N (.r a.f) (stR a ⟨lv, [], [], [], 0, 0⟩ ++ R)) :
    EvE K Ek δ R (tDisp (((tC (.str "high")), te) :: ((tC (.str "sides")), (tLst tNil)) :: ((tC (.str "places")), tDNewK) :: ((tC (.str "through")), (tLst tNil)) :: ((tC (.str "drawn")), (tC (.int 0))) :: ((tC (.str "out")), (tC (.int 0))) :: [])) N M := fun G H σ Q ok en k _ => fun p hp => by
  obtain ⟨ok1, l1⟩ := ok.laid (o := .dK []) (q := .dic []) hp ⟨[], upd_same, Nat.zero_le _, .nil⟩
  refine tP (h _ G _ σ _ ok1 (en.mono l1.g) fun ah G2 H2 ok2 l2 => ?_)
  refine tP ((evf_lst (K := K) (δ := δ) ex_nil (by decide)) G2 H2 σ _ ok2 ((en.mono l1.g).mono l2.g) fun as G3 H3 ok3 l3 => ?_)
  refine tP fun ap hap => ?_
  obtain ⟨ok4, l4⟩ := ok3.laid (o := .dK []) (q := .dic []) hap ⟨[], upd_same, Nat.zero_le _, .nil⟩
  refine tP ((evf_lst (K := K) (δ := δ) ex_nil (by decide)) G3 _ σ _ ok4 (((en.mono l1.g).mono l2.g).mono l3.g) fun ad G5 H5 ok5 l5 => ?_)
  have le : Le G H R G5 H5 _ := (((l1.trans l2).trans l3).trans l4).trans l5
  obtain ⟨vs, e1, _, fv⟩ := ok5.at (i := 4) (a := p) (p := .dic []) rfl
  cases fv
  refine ⟨e1, [(.inr "high", .ref ah), (.inr "sides", .ref as), (.inr "places", .ref ap), (.inr "through", .ref ad), (.inr "drawn", .int 0), (.inr "out", .int 0)], rfl, by show 6 ≤ 15; decide, ?_⟩
  let a : Fa := ⟨p, ah, as, ap, ad⟩
  obtain ⟨ok6, l6⟩ := ok5.write (i := 4) (a := p) (p := .dic []) (o := .dK [(.inr "high", .ref ah), (.inr "sides", .ref as), (.inr "places", .ref ap), (.inr "through", .ref ad), (.inr "drawn", .int 0), (.inr "out", .int 0)]) (q := .dic (dicF a ⟨lv, [], [], [], 0, 0⟩)) rfl
    ⟨_, upd_same, by show 6 ≤ 50000; decide, .cons (d := .r ah) rfl (.cons (d := .r as) rfl (.cons (d := .r ap) rfl (.cons (d := .r ad) rfl (.cons (d := .d (.int 0)) (show Hv _ _ _ from .int 0) (.cons (d := .d (.int 0)) (show Hv _ _ _ from .int 0) .nil)))))⟩
  have pr : ([(ad, RO.lst []), (ap, .dic []), (as, .lst []), (ah, .lst (lv.map .bool)), (p, .dic (dicF a ⟨lv, [], [], [], 0, 0⟩))] ++ R).Perm (stR a ⟨lv, [], [], [], 0, 0⟩ ++ R) := List.Perm.append_right R (List.reverse_perm (stR a ⟨lv, [], [], [], 0, 0⟩))
  exact k (.r p) _ (.ref p) G5 _ (n a) (ok6.perm pr) ((le.trans l6).permR pr) rfl
end
theorem ixN_nat {n k : Nat} (h : k < n) : ixN n (k : Int) = some k := by
  unfold ixN
  rw [if_pos (by omega), if_pos (by omega)]
  simp
/-- folds, turn by turn -/
def foldAt {α β : Type} (f : α → β → α) (z : α) (l : List β) : Nat → α := fun i => (l.take i).foldl f z
theorem foldAt_step {α β : Type} {f : α → β → α} {z : α} {l : List β} {i : Nat} {x : β} (h : l[i]? = some x) : foldAt f z l (i + 1) = f (foldAt f z l i) x := by
  unfold foldAt
  rw [List.take_succ, h, List.foldl_append]
  rfl
theorem foldAt_all {α β : Type} {f : α → β → α} {z : α} {l : List β} : foldAt f z l l.length = l.foldl f z := by
  unfold foldAt
  rw [List.take_length]
/-! ### a new list grows and is thrown away -/
theorem x_appF {K : PySem.W.Frag} {Ek : WX} {R : Res} {δ : DEnv} {ta te : TE} {P : Post} {ds : List PyData} {w : PyData} (h1 : EvF K δ R ta ds) (h : ∀ R, Ev K δ R te (.d w)) (hz : ds.length < 50000) (n : P.nx δ R) :
    XS K Ek δ R (tDrop (tBM K "list" rAppend ta (tCons te tNil))) P := fun G H σ D ok en c => h1 G H σ _ ok en fun a G1 H1 ok1 l1 => by
  obtain ⟨ws, e1, _, _⟩ := ok1.at (i := 0) rfl
  refine ⟨.inl ⟨rfl, ws, SqL.of e1⟩, h _ G1 H1 σ _ ok1 (en.mono l1.g) fun u G2 H2 ok2 l2 q2 => ?_⟩
  obtain ⟨vs, e2, e3, e4⟩ := ok2.at (i := 0) (a := a) (p := .lst ds) rfl
  have el := e4.len
  refine ⟨a, vs, u, rfl, rfl, e2, lim_lt e3, ?_⟩
  obtain ⟨ok3, l3⟩ := ok2.write (i := 0) (a := a) (p := .lst ds) (o := .lst (vs ++ [u])) (q := .lst (ds ++ [w])) rfl ⟨_, upd_same, by rw [List.length_append]; show vs.length + 1 ≤ 50000; omega, e4.app (.cons q2 .nil)⟩
  have ok4 : Ok K G2 _ R := ok3.sub (fun p hp => List.mem_cons_of_mem _ hp) (ok3.nd.sublist (List.sublist_cons_self _ _))
  exact c.nx δ R σ G2 _ n ok4 (((l1.trans l2).trans l3).subR fun p hp => List.mem_cons_of_mem _ hp) ((en.mono l1.g).mono l2.g)
theorem plain_nones (n : Nat) : (PyData.list (List.replicate n PyData.none)).plain = true := by
  show PyData.plainAll (List.replicate n PyData.none) = true
  induction n with
  | zero => rfl
  | succ n ih =>
    rw [List.replicate_succ]
    show (PyData.plain .none && PyData.plainAll (List.replicate n PyData.none)) = true
    rw [ih]; rfl
theorem ev_tst {K : PySem.W.Frag} {R : Res} {δ : DEnv} {te : TE} {b : Bool} (h : Ev K δ R te (.d (.bool b))) : EvT K δ R (tTest te) b := et_test h
/-! ### a list of new lists -/
/-- c, a list of the lists at as -/
def ownT (c : Addr) (as : List Addr) (xss : List (List PyData)) : Res := (c, .lsr as) :: (as.zip (xss.map RO.lst))
section
variable {K : PySem.W.Frag} {Ek : WX} {G H G' H' : Hp} {R : Res} {δ : DEnv} {te tb : TE} {t : TS} {P : Post}
theorem x_nd (h : (adr R).Nodup → XS K Ek δ R t P) : XS K Ek δ R t P := fun G H σ D ok en c => h ok.nd G H σ D ok en c
theorem frzs : ∀ {as : List Addr} {xss : List (List PyData)} {G : Hp} {R : Res}, as.length = xss.length → Ok K G H (as.zip (xss.map RO.lst) ++ R) → ∃ G', Ok K G' H R ∧ Le G H (as.zip (xss.map RO.lst) ++ R) G' H R ∧ Hvs G' (as.map .ref) (xss.map .list) ∧ Gx G G'
  | [], [], G, R, _, ok => ⟨G, ok, .refl, .nil, Gx.refl _⟩
  | [], _ :: _, _, _, h, _ => by simp at h
  | _ :: _, [], _, _, h, _ => by simp at h
  | a :: as, xs :: xss, G, R, h, ok => by
    obtain ⟨G1, ok1, l1, hv, g1⟩ := Ok.frz (R := as.zip (xss.map RO.lst) ++ R) ok
    obtain ⟨G2, ok2, l2, hvs, g2⟩ := frzs (as := as) (xss := xss) (by simpa using h) ok1
    exact ⟨G2, ok2, l1.trans l2, .cons (Hv.mono g2 _ hv) hvs, g1.trans g2⟩
theorem Ok.frzT {c : Addr} {as : List Addr} {xss : List (List PyData)} (hl : as.length = xss.length) (ok : Ok K G H (ownT c as xss ++ R)) : ∃ G', Ok K G' H R ∧ Le G H (ownT c as xss ++ R) G' H R ∧ Hv G' (.ref c) (.list (xss.map .list)) ∧ Gx G G' := by
  have pr : (ownT c as xss ++ R).Perm (as.zip (xss.map RO.lst) ++ ((c, .lsr as) :: R)) := (List.perm_middle (a := (c, RO.lsr as))).symm
  have ok1 := ok.perm pr
  obtain ⟨G1, ok2, l2, hvs, g1⟩ := frzs hl ok1
  obtain ⟨e1, e2⟩ := ok2.at (i := 0) (a := c) (p := .lsr as) rfl
  have ok3 : Ok K G1 H ((c, .lst (xss.map .list)) :: R) := ⟨ok2.ex, fun p hp => by
    rcases List.mem_cons.mp hp with e | hp
    · subst e
      exact ⟨(ok2.own _ List.mem_cons_self).1, _, e1, by rw [List.length_map]; exact e2, hvs⟩
    · exact ok2.own p (List.mem_cons_of_mem _ hp), ok2.nd⟩
  obtain ⟨G2, ok4, l4, hv, g2⟩ := ok3.frz
  have l2' : Le G H (ownT c as xss ++ R) G1 H ((c, .lst (xss.map .list)) :: R) := ⟨l2.g, fun a o e n => e, fun a e => (l2.n a e).imp id fun q => q.imp id fun m => by
    exact adr_sub (fun p hp => pr.symm.subset hp) m, fun a m => by
    rcases l2.r a m with z | z
    · exact .inl (adr_sub (fun p hp => pr.symm.subset hp) z)
    · exact .inr z, fun a e => e⟩
  exact ⟨G2, ok4, l2'.trans l4, hv, g1.trans g2⟩
theorem x_frzT {i : Nat} {c : Addr} {as : List Addr} {xss : List (List PyData)} (hl : as.length = xss.length) (hi : δ[i]? = some (some (.r c))) (h : XS K Ek (δ.set i (some (.d (.list (xss.map .list))))) R t P) : XS K Ek δ (ownT c as xss ++ R) t P := fun G H σ D ok en k => by
  obtain ⟨G', ok', le, hv, gx⟩ := ok.frzT hl
  obtain ⟨v, e, q⟩ := en.get i _ hi
  cases (show v = .ref c from q)
  refine h G' H σ D ok' ⟨by rw [List.length_set]; exact en.len, fun j d hj => ?_⟩ (k.mono le)
  by_cases z : i = j
  · subst z
    obtain ⟨hlt, _⟩ := List.getElem?_eq_some_iff.mp hi
    rw [List.getElem?_set_self hlt] at hj
    cases hj
    exact ⟨_, e, hv⟩
  · rw [List.getElem?_set_ne z] at hj
    exact (en.mono gx).get j d hj
theorem mem_set_other {R : Res} {i : Nat} {b : Addr} {o q : RO} {p : Addr × RO} (h : R[i]? = some (b, o)) (hp : p ∈ R) (ne : p.1 ≠ b) : p ∈ R.set i (b, q) := by
  obtain ⟨j, hj⟩ := List.getElem?_of_mem hp
  have z : i ≠ j := by
    intro e
    subst e
    rw [h] at hj
    cases hj
    exact ne rfl
  refine List.mem_of_getElem? (i := j) ?_
  rw [List.getElem?_set_ne z]
  exact hj
/-- a loop over an own list of own lists -/
theorem x_forR {j : Nat} {N : D → Res → Prop} {M : Value → Res → Prop} (h : EvE K Ek δ R te N M)
    (hN : ∀ d R', N d R' → ∃ (c : Addr) (as : List Addr) (I : Nat → DEnv → Res → Prop), d = .r c ∧ I 0 δ R' ∧ (∀ i δ' R', I i δ' R' → (c, RO.lsr as) ∈ R') ∧
      (∀ i b δ' R', as[i]? = some b → I i δ' R' → XS K Ek (δ'.set j (some (.r b))) R' t { P with nx := I (i + 1), ct := I (i + 1), bk := P.nx }) ∧ (∀ δ' R', I as.length δ' R' → P.nx δ' R')) (m : ∀ c R', M c R' → P.xe c δ R') :
    XS K Ek δ R (tFor (iList K te) (gName j) t) P := fun G H σ D ok en k => h G H σ _ ok en (fun d R1 v G1 H1 nn ok1 l1 hv => by
  obtain ⟨c, as, I, rfl, h0, hm, hs, hd⟩ := hN d R1 nn
  cases (show v = .ref c from hv)
  have at_ : ∀ {G2 H2 : Hp} {R2 : Res} {i : Nat} {δ2 : DEnv}, Ok K G2 H2 R2 → I i δ2 R2 → H2 c = some (.lst (as.map .ref)) := fun ok2 hI => by
    obtain ⟨n, hn⟩ := List.getElem?_of_mem (hm _ _ _ hI)
    exact (ok2.at hn).1
  refine ⟨c, rfl, ⟨_, SqL.of (at_ ok1 h0)⟩, ?_⟩
  refine ⟨fun i m σ2 H2 => m = as.length - i ∧ i ≤ as.length ∧ ∃ δ2 R2 G2, I i δ2 R2 ∧ Ok K G2 H2 R2 ∧ Le G H R G2 H2 R2 ∧ DE K G2 σ2 δ2, ⟨as.length, by simp, Nat.zero_le _, δ, R1, G1, h0, ok1, l1, en.mono l1.g⟩, ?_⟩
  rintro i m σ2 H2 ⟨rfl, hle, δ2, R2, G2, hI, ok2, l2, en2⟩
  have hc := at_ ok2 hI
  have sq := SqL.of (K := K) hc
  by_cases hlt : i < as.length
  · obtain ⟨b, hb⟩ : ∃ b, as[i]? = some b := ⟨as[i], List.getElem?_eq_getElem hlt⟩
    have hb2 : (as.map V.ref)[i]? = some (.ref b) := by rw [List.getElem?_map, hb]; rfl
    refine .inr ⟨⟨_, _, sq, hb2⟩, fun σ' H' => ∃ δ3 R3 G3, I (i + 1) δ3 R3 ∧ Ok K G3 H' R3 ∧ Le G H R G3 H' R3 ∧ DE K G3 σ' δ3, fun σ' H' p => ⟨as.length - (i + 1), by omega, rfl, hlt, p⟩, fun x H3 ⟨y1, y2⟩ => ?_⟩
    subst y1
    have ex := y2 _ sq
    rw [hb2] at ex
    cases ex
    have xs := hs i b δ2 R2 hb hI
    have c2 := k.mono l2
    refine xs G2 H3 _ _ ok2 (en2.set (d := .r b) rfl) ⟨fun a b e f g' p q' l w' => ⟨a, b, f, p, q', l2.trans l, w'⟩, c2.rt, fun a b e f g' p q' l w' => c2.nx a b e f g' p q' l w', fun a b e f g' p q' l w' => ⟨a, b, f, p, q', l2.trans l, w'⟩, c2.xe⟩
  · have e : i = as.length := by omega
    subst e
    exact .inl ⟨⟨_, sq, by rw [List.length_map]; exact Nat.le_refl _⟩, k.nx δ2 R2 σ2 G2 H2 (hd δ2 R2 hI) ok2 l2 en2⟩) fun c R1 G1 H1 mm ok1 l1 => k.xe c δ R1 σ G1 H1 (m c R1 mm) ok1 l1 (en.mono l1.g)
end
/-! ### tests and sums that change what is owned -/
section
variable {K : PySem.W.Frag} {Ek : WX} {R : Res} {δ : DEnv} {ta tb te : TE} {t u : TS} {P : Post} {r : R2} {N N1 : D → Res → Prop} {M : Value → Res → Prop}
theorem ee_op2 (ha : EvE K Ek δ R ta N1 M) (hb : ∀ d R1, N1 d R1 → ∃ N2, EvE K Ek δ R1 tb N2 M ∧ ∀ d2 R2, N2 d2 R2 → ∃ z, RV K R2 r d d2 z ∧ N z R2) : EvE K Ek δ R (tOp r ta tb) N M := fun G H σ Q ok en k j =>
  ha G H σ _ ok en (fun d R1 v G1 H1 n1 ok1 l1 h1 => by
    obtain ⟨N2, eb, hr⟩ := hb d R1 n1
    refine eb G1 H1 σ _ ok1 (en.mono l1.g) (fun d2 R2 w G2 H2 n2 ok2 l2 h2 => ?_) fun c R2 G2 H2 m ok2 l2 => j c R2 G2 H2 m ok2 (l1.trans l2)
    obtain ⟨z, rv, nz⟩ := hr d2 R2 n2
    exact rv G2 H2 v w Q ok2 (h1.mono l2.g) h2 fun u G3 H3 ok3 l3 h3 => k z R2 u G3 H3 nz ok3 ((l1.trans l2).trans l3) h3) fun c R1 G1 H1 m ok1 l1 => j c R1 G1 H1 m ok1 l1
theorem x_ifE (h : EvE K Ek δ R te N M) (n : ∀ d R', N d R' → ∃ b, d = .d (.bool b) ∧ (b = true → XS K Ek δ R' t P) ∧ (b = false → XS K Ek δ R' u P)) (m : ∀ c R', M c R' → P.xe c δ R') : XS K Ek δ R (tIfS (tTest te) t u) P := fun G H σ D ok en k =>
  h G H σ _ ok en (fun d R1 v G1 H1 nn ok1 l1 hv => by
    obtain ⟨b, rfl, h1, h2⟩ := n d R1 nn
    cases (show Hv G1 v (.bool b) from hv)
    refine ⟨b, rfl, ?_⟩
    cases b with
    | true =>
      rw [if_pos rfl]
      exact h1 rfl G1 H1 σ D ok1 (en.mono l1.g) (k.mono l1)
    | false =>
      rw [if_neg Bool.false_ne_true]
      exact h2 rfl G1 H1 σ D ok1 (en.mono l1.g) (k.mono l1)) fun c R1 G1 H1 mm ok1 l1 => k.xe c δ R1 σ G1 H1 (m c R1 mm) ok1 l1 (en.mono l1.g)
theorem EvE.nd (h : EvE K Ek δ R te N M) : EvE K Ek δ R te (fun d R' => N d R' ∧ (adr R').Nodup) M := fun G H σ Q ok en k j =>
  h G H σ Q ok en (fun d R' v G' H' n ok' le hv => k d R' v G' H' ⟨n, ok'.nd⟩ ok' le hv) j
theorem XS.nxSub {Nx : DEnv → Res → Prop} (h : XS K Ek δ R t { P with nx := Nx }) (hn : ∀ δ' R', Nx δ' R' → ∃ R0 : Res, (∀ p ∈ R0, p ∈ R') ∧ ((adr R').Nodup → (adr R0).Nodup) ∧ P.nx δ' R0) : XS K Ek δ R t P := fun G H σ D ok en k =>
  h G H σ D ok en ⟨fun δ' R' σ' G' H' p ok' le w => by
    obtain ⟨R0, s, nd, q⟩ := hn δ' R' p
    exact k.nx δ' R0 σ' G' H' q (ok'.sub s (nd ok'.nd)) (le.subR s) w, k.rt, k.bk, k.ct, k.xe⟩
end
end Fl
/-! list(reversed(list)), sep.join(reversed(list)). -/
namespace Fl
open PySem PySem.Spec PyProof.Rows L2
section
variable {prog : Program} {w : World} {A : Around} {E : Value → Shared → Prop} {s : Shared}
theorem wpAny_extend_rev {R : Result → Shared → Prop} {it l : Addr} {items : Array Value} (hh : A.handled = none) (hit : s.heap.IsRevIter it l ((items.size : Int) - 1)) (hl : s.heap.IsList l items) (hne : l ≠ it) (hn : items.size ≤ sizeLine) (S : Addr) (res : Value) (c₀ : Nat)
    (hSi : S ≠ it) (hSl : S ≠ l) (hS : s.heap.get? S = some { cls := .type "list", data := .seq #[] c₀ })
    (hR : ∀ h' tk acc' c', (∀ b o, b ≠ S → b ≠ it → s.heap.get? b = some o → h'.get? b = some o) → h'.get? S = some { cls := .type "list", dict := none, data := .seq acc' c', slots := #[] } →
      ItemsOf (fun i v => items[items.size - 1 - i]? = some v) acc' items.size → R (.ok (.ret res)) { s with heap := h', toks := tk }) :
    wpAny (model prog w) A.in1 (Builtin.List.listExtendWith (.ref S) (.ref it) res)
      (fun fin s' => match fin with | .done f => R (.ok f) s' | .again c' => c'.quiet = true ∧ codeAny (model prog w) A c' R s') (fun e s' => R (.error e) s') s := by
  have W := (Walks.listRev (prog := prog) (w := w) (A := A.in1) hh it l hne items).toS
  have hSf : S ∉ [it, l] := by simp only [List.mem_cons, List.not_mem_nil, or_false, not_or]; exact ⟨hSi, hSl⟩
  have hT : s.TypeIs (.ref it) "list_reverseiterator" := Heap.IsRevIter.typeIs hit
  have h1 : Builtin.List.listSameRef (.ref S) (.ref it) = false := by simp [Builtin.List.listSameRef, hSi]
  unfold Builtin.List.listExtendWith
  refine wpAny_bind (wpAny_typeOf hT ?_)
  rw [if_neg (by rw [h1]; decide)]
  refine wpAny_bind (wpAny_pyIter_revIter hit ?_)
  refine wpAny_bind (wpAny_holding ?_)
  unfold Builtin.List.listLengthHint
  refine wpAny_bind (wpAny_specialOf hT RT.nolen_lri ?_)
  show wpAny _ A.in1 (specialOf (Value.ref it) (Str.ofString "__length_hint__") >>= _) _ _ _
  refine wpAny_bind (wpAny_specialOf hT RT.hint_lri ?_)
  generalize hid : ("list_reverseiterator.__length_hint__" : String) = id0
  wp_delta
  rw [show splitId id0 = some ("list_reverseiterator", "__length_hint__") from by subst hid; decide +kernel]
  subst hid
  refine wpAny_bind (wpAny_isInstance (b := true) hT (by rw [isSubtype_type]; kernel_rfl) ?_)
  refine wpAny_pure ?_
  rw [if_neg (by decide)]
  have e0 : ((items.size : Nat) : Int) - 1 - ((0 : Nat) : Int) = (items.size : Int) - 1 := by omega
  refine wpAny_pure ⟨plainId_quiet F.plain_extend_loop _, codeAny_extend_loopS W hn _ hSf _ items.size 0 _ _ _ rfl (Nat.zero_le _) ⟨Nat.zero_le _, by rw [e0]; exact hit, hl⟩ hS (ItemsOf.nil _) fun s' acc' c' hm hS' hacc => ?_⟩
  rw [Moved.eq_with hm]
  refine hR s'.heap s'.toks acc' c' (fun b o hb hb2 e => hm.heap b o (fun hmem => ?_) e) hS' hacc
  rcases List.mem_cons.mp hmem with e' | hmem
  · exact hb e'
  · exact hb2 (List.mem_singleton.mp hmem)
theorem wpAny_list_init_rev {R : Result → Shared → Prop} {it l : Addr} {items : Array Value} (hh : A.handled = none) (hit : s.heap.IsRevIter it l ((items.size : Int) - 1)) (hl : s.heap.IsList l items) (hne : l ≠ it) (hn : items.size ≤ sizeLine) (S : Addr)
    (hSi : S ≠ it) (hSl : S ≠ l) (hS : s.heap.get? S = some { cls := .type "list", data := .seq #[] })
    (hR : ∀ h' tk acc' c', (∀ b o, b ≠ S → b ≠ it → s.heap.get? b = some o → h'.get? b = some o) → h'.get? S = some { cls := .type "list", dict := none, data := .seq acc' c', slots := #[] } →
      ItemsOf (fun i v => items[items.size - 1 - i]? = some v) acc' items.size → R (.ok (.ret .none)) { s with heap := h', toks := tk }) :
    wpAny (model prog w) A.in1 (Builtin.«list.__init__» ⟨[.ref S, .ref it], []⟩)
      (fun fin s' => match fin with | .done f => R (.ok f) s' | .again c' => c'.quiet = true ∧ codeAny (model prog w) A c' R s') (fun e s' => R (.error e) s') s := by
  show wpAny _ _ (do let old ← Builtin.List.listItems (.ref S); Builtin.List.listUpdate (.ref S) (fun _ => #[]); letGo old.toList.reverse; Builtin.List.listExtendWith (.ref S) (.ref it) .none) _ _ s
  refine wpAny_bind ?_
  unfold Builtin.List.listItems
  refine wpAny_bind (wpAny_seqItems hS rfl (wpAny_pure ?_))
  show wpAny _ _ (updateSeq S (fun _ => #[]) >>= fun _ => letGo (#[] : Array Value).toList.reverse >>= fun _ => Builtin.List.listExtendWith (.ref S) (.ref it) .none) _ _ s
  refine wpAny_bind (wpAny_updateSeq hS rfl ?_)
  have hS₂ := Heap.get?_update_self (Obj.mapSeq (fun _ => (#[] : Array Value))) hS rfl
  have oth : ∀ b o, b ≠ S → s.heap.get? b = some o → (s.heap.update S (Obj.mapSeq (fun _ => (#[] : Array Value)))).get? b = some o :=
    fun b o hb e => (Heap.get?_update_other _ _ (Ne.symm hb)).trans e
  refine wpAny_bind (wpAny_letGo ?_)
  refine wpAny_extend_rev hh (hit.at fun o e => oth it o (Ne.symm hSi) e) (hl.at fun o e => oth l o (Ne.symm hSl) e) hne hn S .none _ hSi hSl hS₂ fun h' tk acc' c' hk hS' hacc => ?_
  exact hR h' tk acc' c' (fun b o hb hb2 e => hk b o hb hb2 (oth b o hb e)) hS' hacc
theorem call_list_rev {Q : Value → Shared → Prop} {it l : Addr} {items : Array Value} (hh : A.handled = none) (hit : s.heap.IsRevIter it l ((items.size : Int) - 1)) (hl : s.heap.IsList l items) (hne : l ≠ it) (hn : items.size ≤ sizeLine)
    (hQ : ∀ h' tk acc' c', (∀ b o, b ≠ it → s.heap.get? b = some o → h'.get? b = some o) →
      h'.get? s.heap.objs.size = some { cls := .type "list", dict := none, data := .seq acc' c', slots := #[] } → ItemsOf (fun i v => items[items.size - 1 - i]? = some v) acc' items.size → Q (.ref s.heap.objs.size) { s with heap := h', toks := tk }) :
    wpAny (model prog w) A (call (.type "list") [.ref it]) Q E s := by
  obtain ⟨oi, hoi, _⟩ := id hit
  obtain ⟨ol, hol, _⟩ := id hl
  refine callType_codes (Q₁ := fun obj s₁ => obj = .ref s.heap.objs.size ∧ s₁ = { s with heap := s.heap.push { cls := .type "list", data := .seq #[] } }) F.called_list (F.typeCall_list_1 _) F.entry_list_init
    (code_list_new _ ⟨rfl, rfl⟩) fun obj s₁ h₁ => ?_
  obtain ⟨rfl, rfl⟩ := h₁
  have hS : (s.heap.push { cls := .type "list", data := .seq #[] }).get? s.heap.objs.size = some { cls := .type "list", data := .seq #[] } := Heap.get?_push_size _ rfl
  refine ⟨⟨_, hS, rfl⟩, F.args_list_init_2 _ _, wpAny_list_init_rev (A := A.in1) hh (hit.at fun o e => Heap.get?_push_of_some _ e) (hl.push _) hne hn _ (Nat.ne_of_gt (Heap.lt_size hoi)) (Nat.ne_of_gt (Heap.lt_size hol)) hS fun h' tk acc' c' hk hS' hacc => ?_⟩
  exact ⟨rfl, hQ h' tk acc' c' (fun b o hb e => hk b o (Nat.ne_of_lt (Heap.lt_size e)) hb (Heap.get?_push_of_some _ e)) hS' hacc⟩
end
/-- list(reversed(x)), x a list: a new list -/
def tLstRev (K : PySem.W.Frag) (te : TE) : TE := fun σ H Q => te σ H fun v H1 => ∃ (a : Addr) (xs : List V), v = .ref a ∧ SqL K H1 a xs ∧ ∀ q, H1 q = none → Q (.ref q) (upd H1 q (.lst xs.reverse))
section
variable {X : Cx}
theorem pe_lstRev {e : Expr} {te : TE} {p p2 pos pos2 : Pos} (hc : X.calm = true) (hg : Gl X "list") (hm : X.mg "list" = none) (hg2 : Gl X "reversed") (hm2 : X.mg "reversed" = none) (he : PE X e te)
    (hs : starEach [e] X.env = (false, eval e X.env) :: starEach [] X.env := by rfl)
    (hs2 : starEach [.Call (.Name "reversed" p2) [e] [] pos2] X.env = (false, eval (.Call (.Name "reversed" p2) [e] [] pos2) X.env) :: starEach [] X.env := by rfl) :
    PE X (.Call (.Name "list" p) [.Call (.Name "reversed" p2) [e] [] pos2] [] pos) (tLstRev X.K te) := by
  refine ⟨fun pins s σ H Q I h => ?_⟩
  refine Call_ (ld_blt I hg hm boot_list (PyProof.Rows.callWith_type1 (args_cons (Call_ (ld_blt I hg2 hm2 PyProof.Rows.boot_reversed (PyProof.Rows.callWith_type1 (args_cons (thn (he.run pins s σ H _ I h) fun u s1 ⟨v, H1, I1, r1, q1⟩ => args_nil ?_) hs) hs rfl))) hs2) hs2 rfl))
  obtain ⟨a, xs, ev, hq, q⟩ := q1
  subst ev
  obtain rfl : u = Value.ref a := r1
  obtain ⟨its, rv, p', hz⟩ := I1.list hq
  refine call_reversed_list p'.isList ?_
  refine args_nil ?_
  have hl := p'.isList
  obtain ⟨ol, hol, _⟩ := id hl
  have hne : a ≠ s1.heap.objs.size := Nat.ne_of_lt (Heap.lt_size hol)
  have hn : its.toArray.size ≤ sizeLine := by rw [List.size_toArray, ← rv.length]; exact hz
  refine call_list_rev (s := { s1 with heap := s1.heap.push (revObj a ((its.toArray.size : Int) - 1)) }) (I1.ok.hd hc) ⟨_, Heap.get?_push_size _ rfl, rfl, rfl⟩ (hl.push _) hne hn fun h' tk acc c' hk e' hi => ?_
  have k0 : ∀ b o, s1.heap.get? b = some o → h'.get? b = some o := fun b o e => hk b o (Nat.ne_of_lt (Heap.lt_size e)) (Heap.get?_push_of_some _ e)
  have big : s1.heap.objs.size ≤ (s1.heap.push (revObj a ((its.toArray.size : Int) - 1))).objs.size := by
    show _ ≤ (s1.heap.objs.push _).size
    rw [Array.size_push]; omega
  refine ⟨.ref (s1.heap.push (revObj a ((its.toArray.size : Int) - 1))).objs.size, upd H1 (s1.heap.push (revObj a ((its.toArray.size : Int) - 1))).objs.size (.lst xs.reverse), I1.laid k0 big (show ObjOk X.prog X.w _ _ _ (.lst xs.reverse) from ⟨by rw [List.length_reverse]; exact hz, acc.toList, c', RT.vals_rev rv hi, ?_⟩), rfl, q _ (I1.hok.fresh big)⟩
  rw [Array.toArray_toList]; exact e'
end
section
open MpR
variable {prog : Program} {w : World} {A : Around} {E : Value → Shared → Prop} {s : Shared}
theorem join_rev {x : Str} {t : Tok} {ys : List Str} {it l : Addr} {items : Array Value} {Q : Value → Shared → Prop} (hh : A.handled = none) (hit : s.heap.IsRevIter it l ((items.size : Int) - 1)) (hl : s.heap.IsList l items) (hne : l ≠ it) (hn : items.size ≤ sizeLine)
    (hP : ∀ acc : Array Value, ItemsOf (fun i v => items[items.size - 1 - i]? = some v) acc items.size → StrsAre acc.toList ys) (hok : (ys.map (·.length)).sum + ys.length * x.length ≤ 16777216)
    (hq : ∀ h' t' k, (∀ b o, b ≠ it → s.heap.get? b = some o → h'.get? b = some o) → Q (.str (Txt.join x ys) t') { s with heap := h', toks := k }) :
    wpAny (model prog w) A (call (.builtin "str.join") [.str x t, .ref it]) Q E s := by
  have hT : s.TypeIs (.ref it) "list_reverseiterator" := Heap.IsRevIter.typeIs hit
  have hh1 : A.in1.handled = none := hh
  refine wpAny_call (codeAny_call_builtin F.slot_str_join.plain F.entry_str_join (F.slot_str_join.check _ _ _ _ _ _ _ _ (typeIs_str _ _ _) (F.args_str_join_2 _ _) ?_))
  rw [join_tree_other]
  refine wpAny_bind (wpAny_typeOf hT ?_)
  show wpAny _ A.in1 ((pyIter (.ref it)).tryCatch _ >>= fun it => collect it >>= fun items => joinTail x items) _ _ s
  refine wpAny_bind (wpAny_tryCatch (wpAny_pyIter_revIter hit ?_))
  refine wpAny_bind (RT.collect_rev hh1 hit hl hne hn fun h' tk acc hk hacc => ?_)
  obtain ⟨l, hl, ht⟩ := strsAre_values (hP acc hacc)
  subst ht
  rw [hl]
  have hok' := joinOk_of hok
  unfold JoinOk at hok'
  rw [Bool.not_eq_true'] at hok'
  have g : Gives (joinTail x (strValues l)) (joinMade x l) := by
    have g0 := gives_joinTail x l hok'
    cases l with
    | nil => exact g0
    | cons p r => cases r with
      | nil => exact g0
      | cons q r' => exact g0
  exact g prog w A (wants Q E) _ (post_join l ⟨joinFit_length hok', fun t' k => hq h' t' k hk⟩)
end
/-- sep.join(reversed(x)), x a list of texts -/
def tJoinRev (K : PySem.W.Frag) (to te : TE) : TE := fun σ H Q => to σ H fun x H1 => (∃ a, x = .str a) ∧ te σ H1 fun u H2 => ∃ (a : Str) (p : Addr) (ys : List Str), x = .str a ∧ u = .ref p ∧ SqL K H2 p (ys.map V.str) ∧
  (ys.reverse.map (·.length)).sum + ys.reverse.length * a.length ≤ 16777216 ∧ Q (.str (Txt.join a ys.reverse)) H2
section
variable {X : Cx}
theorem pe_joinRev {o e : Expr} {to te : TE} {apos pos p pos2 : Pos} (hc : X.calm = true) (ho : PE X o to) (hg : Gl X "reversed") (hm : X.mg "reversed" = none) (he : PE X e te)
    (hs1 : starEach [.Call (.Name "reversed" p) [e] [] pos2] X.env = [(false, eval (.Call (.Name "reversed" p) [e] [] pos2) X.env)] := by rfl)
    (hs : starEach [e] X.env = (false, eval e X.env) :: starEach [] X.env := by rfl)
    (hbase : attributeBase o "join" X.env (eval o X.env) = eval o X.env := by rfl) (hline : (apos.endLine == pos.line) = true := by rfl) :
    PE X (.Call (.Attribute o "join" apos) [.Call (.Name "reversed" p) [e] [] pos2] [] pos) (tJoinRev X.K to te) := by
  refine ⟨fun pins s σ H Q I h => ?_⟩
  refine PySem.Call_method1 hbase hs1 hline (thn (ho.run pins s σ H _ I h) fun v s1 ⟨x, H1, I1, r1, q1⟩ => ?_)
  obtain ⟨⟨a, rfl⟩, q1⟩ := q1
  obtain ⟨t, rfl⟩ := _root_.id r1
  refine ⟨"str", _, F.plainAttrs_str, F.slot_str_join, F.type_str_join, typeIs_str _ _ _, (fun _ e => nomatch e), Calls.callWith_builtin rfl (Calls.evalArgs_plain (Calls.spliced_cons ?_))⟩
  refine Call_ (ld_blt I1 hg hm PyProof.Rows.boot_reversed (PyProof.Rows.callWith_type1 (args_cons (thn (he.run pins s1 σ H1 _ I1 q1) fun u s2 ⟨v, H2, I2, r2, q2⟩ => args_nil ?_) hs) hs rfl))
  obtain ⟨a', p', ys, ea, rfl, hq, hz, q⟩ := q2
  cases ea
  obtain rfl : u = Value.ref p' := r2
  obtain ⟨its, rv, pl, hsz⟩ := I2.list hq
  refine call_reversed_list pl.isList ?_
  have hl := pl.isList
  obtain ⟨ol, hol, _⟩ := id hl
  have hne : p' ≠ s2.heap.objs.size := Nat.ne_of_lt (Heap.lt_size hol)
  have hn : its.toArray.size ≤ sizeLine := by rw [List.size_toArray, ← rv.length]; exact hsz
  refine Calls.spliced_nil ?_
  refine join_rev (s := { s2 with heap := s2.heap.push (revObj p' ((its.toArray.size : Int) - 1)) }) (ys := ys.reverse) (I2.ok.hd hc) ⟨_, Heap.get?_push_size _ rfl, rfl, rfl⟩ (hl.push _) hne hn (fun acc hacc => ?_) hz fun h' t' k hk => ?_
  · have := RT.vals_rev rv hacc
    rw [← List.map_reverse] at this
    exact strs_of_vals this
  · have k0 : ∀ b o, s2.heap.get? b = some o → h'.get? b = some o := fun b o e => hk b o (Nat.ne_of_lt (Heap.lt_size e)) (Heap.get?_push_of_some _ e)
    exact ⟨.str _, H2, I2.kept (t' := k) k0, ⟨t', rfl⟩, q⟩
end
section
variable {K : PySem.W.Frag} {δ : DEnv} {R : Res} {ta : TE} {d : D}
theorem evf_lstRev {ds : List PyData} (h : Ev K δ R ta d) (hl : Ls R d ds) : EvF K δ R (tLstRev K ta) ds.reverse := fun G H σ Q ok en k => h G H σ _ ok en fun v G1 H1 ok1 l1 q1 => by
  obtain ⟨a, vs, rfl, ea, la, hv⟩ := hl.hv ok1 q1
  refine ⟨a, vs, rfl, SqL.of ea, fun p hp => ?_⟩
  obtain ⟨ok', le⟩ := ok1.laid (q := .lst ds.reverse) (o := .lst vs.reverse) hp ⟨vs.reverse, upd_same, by rw [List.length_reverse]; exact la, hv.rev⟩
  exact k _ _ _ ok' (l1.trans le)
theorem ev_joinRev {tb : TE} {ys : List Str} {a : Str} (h1 : Ev K δ R ta (.d (.str a))) (h2 : Ev K δ R tb d) (hl : Ls R d (ys.map .str)) (hz : (ys.reverse.map (·.length)).sum + ys.reverse.length * a.length ≤ 16777216) : Ev K δ R (tJoinRev K ta tb) (.d (.str (Txt.join a ys.reverse))) := fun G H σ Q ok en k =>
  h1 G H σ _ ok en fun v G1 H1 ok1 l1 q1 => by
    cases (show Hv G1 v (.str a) from q1)
    refine ⟨⟨a, rfl⟩, h2 G1 H1 σ _ ok1 (en.mono l1.g) fun u G2 H2 ok2 l2 q2 => ?_⟩
    obtain ⟨p, vs, rfl, ea, la, hv⟩ := hl.hv ok2 q2
    have ev : vs = ys.map V.str := hv.strs
    subst ev
    exact ⟨a, p, ys, rfl, rfl, SqL.of ea, hz, k _ G2 H2 ok2 (l1.trans l2) (show Hv G2 _ _ from .str _)⟩
end
end Fl

namespace Fl
open PySem PySem.Spec PyProof.Rows L2
/-! What boats cost: plain functions. -/
def costOf (bs : List Bool) (u : Bool) : Int := if u then 1 + (((bs.drop 1).filter fun b => !b).length : Int) else if bs.getLast? = some true then 0 else 1
def behindOf (bs : List Bool) (u : Bool) : List Bool := bs.map fun _ => u
def costs : List Bool → List Bool → Int
  | _, [] => 0
  | bs, u :: r => costOf bs u + costs (behindOf bs u) r
theorem behind_len (bs : List Bool) (u : Bool) : (behindOf bs u).length = bs.length := by simp [behindOf]
theorem costOf_ge (bs : List Bool) (u : Bool) : 0 ≤ costOf bs u := by
  unfold costOf
  split
  · omega
  · split <;> decide
/-- the levels behind the first i boats; what they cost -/
def lvAt (bs order : List Bool) : Nat → List Bool
  | 0 => bs
  | i + 1 => match order[i]? with
    | some u => behindOf bs u
    | none => bs
def cAt (bs order : List Bool) : Nat → Int
  | 0 => 0
  | i + 1 => match order[i]? with
    | some u => cAt bs order i + costOf (lvAt bs order i) u
    | none => cAt bs order i
theorem lvAt_len (bs order : List Bool) : ∀ i, (lvAt bs order i).length = bs.length
  | 0 => rfl
  | i + 1 => by
    cases h : order[i]? with
    | none => simp only [lvAt, h]
    | some u => simp only [lvAt, h]; exact behind_len _ _
theorem lvAt_step {bs order : List Bool} {i : Nat} {u : Bool} (h : order[i]? = some u) : lvAt bs order (i + 1) = behindOf (lvAt bs order i) u := by
  show (match order[i]? with | some u => behindOf bs u | none => bs) = _
  rw [h]
  unfold behindOf
  have e := lvAt_len bs order i
  apply List.ext_getElem
  · simp [e]
  · intro k h1 h2; simp
theorem cAt_step {bs order : List Bool} {i : Nat} {u : Bool} (h : order[i]? = some u) : cAt bs order (i + 1) = cAt bs order i + costOf (lvAt bs order i) u := by
  show (match order[i]? with | some u => cAt bs order i + costOf (lvAt bs order i) u | none => cAt bs order i) = _
  rw [h]
theorem behind_two (bs : List Bool) (u v : Bool) : behindOf (behindOf bs u) v = behindOf bs v := by
  unfold behindOf
  rw [List.map_map]
  rfl
theorem cAt_cons (bs : List Bool) (u : Bool) (r : List Bool) : ∀ i, i ≤ r.length → cAt bs (u :: r) (i + 1) = costOf bs u + cAt (behindOf bs u) r i ∧ lvAt bs (u :: r) (i + 1) = lvAt (behindOf bs u) r i
  | 0, _ => by
    rw [cAt_step (u := u) rfl]
    refine ⟨?_, rfl⟩
    show 0 + costOf bs u = costOf bs u + 0
    omega
  | i + 1, h => by
    obtain ⟨h1, h2⟩ := cAt_cons bs u r i (by omega)
    obtain ⟨v, hv⟩ : ∃ v, r[i]? = some v := ⟨r[i], List.getElem?_eq_getElem (by omega)⟩
    have e1 : (u :: r)[i + 1]? = some v := by simpa using hv
    rw [cAt_step e1, cAt_step hv, lvAt_step e1, lvAt_step hv, h1, h2]
    exact ⟨by omega, rfl⟩
theorem cAt_all : ∀ (bs order : List Bool), cAt bs order order.length = costs bs order
  | bs, [] => rfl
  | bs, u :: r => by
    show cAt bs (u :: r) (r.length + 1) = costOf bs u + costs (behindOf bs u) r
    rw [(cAt_cons bs u r r.length (Nat.le_refl _)).1, cAt_all (behindOf bs u) r]
/-! A lockful is let down: the levels. -/
def letL (lv : List Bool) (g : Nat) : List Bool := if 0 < g then (if g < lv.length then lv.set g false else lv).set (g - 1) true else if g < lv.length then lv.set g false else lv
theorem letL_len (lv : List Bool) (g : Nat) : (letL lv g).length = lv.length := by
  unfold letL
  split <;> split <;> simp
/-! The plain model of a flight. -/
def Fs.n (S : Fs) : Int := S.high.length
def sideOf (S : Fs) (b : Int) : Bool := S.sides.getD b.toNat true
def startOf (S : Fs) (u : Bool) : Int := if u = true then 0 else S.n + 1
def keysOf (ps : Pl) : List Int := ps.map (·.1)
def waitM (S : Fs) (u : Bool) : List Int := ((keysOf S.places).filter fun b => decide (plc S.places b = some (startOf S u))).filter fun b => sideOf S b == u
def boatStep (n : Nat) (acc : List (Option Int)) (q : Int × Int) : List (Option Int) := if 0 < q.2 ∧ q.2 < n + 1 then acc.set (q.2 - 1).toNat (some q.1) else acc
def boatsM (S : Fs) : List (Option Int) := S.places.foldl (boatStep S.high.length) (List.replicate S.high.length none)
def optD : Option Int → PyData
  | none => .none
  | some i => .int i
def letW (S : Fs) (g : Int) : Nat := if g < 0 ∨ S.n < g then 1 else if (g < S.n ∧ S.high.getD g.toNat true = false) ∨ (0 < g ∧ S.high.getD (g - 1).toNat false = true) then 2 else 0
def letS (S : Fs) (g : Int) : Fs := { S with high := letL S.high g.toNat, taken := S.taken + (if g = S.n then 1 else 0), given := S.given + (if g = 0 then 1 else 0) }
def levB (S : Fs) (g : Int) : Bool := (decide (g = 0) || S.high.getD (g - 1).toNat true) && (decide (g = S.n) || !(S.high.getD g.toNat false))
def hereM (S : Fs) (b : Int) : Int := (plc S.places b).getD 0
def thenM (S : Fs) (b : Int) : Int := hereM S b + (if sideOf S b = true then 1 else -1)
def gateM (S : Fs) (b : Int) : Int := if sideOf S b = true then hereM S b else hereM S b - 1
def aheadM (S : Fs) (b : Int) : List Int := (keysOf S.places).filter fun o => decide (plc S.places o = some (hereM S b)) && ((sideOf S o == sideOf S b) && decide (o < b))
def notFirst (S : Fs) (b : Int) : Bool := (decide (hereM S b = 0) || decide (hereM S b = S.n + 1)) && !(aheadM S b).isEmpty
def occB (S : Fs) (t : Int) : Bool := S.places.any fun q => decide (q.2 = t)
def sailW (S : Fs) (b : Int) : Nat := if plc S.places b = none then 3 else if notFirst S b = true then 4 else if levB S (gateM S b) = false then 5 else if (0 < thenM S b ∧ thenM S b ≤ S.n) ∧ occB S (thenM S b) = true then 6 else 0
def outB (S : Fs) (b : Int) : Prop := thenM S b = 0 ∨ thenM S b = S.n + 1
instance (S : Fs) (b : Int) : Decidable (outB S b) := inferInstanceAs (Decidable (_ ∨ _))
def sailS (S : Fs) (b : Int) : Fs := if outB S b then { S with places := pdrop S.places b, done := S.done ++ [b] } else { S with places := pput S.places b (thenM S b) }
def comeS (S : Fs) (u : Bool) : Fs := { S with sides := S.sides ++ [u], places := S.places ++ [((S.sides.length : Int), startOf S u)] }
def newS (lv : List Bool) : Fs := ⟨lv, [], [], [], 0, 0⟩
def wordS : Nat → Str
  | 0 => "done"
  | 1 => "no gate"
  | 2 => "no fall"
  | 3 => "no boat"
  | 4 => "not first"
  | 5 => "shut"
  | _ => "occupied"
/-- what holds of a flight -/
structure WF (S : Fs) : Prop where
  n1 : 1 ≤ S.high.length
  n8 : S.high.length ≤ 8
  s100 : S.sides.length ≤ 100
  ks : (keysOf S.places).Pairwise (· < ·)
  kb : ∀ q ∈ S.places, 0 ≤ q.1 ∧ q.1 < S.sides.length
  pb : ∀ q ∈ S.places, 0 ≤ q.2 ∧ q.2 ≤ S.n + 1
  lo : ∀ q ∈ S.places, q.2 = 0 → sideOf S q.1 = true
  hi : ∀ q ∈ S.places, q.2 = S.n + 1 → sideOf S q.1 = false
  ch : ∀ q ∈ S.places, ∀ r ∈ S.places, q.2 = r.2 → 0 < q.2 → q.2 < S.n + 1 → q.1 = r.1
  db : ∀ b ∈ S.done, 0 ≤ b ∧ b < S.sides.length
  dl : S.done.length + S.places.length = S.sides.length
section
variable {S : Fs}
theorem plc_mem {ps : Pl} {b v : Int} (h : plc ps b = some v) : (b, v) ∈ ps := by
  unfold plc at h
  cases q : ps.find? fun q => decide (q.1 = b) with
  | none => rw [q] at h; cases h
  | some kv =>
    rw [q] at h
    cases h
    have h2 := List.find?_some q
    have e := of_decide_eq_true h2
    rw [← e]
    exact List.mem_of_find?_eq_some q
theorem plc_of {ps : Pl} (ks : (keysOf ps).Pairwise (· < ·)) {q : Int × Int} (h : q ∈ ps) : plc ps q.1 = some q.2 := by
  induction ps with
  | nil => simp at h
  | cons x r ih =>
    have ks' : ((x.1) :: keysOf r).Pairwise (· < ·) := ks
    obtain ⟨k1, k2⟩ := List.pairwise_cons.mp ks'
    rcases List.mem_cons.mp h with e | h
    · subst e
      simp [plc, List.find?_cons]
    · have ne : x.1 ≠ q.1 := by
        have := k1 q.1 (List.mem_map.mpr ⟨q, h, rfl⟩)
        omega
      have := ih k2 h
      unfold plc at this ⊢
      rw [List.find?_cons, decide_eq_false ne]
      exact this
theorem plc_none {ps : Pl} {b : Int} (h : b ∉ keysOf ps) : plc ps b = none := by
  cases q : plc ps b with
  | none => rfl
  | some v => exact absurd (List.mem_map.mpr ⟨_, plc_mem q, rfl⟩) h
theorem key_mem {ps : Pl} {b v : Int} (h : plc ps b = some v) : b ∈ keysOf ps := List.mem_map.mpr ⟨_, plc_mem h, rfl⟩
theorem WF.at_ (w : WF S) {b : Int} (h : b ∈ keysOf S.places) : ∃ v, plc S.places b = some v ∧ (b, v) ∈ S.places := by
  obtain ⟨q, hq, rfl⟩ := List.mem_map.mp h
  exact ⟨q.2, plc_of w.ks hq, hq⟩
theorem WF.pl100 (w : WF S) : S.places.length ≤ 100 := by have := w.dl; have := w.s100; omega
theorem WF.dl100 (w : WF S) : S.done.length ≤ 100 := by have := w.dl; have := w.s100; omega
theorem side_at {S : Fs} {b : Int} (h0 : 0 ≤ b) (h : b < S.sides.length) : atI S.sides b = some (sideOf S b) := by
  have e : ((b.toNat : Nat) : Int) = b := by omega
  have q : S.sides[b.toNat]? = some (sideOf S b) := by
    unfold sideOf
    rw [List.getD_eq_getElem?_getD, List.getElem?_eq_getElem (by omega)]; rfl
  have r := atI_some q
  rw [e] at r
  exact r
theorem high_at {S : Fs} {g : Int} {d : Bool} (h0 : 0 ≤ g) (h : g < S.n) : atI S.high g = some (S.high.getD g.toNat d) := by
  have e : ((g.toNat : Nat) : Int) = g := by omega
  have q : S.high[g.toNat]? = some (S.high.getD g.toNat d) := by
    unfold Fs.n at h
    rw [List.getD_eq_getElem?_getD, List.getElem?_eq_getElem (by omega)]; rfl
  have r := atI_some q
  rw [e] at r
  exact r
/-! ### boats in chambers -/
theorem boats_len (n : Nat) : ∀ (ps : Pl) (acc : List (Option Int)), (ps.foldl (boatStep n) acc).length = acc.length
  | [], _ => rfl
  | q :: ps, acc => by
    show (ps.foldl (boatStep n) (boatStep n acc q)).length = _
    rw [boats_len n ps]
    unfold boatStep
    split
    · simp
    · rfl
theorem boats_none (n : Nat) : ∀ (ps : Pl) (acc : List (Option Int)) (k : Nat), k < acc.length → acc.length = n →
    ((ps.foldl (boatStep n) acc)[k]? = some none ↔ acc[k]? = some none ∧ ∀ q ∈ ps, q.2 ≠ (k : Int) + 1)
  | [], acc, k, _, _ => by simp
  | q :: ps, acc, k, hk, hn => by
    have hl : (boatStep n acc q).length = acc.length := by unfold boatStep; split <;> simp
    show ((ps.foldl (boatStep n) (boatStep n acc q))[k]? = some none) ↔ _
    rw [boats_none n ps (boatStep n acc q) k (by omega) (by omega)]
    have key : (boatStep n acc q)[k]? = some none ↔ acc[k]? = some none ∧ q.2 ≠ (k : Int) + 1 := by
      unfold boatStep
      by_cases h : 0 < q.2 ∧ q.2 < (n : Int) + 1
      · rw [if_pos h]
        by_cases e : (q.2 - 1).toNat = k
        · rw [e, List.getElem?_set_self (by omega)]
          constructor
          · intro z; cases z
          · rintro ⟨_, z⟩; omega
        · rw [List.getElem?_set_ne e]
          constructor
          · intro z; exact ⟨z, by omega⟩
          · exact fun z => z.1
      · rw [if_neg h]
        constructor
        · intro z; exact ⟨z, by omega⟩
        · exact fun z => z.1
    rw [key]
    constructor
    · rintro ⟨⟨h1, h2⟩, h3⟩
      refine ⟨h1, fun r hr => ?_⟩
      rcases List.mem_cons.mp hr with e | hr
      · rw [e]; exact h2
      · exact h3 r hr
    · rintro ⟨h1, h2⟩
      exact ⟨⟨h1, h2 q List.mem_cons_self⟩, fun r hr => h2 r (List.mem_cons_of_mem _ hr)⟩
theorem boatsM_len (S : Fs) : (boatsM S).length = S.high.length := by
  unfold boatsM
  rw [boats_len, List.length_replicate]
theorem boats_occ {t : Int} (h0 : 0 < t) (h : t ≤ S.n) : ∃ o, (boatsM S)[(t - 1).toNat]? = some o ∧ isNo (optD o) = !occB S t := by
  have hn : (t - 1).toNat < S.high.length := by unfold Fs.n at h; omega
  have hl := boatsM_len S
  refine ⟨(boatsM S)[(t - 1).toNat]'(by omega), List.getElem?_eq_getElem _, ?_⟩
  have q := boats_none S.high.length S.places (List.replicate S.high.length none) (t - 1).toNat (by rw [List.length_replicate]; exact hn) (by rw [List.length_replicate])
  have q' : (boatsM S)[(t - 1).toNat]? = some none ↔ (List.replicate S.high.length (none : Option Int))[(t - 1).toNat]? = some none ∧ ∀ r ∈ S.places, r.2 ≠ (((t - 1).toNat : Nat) : Int) + 1 := q
  rw [List.getElem?_eq_getElem (by omega)] at q'
  have et : (((t - 1).toNat : Nat) : Int) + 1 = t := by omega
  rw [et] at q'
  cases ho : occB S t with
  | true =>
    unfold occB at ho
    obtain ⟨r, hr, e⟩ := List.any_eq_true.mp ho
    have e := of_decide_eq_true e
    cases hb : (boatsM S)[(t - 1).toNat]'(by omega) with
    | none =>
      rw [hb] at q'
      exact absurd e ((q'.mp rfl).2 r hr)
    | some i => rfl
  | false =>
    have hall : ∀ r ∈ S.places, r.2 ≠ t := by
      intro r hr e
      have : occB S t = true := List.any_eq_true.mpr ⟨r, hr, by rw [e]; simp⟩
      rw [ho] at this; cases this
    have := q'.mpr ⟨by rw [List.getElem?_eq_getElem (by rw [List.length_replicate]; exact hn), List.getElem_replicate], hall⟩
    have e := Option.some.inj this
    rw [e]; rfl
/-! ### rows -/
theorem wait_mem {b : Int} {u : Bool} : b ∈ waitM S u ↔ b ∈ keysOf S.places ∧ plc S.places b = some (startOf S u) ∧ sideOf S b = u := by
  unfold waitM
  rw [List.mem_filter, List.mem_filter]
  simp only [decide_eq_true_eq, beq_iff_eq]
  exact and_assoc
theorem wait_sorted (w : WF S) (u : Bool) : (waitM S u).Pairwise (· < ·) := (w.ks.filter _).filter _
theorem here_of {b v : Int} (h : plc S.places b = some v) : hereM S b = v := by unfold hereM; rw [h]; rfl
/-- the first of a row, and those ahead -/
theorem row_first (w : WF S) {b v : Int} (h : plc S.places b = some v) : ((decide (b ∈ waitM S (sideOf S b)) && decide ((waitM S (sideOf S b)).head? ≠ some b)) = notFirst S b) := by
  have hm := plc_mem h
  have eh := here_of h
  have start : (v = startOf S (sideOf S b)) ↔ (v = 0 ∨ v = S.n + 1) := by
    unfold startOf
    constructor
    · intro e; rw [e]; split
      · exact .inl rfl
      · exact .inr rfl
    · rintro (e | e)
      · rw [w.lo _ hm e, if_pos rfl, e]
      · rw [w.hi _ hm e, if_neg Bool.false_ne_true, e]
  rw [Bool.eq_iff_iff, Bool.and_eq_true, decide_eq_true_eq, decide_eq_true_eq]
  unfold notFirst
  rw [Bool.and_eq_true, Bool.or_eq_true, decide_eq_true_eq, decide_eq_true_eq, eh, Bool.not_eq_true', ← Bool.not_eq_true, List.isEmpty_iff]
  constructor
  · rintro ⟨h1, h2⟩
    obtain ⟨_, hp, _⟩ := wait_mem.mp h1
    have hv : v = startOf S (sideOf S b) := by rw [h] at hp; exact Option.some.inj hp
    refine ⟨start.mp hv, ?_⟩
    cases q : waitM S (sideOf S b) with
    | nil => rw [q] at h1; simp at h1
    | cons x r =>
      have ws := wait_sorted w (sideOf S b)
      rw [q] at ws h1 h2
      have ne : x ≠ b := fun e => h2 (by rw [e]; rfl)
      have hb : b ∈ r := by
        rcases List.mem_cons.mp h1 with e | e
        · exact absurd e.symm ne
        · exact e
      have lt := (List.pairwise_cons.mp ws).1 b hb
      have hx : x ∈ waitM S (sideOf S b) := by rw [q]; exact List.mem_cons_self
      obtain ⟨x1, x2, x3⟩ := wait_mem.mp hx
      intro z
      have : x ∈ aheadM S b := by
        unfold aheadM
        refine List.mem_filter.mpr ⟨x1, ?_⟩
        rw [Bool.and_eq_true, Bool.and_eq_true, decide_eq_true_eq, decide_eq_true_eq, beq_iff_eq, eh, hv]
        exact ⟨x2, x3, lt⟩
      rw [z] at this
      simp at this
  · rintro ⟨h1, h2⟩
    have hv := start.mpr h1
    have hb : b ∈ waitM S (sideOf S b) := wait_mem.mpr ⟨key_mem h, by rw [h, hv], rfl⟩
    refine ⟨hb, ?_⟩
    cases q : aheadM S b with
    | nil => exact absurd q h2
    | cons x r =>
      have hx : x ∈ aheadM S b := by rw [q]; exact List.mem_cons_self
      unfold aheadM at hx
      obtain ⟨x1, x2⟩ := List.mem_filter.mp hx
      rw [Bool.and_eq_true, Bool.and_eq_true, decide_eq_true_eq, decide_eq_true_eq, beq_iff_eq, eh, hv] at x2
      have hxw : x ∈ waitM S (sideOf S b) := wait_mem.mpr ⟨x1, x2.1, x2.2.1⟩
      intro z
      cases q2 : waitM S (sideOf S b) with
      | nil => rw [q2] at z; cases z
      | cons y t =>
        have ws := wait_sorted w (sideOf S b)
        rw [q2] at ws hxw z
        have ey : y = b := Option.some.inj z
        rcases List.mem_cons.mp hxw with e | e
        · omega
        · have := (List.pairwise_cons.mp ws).1 x e
          omega
theorem then_eq {b v : Int} (h : plc S.places b = some v) : thenM S b = v + (if sideOf S b = true then 1 else -1) := by unfold thenM; rw [here_of h]
theorem gate_eq {b v : Int} (h : plc S.places b = some v) : gateM S b = if sideOf S b = true then v else v - 1 := by unfold gateM; rw [here_of h]
/-- where a boat that is there may go -/
theorem WF.gate (w : WF S) {b v : Int} (h : plc S.places b = some v) : 0 ≤ gateM S b ∧ gateM S b ≤ S.n ∧ 0 ≤ thenM S b ∧ thenM S b ≤ S.n + 1 := by
  have hm := plc_mem h
  have pb := w.pb _ hm
  dsimp only at pb
  rw [gate_eq h, then_eq h]
  cases hs : sideOf S b with
  | true =>
    rw [if_pos rfl, if_pos rfl]
    have : v ≠ S.n + 1 := fun e => by have := w.hi _ hm e; rw [hs] at this; cases this
    omega
  | false =>
    rw [if_neg Bool.false_ne_true, if_neg Bool.false_ne_true]
    have : v ≠ 0 := fun e => by have := w.lo _ hm e; rw [hs] at this; cases this
    omega
end
/-! ### what the deeds keep -/
theorem pput_keys (ps : Pl) (b v : Int) (h : b ∈ keysOf ps) : keysOf (pput ps b v) = keysOf ps := by
  have e : (ps.any fun q => decide (q.1 = b)) = true := by
    obtain ⟨q, hq, rfl⟩ := List.mem_map.mp h
    exact List.any_eq_true.mpr ⟨q, hq, by simp⟩
  unfold pput keysOf
  rw [if_pos e, List.map_map]
  refine List.map_congr_left fun q _ => ?_
  show (if q.1 = b then (q.1, v) else q).1 = q.1
  split <;> rfl
theorem pput_mem {ps : Pl} {b v : Int} (h : b ∈ keysOf ps) {q : Int × Int} (m : q ∈ pput ps b v) : (q = (b, v)) ∨ (q ∈ ps ∧ q.1 ≠ b) := by
  have e : (ps.any fun q => decide (q.1 = b)) = true := by
    obtain ⟨q, hq, rfl⟩ := List.mem_map.mp h
    exact List.any_eq_true.mpr ⟨q, hq, by simp⟩
  unfold pput at m
  rw [if_pos e] at m
  obtain ⟨r, hr, rfl⟩ := List.mem_map.mp m
  by_cases z : r.1 = b
  · rw [if_pos z, z]; exact .inl rfl
  · rw [if_neg z]; exact .inr ⟨hr, z⟩
theorem pdrop_mem {ps : Pl} {b : Int} {q : Int × Int} : q ∈ pdrop ps b ↔ q ∈ ps ∧ q.1 ≠ b := by
  unfold pdrop
  rw [List.mem_filter, decide_eq_true_eq]
theorem pdrop_put (ps : Pl) (b v : Int) : pdrop (pput ps b v) b = pdrop ps b := by
  unfold pput pdrop
  split
  · rw [List.filter_map]
    have e : ((fun q : Int × Int => decide (q.1 ≠ b)) ∘ fun q : Int × Int => if q.1 = b then (q.1, v) else q) = fun q => decide (q.1 ≠ b) := by
      funext q
      show decide ((if q.1 = b then (q.1, v) else q).1 ≠ b) = _
      by_cases h : q.1 = b
      · rw [if_pos h]
      · rw [if_neg h]
    rw [e]
    conv => rhs; rw [← List.map_id (List.filter _ ps)]
    refine List.map_congr_left fun q hq => ?_
    have := of_decide_eq_true (List.mem_filter.mp hq).2
    rw [if_neg this]; rfl
  · rw [List.filter_append]
    simp
theorem pdrop_len {ps : Pl} (ks : (keysOf ps).Pairwise (· < ·)) {b : Int} (h : b ∈ keysOf ps) : (pdrop ps b).length + 1 = ps.length := by
  induction ps with
  | nil => simp [keysOf] at h
  | cons x r ih =>
    have ks' : ((x.1) :: keysOf r).Pairwise (· < ·) := ks
    obtain ⟨k1, k2⟩ := List.pairwise_cons.mp ks'
    by_cases e : x.1 = b
    · have : pdrop (x :: r) b = r := by
        unfold pdrop
        rw [List.filter_cons, if_neg (by simp [e]), List.filter_eq_self.mpr]
        intro q hq
        have := k1 q.1 (List.mem_map.mpr ⟨q, hq, rfl⟩)
        rw [decide_eq_true_eq]; omega
      rw [this]; rfl
    · have hr : b ∈ keysOf r := by
        rcases List.mem_cons.mp (show b ∈ x.1 :: keysOf r from h) with z | z
        · exact absurd z.symm e
        · exact z
      have : pdrop (x :: r) b = x :: pdrop r b := by
        unfold pdrop
        rw [List.filter_cons, if_pos (by simp [e])]
      rw [this, List.length_cons, List.length_cons, ih k2 hr]
theorem pput_len {ps : Pl} {b v : Int} (h : b ∈ keysOf ps) : (pput ps b v).length = ps.length := by
  have := congrArg List.length (pput_keys ps b v h)
  unfold keysOf at this
  simpa using this
theorem wf_new {lv : List Bool} (h : 1 ≤ lv.length ∧ lv.length ≤ 8) : WF (newS lv) :=
  ⟨h.1, h.2, Nat.zero_le _, List.Pairwise.nil, (fun q m => by cases m), (fun q m => by cases m), (fun q m => by cases m), (fun q m => by cases m), (fun q m => by cases m), (fun q m => by cases m), rfl⟩
theorem letS_n (S : Fs) (g : Int) : (letS S g).n = S.n := by
  unfold Fs.n
  show ((letL S.high g.toNat).length : Int) = _
  rw [letL_len]
theorem wf_let {S : Fs} (w : WF S) (g : Int) : WF (letS S g) := by
  have hn := letS_n S g
  have hl : (letS S g).high.length = S.high.length := letL_len _ _
  exact ⟨by rw [hl]; exact w.n1, by rw [hl]; exact w.n8, w.s100, w.ks, w.kb, fun q m => by rw [hn]; exact w.pb q m, w.lo, fun q m => by rw [hn]; exact w.hi q m, fun q m r m2 e h1 h2 => w.ch q m r m2 e h1 (by rw [hn] at h2; exact h2), w.db, w.dl⟩
theorem side_app {S : Fs} {u : Bool} {b : Int} (h0 : 0 ≤ b) (h : b < S.sides.length) : sideOf (comeS S u) b = sideOf S b := by
  unfold sideOf
  show (S.sides ++ [u]).getD b.toNat true = _
  rw [List.getD_eq_getElem?_getD, List.getD_eq_getElem?_getD, List.getElem?_append_left (by omega)]
theorem side_new {S : Fs} {u : Bool} : sideOf (comeS S u) S.sides.length = u := by
  unfold sideOf
  show (S.sides ++ [u]).getD (S.sides.length : Int).toNat true = _
  rw [List.getD_eq_getElem?_getD, Int.toNat_natCast, List.getElem?_append_right (Nat.le_refl _), Nat.sub_self]
  rfl
theorem wf_come {S : Fs} (w : WF S) (u : Bool) (h : S.sides.length < 100) : WF (comeS S u) := by
  have n1 := w.n1
  have mem : ∀ q ∈ (comeS S u).places, q ∈ S.places ∨ q = ((S.sides.length : Int), startOf S u) := fun q m => by
    rcases List.mem_append.mp m with m | m
    · exact .inl m
    · exact .inr (by simpa using m)
  have hst : startOf S u = 0 ∨ startOf S u = S.n + 1 := by unfold startOf; split <;> simp
  have nn : 0 ≤ S.n := by unfold Fs.n; omega
  have sl : ((comeS S u).sides.length : Int) = S.sides.length + 1 := by show ((S.sides ++ [u]).length : Int) = _; rw [List.length_append]; rfl
  refine ⟨w.n1, w.n8, ?_, ?_, fun q m => ?_, fun q m => ?_, fun q m e => ?_, fun q m e => ?_, fun q m r m2 e h1 h2 => ?_, fun b m => ?_, ?_⟩
  · show (S.sides ++ [u]).length ≤ 100
    rw [List.length_append]; show S.sides.length + 1 ≤ 100; omega
  · show (keysOf (S.places ++ [_])).Pairwise (· < ·)
    unfold keysOf
    rw [List.map_append]
    refine List.pairwise_append.mpr ⟨w.ks, List.pairwise_singleton _ _, fun x hx y hy => ?_⟩
    obtain ⟨q, hq, rfl⟩ := List.mem_map.mp hx
    have ey : y = S.sides.length := by simpa using hy
    rw [ey]
    exact (w.kb q hq).2
  · rw [sl]
    rcases mem q m with m | m
    · have := w.kb q m; omega
    · rw [m]; dsimp only; omega
  · rcases mem q m with m | m
    · exact w.pb q m
    · rw [m]; dsimp only; show 0 ≤ startOf S u ∧ startOf S u ≤ S.n + 1; omega
  · rcases mem q m with m | m
    · have := w.kb q m
      rw [side_app this.1 this.2]
      exact w.lo q m e
    · rw [m] at e ⊢
      rw [side_new]
      dsimp only at e
      unfold startOf at e
      cases u with
      | true => rfl
      | false => rw [if_neg Bool.false_ne_true] at e; omega
  · have e : q.2 = S.n + 1 := e
    rcases mem q m with m | m
    · have := w.kb q m
      rw [side_app this.1 this.2]
      exact w.hi q m e
    · rw [m] at e ⊢
      rw [side_new]
      dsimp only at e
      unfold startOf at e
      cases u with
      | true => rw [if_pos rfl] at e; omega
      | false => rfl
  · have h2 : q.2 < S.n + 1 := h2
    rcases mem q m with m | m
    · rcases mem r m2 with m2 | m2
      · exact w.ch q m r m2 e h1 h2
      · rw [m2] at e; dsimp only at e; omega
    · rw [m] at h1 h2; dsimp only at h1 h2; omega
  · rw [sl]
    have := w.db b m
    omega
  · show S.done.length + (S.places ++ [_]).length = (S.sides ++ [u]).length
    rw [List.length_append, List.length_append]
    have := w.dl
    simp; omega
theorem sailW_zero {S : Fs} {b : Int} (h : sailW S b = 0) : ∃ v, plc S.places b = some v ∧ notFirst S b = false ∧ levB S (gateM S b) = true ∧ ¬ ((0 < thenM S b ∧ thenM S b ≤ S.n) ∧ occB S (thenM S b) = true) := by
  unfold sailW at h
  split at h
  · cases h
  · rename_i h1
    split at h
    · cases h
    · rename_i h2
      split at h
      · cases h
      · rename_i h3
        split at h
        · cases h
        · rename_i h4
          cases q : plc S.places b with
          | none => exact absurd q h1
          | some v => exact ⟨v, rfl, by simpa using h2, by simpa using h3, h4⟩
theorem sailS_n (S : Fs) (b : Int) : (sailS S b).n = S.n := by unfold sailS; split <;> rfl
theorem sailS_side (S : Fs) (b c : Int) : sideOf (sailS S b) c = sideOf S c := by unfold sailS; split <;> rfl
theorem sailS_sides (S : Fs) (b : Int) : (sailS S b).sides = S.sides := by unfold sailS; split <;> rfl
theorem sailS_high (S : Fs) (b : Int) : (sailS S b).high = S.high := by unfold sailS; split <;> rfl
theorem wf_sail {S : Fs} (w : WF S) {b : Int} (h : sailW S b = 0) : WF (sailS S b) := by
  obtain ⟨v, hv, h1, h2, h3⟩ := sailW_zero h
  have hk := key_mem hv
  have hm := plc_mem hv
  have gt := w.gate hv
  by_cases ho : outB S b
  · have e : sailS S b = { S with places := pdrop S.places b, done := S.done ++ [b] } := if_pos ho
    rw [e]
    have sub : ∀ q, q ∈ pdrop S.places b → q ∈ S.places := fun q m => (pdrop_mem.mp m).1
    refine ⟨w.n1, w.n8, w.s100, ?_, fun q m => w.kb q (sub q m), fun q m => w.pb q (sub q m), fun q m => w.lo q (sub q m), fun q m => w.hi q (sub q m), fun q m r m2 => w.ch q (sub q m) r (sub r m2), fun c m => ?_, ?_⟩
    · show ((pdrop S.places b).map (·.1)).Pairwise (· < ·)
      exact w.ks.sublist ((List.filter_sublist (l := S.places)).map _)
    · rcases List.mem_append.mp m with m | m
      · exact w.db c m
      · have e : c = b := by simpa using m
        rw [e]; exact w.kb _ hm
    · show (S.done ++ [b]).length + (pdrop S.places b).length = S.sides.length
      rw [List.length_append]
      have := pdrop_len w.ks hk
      have := w.dl
      simp; omega
  · have e : sailS S b = { S with places := pput S.places b (thenM S b) } := if_neg ho
    rw [e]
    have nout : ¬ thenM S b = 0 ∧ ¬ thenM S b = S.n + 1 := by unfold outB at ho; omega
    have free : ∀ q ∈ S.places, q.2 ≠ thenM S b := fun q m z => h3 ⟨by omega, List.any_eq_true.mpr ⟨q, m, by rw [z]; simp⟩⟩
    refine ⟨w.n1, w.n8, w.s100, by show (keysOf (pput S.places b _)).Pairwise _; rw [pput_keys _ _ _ hk]; exact w.ks, fun q m => ?_, fun q m => ?_, fun q m z => ?_, fun q m z => ?_, fun q m r m2 z z1 z2 => ?_, w.db, by show S.done.length + (pput S.places b _).length = _; rw [pput_len hk]; exact w.dl⟩
    · rcases pput_mem hk m with e | ⟨m, _⟩
      · rw [e]; have := w.kb _ hm; exact this
      · exact w.kb q m
    · rcases pput_mem hk m with e | ⟨m, _⟩
      · rw [e]; dsimp only; show 0 ≤ thenM S b ∧ thenM S b ≤ S.n + 1; omega
      · exact w.pb q m
    · rcases pput_mem hk m with e | ⟨m, _⟩
      · rw [e] at z; exact absurd z nout.1
      · exact w.lo q m z
    · rcases pput_mem hk m with e | ⟨m, _⟩
      · rw [e] at z; exact absurd z nout.2
      · exact w.hi q m z
    · rcases pput_mem hk m with e | ⟨m, _⟩
      · rcases pput_mem hk m2 with e2 | ⟨m2, _⟩
        · rw [e, e2]
        · rw [e] at z; exact absurd z.symm (free r m2)
      · rcases pput_mem hk m2 with e2 | ⟨m2, _⟩
        · rw [e2] at z; exact absurd z (free q m)
        · exact w.ch q m r m2 z z1 z2
theorem word_done (k : Nat) : PyData.eqv (.str (wordS k)) (.str "done") = decide (k = 0) := by
  match k with
  | 0 => decide
  | 1 => decide
  | 2 => decide
  | 3 => decide
  | 4 => decide
  | 5 => decide
  | k + 6 =>
    rw [decide_eq_false (by omega)]
    show PyData.eqv (.str "occupied") (.str "done") = false
    decide
theorem letW_cases (S : Fs) (g : Int) : letW S g = 0 ∨ letW S g = 1 ∨ letW S g = 2 := by
  unfold letW
  split
  · exact .inr (.inl rfl)
  · split
    · exact .inr (.inr rfl)
    · exact .inl rfl
theorem letW_rng {S : Fs} {g : Int} (h : letW S g = 0) : 0 ≤ g ∧ g ≤ S.n := by
  unfold letW at h
  split at h
  · cases h
  · omega
/-! Plans: what the code makes. -/
inductive Dd where
  | lt (g : Nat)
  | sl (b : Nat)
deriving DecidableEq
def encDd : Dd → PyData
  | .lt g => .tuple [.str "let", .int g]
  | .sl b => .tuple [.str "sail", .int b]
def srcM (lv : List Bool) (c : Nat) : Nat := c + ((lv.drop c).takeWhile fun b => !b).length
theorem srcM_end {lv : List Bool} {k : Nat} (h : lv.length ≤ k) : srcM lv k = k := by
  unfold srcM
  rw [List.drop_eq_nil_of_le h]; rfl
theorem srcM_stop {lv : List Bool} {k : Nat} (h : lv[k]? = some true) : srcM lv k = k := by
  obtain ⟨hl, e⟩ := List.getElem?_eq_some_iff.mp h
  unfold srcM
  rw [List.drop_eq_getElem_cons hl, e]; rfl
theorem srcM_go {lv : List Bool} {k : Nat} (h : lv[k]? = some false) : srcM lv k = srcM lv (k + 1) := by
  obtain ⟨hl, e⟩ := List.getElem?_eq_some_iff.mp h
  unfold srcM
  rw [List.drop_eq_getElem_cons hl, e, List.takeWhile_cons_of_pos (by rfl), List.length_cons]
  omega
theorem srcM_ge (lv : List Bool) (k : Nat) : k ≤ srcM lv k := by unfold srcM; omega
theorem srcM_le {lv : List Bool} {k : Nat} (h : k ≤ lv.length) : srcM lv k ≤ lv.length := by
  unfold srcM
  have := (List.takeWhile_sublist (l := lv.drop k) fun b => !b).length_le
  rw [List.length_drop] at this
  omega
def filledM (lv : List Bool) (c : Nat) : List Nat := ((List.range (srcM lv c + 1 - c)).map (c + ·)).reverse
def snkM (lv : List Bool) : Nat → Nat
  | 0 => 0
  | k + 1 => if lv[k]? = some true then snkM lv k else k + 1
theorem snkM_le (lv : List Bool) : ∀ k, snkM lv k ≤ k
  | 0 => Nat.le_refl _
  | k + 1 => by
    show (if lv[k]? = some true then snkM lv k else k + 1) ≤ k + 1
    have := snkM_le lv k
    split <;> omega
def emptiedM (lv : List Bool) (c : Nat) : List Nat := (List.range (c - snkM lv (c - 1))).map (snkM lv (c - 1) + ·)
def letAllM (lv : List Bool) (gs : List Nat) : List Bool := gs.foldl letL lv
theorem letAll_len : ∀ (gs : List Nat) (lv : List Bool), (letAllM lv gs).length = lv.length
  | [], _ => rfl
  | g :: gs, lv => by show (letAllM (letL lv g) gs).length = _; rw [letAll_len gs, letL_len]
theorem filled_le {lv : List Bool} {c g : Nat} (hc : c ≤ lv.length) (h : g ∈ filledM lv c) : c ≤ g ∧ g ≤ lv.length := by
  unfold filledM at h
  rw [List.mem_reverse] at h
  obtain ⟨i, hi, rfl⟩ := List.mem_map.mp h
  have := List.mem_range.mp hi
  have := srcM_le hc
  omega
theorem emptied_le {lv : List Bool} {c g : Nat} (h : g ∈ emptiedM lv c) : g < c := by
  unfold emptiedM at h
  obtain ⟨i, hi, rfl⟩ := List.mem_map.mp h
  have := List.mem_range.mp hi
  omega
theorem filled_len {lv : List Bool} {c : Nat} (hc : c ≤ lv.length) : (filledM lv c).length ≤ lv.length + 1 := by
  unfold filledM
  rw [List.length_reverse, List.length_map, List.length_range]
  have := srcM_le hc
  omega
theorem emptied_len {lv : List Bool} {c : Nat} (hc : c ≤ lv.length) : (emptiedM lv c).length ≤ lv.length := by
  unfold emptiedM
  rw [List.length_map, List.length_range]
  omega
/-- levels and deeds -/
abbrev LD := List Bool × List Dd
def putM (st : LD) (gs : List Nat) : LD := (letAllM st.1 gs, st.2 ++ gs.map Dd.lt)
def sailM (b : Nat) (st : LD) : LD := (st.1, st.2 ++ [Dd.sl b])
def upStep (b : Nat) (st : LD) (c : Nat) : LD := sailM b (putM st (filledM st.1 c))
def downStep (b : Nat) (st : LD) (c : Nat) : LD := sailM b (putM st (emptiedM st.1 c))
def ups1 (n : Nat) : List Nat := (List.range n).map (1 + ·)
def upM (st : LD) (b : Nat) : LD := (ups1 st.1.length).foldl (upStep b) (sailM b (if st.1[0]? = some true then putM st (emptiedM st.1 1) else st))
def downM (st : LD) (b : Nat) : LD := (ups1 st.1.length).reverse.foldl (downStep b) (sailM b (if st.1.getLast? = some true then st else putM st (filledM st.1 st.1.length)))
def passM (u : Bool) (st : LD) (b : Nat) : LD := if u = true then upM st b else downM st b
def planAt (st : LD) (order : List Bool) : Nat → LD
  | 0 => st
  | i + 1 => match order[i]? with
    | some u => passM u (planAt st order i) i
    | none => planAt st order i
def planM (lv order : List Bool) : List Dd := (planAt (lv, []) order order.length).2
/-- sizes -/
structure Sz (n k : Nat) (st : LD) : Prop where
  l : st.1.length = n
  d : st.2.length ≤ k
theorem Sz.put {n k : Nat} {st : LD} {gs : List Nat} (h : Sz n k st) (hg : gs.length ≤ n + 1) : Sz n (k + n + 1) (putM st gs) := ⟨by show (letAllM _ _).length = n; rw [letAll_len, h.l], by show (st.2 ++ _).length ≤ _; rw [List.length_append, List.length_map]; have := h.d; omega⟩
theorem Sz.sail {n k : Nat} {st : LD} {b : Nat} (h : Sz n k st) : Sz n (k + 1) (sailM b st) := ⟨h.l, by show (st.2 ++ _).length ≤ _; rw [List.length_append]; have := h.d; simp; omega⟩
theorem Sz.mono {n k j : Nat} {st : LD} (h : Sz n k st) (hk : k ≤ j) : Sz n j st := ⟨h.l, Nat.le_trans h.d hk⟩
theorem mem_ups {n c : Nat} (h : c ∈ ups1 n) : 1 ≤ c ∧ c ≤ n := by
  obtain ⟨i, hi, rfl⟩ := List.mem_map.mp h
  have := List.mem_range.mp hi
  omega
theorem Sz.folds {n b : Nat} {f : LD → Nat → LD} (hf : ∀ k st c, c ≤ n → Sz n k st → Sz n (k + n + 2) (f st c)) : ∀ (l : List Nat) (k : Nat) (st : LD), (∀ c ∈ l, c ≤ n) → Sz n k st → Sz n (k + l.length * (n + 2)) (l.foldl f st)
  | [], k, st, _, h => by simpa using h
  | c :: l, k, st, hc, h => by
    have q := Sz.folds (b := b) hf l (k + n + 2) (f st c) (fun x hx => hc x (List.mem_cons_of_mem _ hx)) (hf k st c (hc c List.mem_cons_self) h)
    refine q.mono ?_
    rw [List.length_cons, Nat.add_mul]
    omega
theorem sz_up {n b : Nat} : ∀ k st c, c ≤ n → Sz n k st → Sz n (k + n + 2) (upStep b st c) := fun k st c hc h => by
  have := (h.put (gs := filledM st.1 c) (by rw [← h.l]; exact filled_len (by rw [h.l]; exact hc))).sail (b := b)
  exact this
theorem sz_down {n b : Nat} : ∀ k st c, c ≤ n → Sz n k st → Sz n (k + n + 2) (downStep b st c) := fun k st c hc h => by
  have := (h.put (gs := emptiedM st.1 c) (by have := emptied_len (lv := st.1) (c := c) (by rw [h.l]; exact hc); rw [h.l] at this; omega)).sail (b := b)
  exact this
theorem ups1_len (n : Nat) : (ups1 n).length = n := by simp [ups1]
theorem Sz.pass {n k b : Nat} {st : LD} {u : Bool} (h : Sz n k st) (hn : 1 ≤ n ∧ n ≤ 8) : Sz n (k + 100) (passM u st b) := by
  have e1 : (ups1 n).length * (n + 2) ≤ 80 := by
    rw [ups1_len]
    exact Nat.le_trans (Nat.mul_le_mul hn.2 (show n + 2 ≤ 10 by omega)) (by decide)
  unfold passM
  cases u with
  | true =>
    rw [if_pos rfl]
    unfold upM
    rw [h.l]
    have h1 : Sz n (k + n + 2) (sailM b (if st.1[0]? = some true then putM st (emptiedM st.1 1) else st)) := by
      split
      · exact (h.put (gs := emptiedM st.1 1) (by have := emptied_len (lv := st.1) (c := 1) (by rw [h.l]; exact hn.1); rw [h.l] at this; omega)).sail
      · exact (h.sail (b := b)).mono (by omega)
    have q := Sz.folds (b := b) (sz_up (b := b)) (ups1 n) _ _ (fun c hc => (mem_ups hc).2) h1
    exact q.mono (by omega)
  | false =>
    rw [if_neg Bool.false_ne_true]
    unfold downM
    rw [h.l]
    have h1 : Sz n (k + n + 2) (sailM b (if st.1.getLast? = some true then st else putM st (filledM st.1 n))) := by
      split
      · exact (h.sail (b := b)).mono (by omega)
      · exact (h.put (gs := filledM st.1 n) (by have := filled_len (lv := st.1) (c := n) (by rw [h.l]; omega); rw [h.l] at this; omega)).sail
    have q := Sz.folds (b := b) (sz_down (b := b)) (ups1 n).reverse _ _ (fun c hc => (mem_ups (List.mem_reverse.mp hc)).2) h1
    rw [List.length_reverse] at q
    exact q.mono (by omega)
theorem sz_plan {n : Nat} {lv order : List Bool} (hl : lv.length = n) (hn : 1 ≤ n ∧ n ≤ 8) : ∀ i, i ≤ order.length → Sz n (i * 100) (planAt (lv, []) order i)
  | 0, _ => ⟨hl, Nat.zero_le _⟩
  | i + 1, h => by
    obtain ⟨u, hu⟩ : ∃ u, order[i]? = some u := ⟨order[i], List.getElem?_eq_getElem (by omega)⟩
    show Sz n _ (match order[i]? with | some u => passM u (planAt (lv, []) order i) i | none => planAt (lv, []) order i)
    rw [hu]
    have q := (sz_plan (order := order) hl hn i (by omega)).pass (u := u) (b := i) hn
    exact q.mono (by omega)
/-! Deeds that can be done. -/
inductive Deed (S : Fs) : Fs → Prop
  | come (u : Bool) (h : S.sides.length < 12) : Deed S (comeS S u)
  | lt (g : Int) (h : letW S g = 0) : Deed S (letS S g)
  | sl (b : Int) (h : sailW S b = 0) : Deed S (sailS S b)
  | no : Deed S S
theorem Deed.wf {S T : Fs} (d : Deed S T) (w : WF S) (h : S.sides.length ≤ 20) : WF T := by
  cases d with
  | come u h => exact wf_come w u (by omega)
  | lt g h => exact wf_let w g
  | sl b h => exact wf_sail w h
  | no => exact w
theorem Deed.n {S T : Fs} (d : Deed S T) : T.high.length = S.high.length := by
  cases d with
  | come u h => rfl
  | lt g h => exact letL_len _ _
  | sl b h => rw [sailS_high]
  | no => rfl
theorem Deed.s20 {S T : Fs} (d : Deed S T) (h : S.sides.length ≤ 20) : T.sides.length ≤ 20 := by
  cases d with
  | come u h' => show (S.sides ++ [u]).length ≤ 20; rw [List.length_append]; show S.sides.length + 1 ≤ 20; omega
  | lt g h' => exact h
  | sl b h' => rw [sailS_sides]; exact h
  | no => exact h
def letsN (S : Fs) : List Nat := (List.range (S.high.length + 1)).filter fun (k : Nat) => decide (letW S (k : Int) = 0)
def sailsM (S : Fs) : List Int := (keysOf S.places).filter fun b => decide (sailW S b = 0)
theorem letW_zero {S : Fs} {g : Int} (h0 : 0 ≤ g) (h1 : g ≤ S.n) (h2 : ¬ (g < S.n ∧ S.high.getD g.toNat true = false)) (h3 : ¬ (0 < g ∧ S.high.getD (g - 1).toNat false = true)) : letW S g = 0 := by
  unfold letW
  rw [if_neg (by omega), if_neg]
  rintro (h | h)
  · exact h2 h
  · exact h3 h
/-- some gate lets -/
theorem some_gate {S : Fs} (hn : 1 ≤ S.high.length) : ∃ k : Nat, k ≤ S.high.length ∧ letW S (k : Int) = 0 := by
  -- the lowest high chamber, or the summit
  have key : ∀ m : Nat, m ≤ S.high.length → (∃ k : Nat, k ≤ S.high.length ∧ letW S (k : Int) = 0) ∨ ∀ i, i < m → S.high.getD i true = false := by
    intro m
    induction m with
    | zero => intro _; exact .inr fun i hi => absurd hi (Nat.not_lt_zero _)
    | succ m ih =>
      intro hm
      rcases ih (by omega) with h | h
      · exact .inl h
      · cases q : S.high.getD m true with
        | false =>
          refine .inr fun i hi => ?_
          by_cases e : i = m
          · rw [e]; exact q
          · exact h i (by omega)
        | true =>
          refine .inl ⟨m, by omega, letW_zero (by omega) (by unfold Fs.n; omega) ?_ ?_⟩
          · rintro ⟨_, z⟩
            rw [Int.toNat_natCast, q] at z
            cases z
          · rintro ⟨z0, z⟩
            have e : ((m : Int) - 1).toNat = m - 1 := by omega
            rw [e] at z
            have := h (m - 1) (by omega)
            rw [List.getD_eq_getElem?_getD, List.getElem?_eq_getElem (by omega)] at this z
            rw [show (some (S.high[m - 1]'(by omega))).getD true = S.high[m - 1]'(by omega) from rfl] at this
            rw [show (some (S.high[m - 1]'(by omega))).getD false = S.high[m - 1]'(by omega) from rfl] at z
            rw [this] at z
            cases z
  rcases key S.high.length (Nat.le_refl _) with h | h
  · exact h
  · refine ⟨S.high.length, Nat.le_refl _, letW_zero (by omega) (by unfold Fs.n; omega) ?_ ?_⟩
    · rintro ⟨z, _⟩
      unfold Fs.n at z
      omega
    · rintro ⟨z0, z⟩
      have e : ((S.high.length : Int) - 1).toNat = S.high.length - 1 := by omega
      rw [e] at z
      have := h (S.high.length - 1) (by omega)
      rw [List.getD_eq_getElem?_getD, List.getElem?_eq_getElem (by omega)] at this z
      rw [show (some (S.high[S.high.length - 1]'(by omega))).getD true = S.high[S.high.length - 1]'(by omega) from rfl] at this
      rw [show (some (S.high[S.high.length - 1]'(by omega))).getD false = S.high[S.high.length - 1]'(by omega) from rfl] at z
      rw [this] at z
      cases z
theorem lets_ne {S : Fs} (hn : 1 ≤ S.high.length) : letsN S ≠ [] := by
  obtain ⟨k, h1, h2⟩ := some_gate hn
  intro z
  have : k ∈ letsN S := List.mem_filter.mpr ⟨List.mem_range.mpr (by omega), by rw [h2]; rfl⟩
  rw [z] at this
  simp at this
theorem pick_mod {α : Type} {xs : List α} (h : xs ≠ []) (c : Int) : ∃ x, atI xs (c % xs.length) = some x ∧ x ∈ xs := by
  have hp : 0 < xs.length := List.length_pos_iff.mpr h
  have h0 := Int.emod_nonneg c (show (xs.length : Int) ≠ 0 by omega)
  have h1 := Int.emod_lt_of_pos c (show (0 : Int) < xs.length by omega)
  have e : (((c % xs.length).toNat : Nat) : Int) = c % xs.length := by omega
  refine ⟨xs[(c % xs.length).toNat]'(by omega), ?_, List.getElem_mem _⟩
  have := atI_some (xs := xs) (i := (c % xs.length).toNat) (List.getElem?_eq_getElem (by omega))
  rw [e] at this
  exact this
/-! The water. -/
def hiW (l : List Bool) : Int := (l.countP fun b => b : Nat)
theorem hiW_set {l : List Bool} {i : Nat} {b : Bool} (hi : i < l.length) : hiW (l.set i b) = hiW l + (if b = true then 1 else 0) - (if l[i] = true then 1 else 0) := by
  unfold hiW
  rw [List.countP_set hi]
  have pos : l[i] = true → 0 < l.countP fun b => b := fun hx => List.countP_pos_iff.mpr ⟨l[i], List.getElem_mem _, hx⟩
  cases hx : l[i] with
  | true =>
    have := pos hx
    cases b <;> simp <;> omega
  | false => cases b <;> simp
theorem let_water {S : Fs} (n1 : 1 ≤ S.high.length) {g : Int} (h : letW S g = 0) : hiW (letS S g).high = hiW S.high + (if g = S.n then 1 else 0) - (if g = 0 then 1 else 0) := by
  have hr := letW_rng h
  have hn : S.n = S.high.length := rfl
  have hw : ¬ ((g < S.n ∧ S.high.getD g.toNat true = false) ∨ (0 < g ∧ S.high.getD (g - 1).toNat false = true)) := by
    unfold letW at h
    rw [if_neg (by omega)] at h
    intro z
    rw [if_pos z] at h
    cases h
  have gd : ∀ {i : Nat} {d : Bool} (h : i < S.high.length), S.high.getD i d = S.high[i] := fun h => by
    rw [List.getD_eq_getElem?_getD, List.getElem?_eq_getElem h]; rfl
  show hiW (letL S.high g.toNat) = _
  have e1 : (g - 1).toNat = g.toNat - 1 := by omega
  have low : ∀ (h0 : 0 < g) (gl2 : g.toNat - 1 < S.high.length), S.high[g.toNat - 1] = false := fun h0 gl2 => by
    cases q : S.high[g.toNat - 1] with
    | false => rfl
    | true => exact absurd (.inr ⟨h0, by rw [e1, gd gl2, q]⟩) hw
  by_cases hgn : g < S.n
  · have gl : g.toNat < S.high.length := by omega
    have gh : S.high[g.toNat] = true := by
      cases q : S.high[g.toNat] with
      | true => rfl
      | false => exact absurd (.inl ⟨hgn, by rw [gd gl, q]⟩) hw
    rw [if_neg (show ¬ g = S.n by omega)]
    by_cases h0 : 0 < g
    · have gl2 : g.toNat - 1 < S.high.length := by omega
      have gh2 := low h0 gl2
      have eL : letL S.high g.toNat = (S.high.set g.toNat false).set (g.toNat - 1) true := by
        unfold letL
        rw [if_pos (by omega), if_pos gl]
      have e3 : (S.high.set g.toNat false)[g.toNat - 1]'(by rw [List.length_set]; exact gl2) = false := by
        rw [List.getElem_set_ne (by omega)]; exact gh2
      rw [eL, hiW_set (by rw [List.length_set]; exact gl2), hiW_set gl, gh, e3, if_neg (show ¬ g = 0 by omega)]
      simp only [Bool.false_eq_true, if_false, if_true]
      omega
    · have eL : letL S.high g.toNat = S.high.set g.toNat false := by
        unfold letL
        rw [if_neg (by omega), if_pos gl]
      rw [eL, hiW_set gl, gh, if_pos (show g = 0 by omega)]
      simp only [Bool.false_eq_true, if_false, if_true]
  · have eg : g = S.n := by omega
    have gl2 : g.toNat - 1 < S.high.length := by omega
    have gh2 := low (by omega) gl2
    have eL : letL S.high g.toNat = S.high.set (g.toNat - 1) true := by
      unfold letL
      rw [if_pos (by omega), if_neg (by omega)]
    rw [eL, hiW_set gl2, gh2, if_pos eg, if_neg (show ¬ g = 0 by omega)]
    simp only [Bool.false_eq_true, if_false, if_true]
structure Rise (S T : Fs) : Prop where
  a : S.taken ≤ T.taken
  b : S.given ≤ T.given
  c : T.taken - S.taken + T.given - S.given ≤ 1
  d : T.taken - T.given - hiW T.high = S.taken - S.given - hiW S.high
theorem rise {S T : Fs} (w : WF S) (d : Deed S T) : Rise S T := by
  have n1 := w.n1
  have hn : S.n = S.high.length := rfl
  cases d with
  | come u h =>
    exact ⟨Int.le_refl _, Int.le_refl _, by show S.taken - S.taken + S.given - S.given ≤ 1; omega, rfl⟩
  | lt g h =>
    have e := let_water n1 h
    refine ⟨?_, ?_, ?_, ?_⟩
    · show S.taken ≤ S.taken + (if g = S.n then 1 else 0); split <;> omega
    · show S.given ≤ S.given + (if g = 0 then 1 else 0); split <;> omega
    · show S.taken + (if g = S.n then 1 else 0) - S.taken + (S.given + (if g = 0 then 1 else 0)) - S.given ≤ 1
      split <;> split <;> omega
    · rw [e]
      show S.taken + (if g = S.n then 1 else 0) - (S.given + (if g = 0 then 1 else 0)) - _ = _
      omega
  | sl b h =>
    have e1 : (sailS S b).taken = S.taken := by unfold sailS; split <;> rfl
    have e2 : (sailS S b).given = S.given := by unfold sailS; split <;> rfl
    refine ⟨by rw [e1]; exact Int.le_refl _, by rw [e2]; exact Int.le_refl _, by rw [e1, e2]; omega, by rw [e1, e2, sailS_high]⟩
  | no => exact ⟨Int.le_refl _, Int.le_refl _, by omega, rfl⟩
theorem count_true (bs : List Bool) : (((bs.map PyData.bool).countP fun e => PyData.eqv e (.bool true) : Nat) : Int) = hiW bs := by
  unfold hiW
  rw [List.countP_map]
  congr 1
  refine List.countP_congr fun b _ => ?_
  cases b <;> exact Iff.rfl
/-! Plans, done one by one on the plain model. -/
def doD (S : Fs) : Dd → Fs
  | .lt g => letS S (g : Nat)
  | .sl b => sailS S (b : Nat)
def okD (S : Fs) : Dd → Prop
  | .lt g => letW S (g : Nat) = 0
  | .sl b => sailW S (b : Nat) = 0
inductive Runs (S : Fs) : List Dd → Fs → Prop
  | nil : Runs S [] S
  | snoc {ds : List Dd} {T : Fs} {d : Dd} : Runs S ds T → okD T d → Runs S (ds ++ [d]) (doD T d)
theorem Runs.after {S T : Fs} {ds : List Dd} (h : Runs S ds T) : T = ds.foldl doD S := by
  induction h with
  | nil => rfl
  | snoc h k ih => rw [List.foldl_append, ← ih]; rfl
theorem Runs.take {S T : Fs} {ds : List Dd} (h : Runs S ds T) : ∀ i, Runs S (ds.take i) (foldAt doD S ds i) := by
  induction h with
  | nil => intro i; unfold foldAt; rw [List.take_nil]; exact .nil
  | @snoc ds T d h k ih =>
    intro i
    by_cases hi : i ≤ ds.length
    · have e : (ds ++ [d]).take i = ds.take i := List.take_append_of_le_length hi
      have := ih i
      unfold foldAt at this ⊢
      rw [e]; exact this
    · have e : (ds ++ [d]).take i = ds ++ [d] := List.take_of_length_le (by rw [List.length_append]; simp; omega)
      unfold foldAt
      rw [e, List.foldl_append, ← h.after]
      exact .snoc h k
theorem Runs.at_ {S T : Fs} {ds : List Dd} (h : Runs S ds T) : ∀ {i : Nat} {d : Dd}, ds[i]? = some d → okD (foldAt doD S ds i) d := by
  induction h with
  | nil => intro i d e; simp at e
  | @snoc ds T d h k ih =>
    intro i d' e
    by_cases hi : i < ds.length
    · rw [List.getElem?_append_left hi] at e
      have := ih e
      unfold foldAt at this ⊢
      rw [List.take_append_of_le_length (by omega)]; exact this
    · have e2 : i = ds.length := by
        have := (List.getElem?_eq_some_iff.mp e).1
        rw [List.length_append] at this
        simp at this; omega
      subst e2
      rw [List.getElem?_append_right (Nat.le_refl _), Nat.sub_self] at e
      have e : d = d' := by simpa using e
      subst e
      unfold foldAt
      rw [List.take_append_of_le_length (Nat.le_refl _), List.take_length, ← h.after]
      exact k
theorem Runs.wf {S T : Fs} {ds : List Dd} (h : Runs S ds T) (w : WF S) : WF T := by
  induction h with
  | nil => exact w
  | @snoc ds T d h k ih =>
    cases d with
    | lt g => exact wf_let ih _
    | sl b => exact wf_sail ih k
/-! ### lettings -/
theorem letL_get {lv : List Bool} {g : Nat} (hg : g ≤ lv.length) (j : Nat) : (letL lv g)[j]? = if j + 1 = g then some true else if j = g ∧ j < lv.length then some false else lv[j]? := by
  unfold letL
  have e1 : (if g < lv.length then lv.set g false else lv)[j]? = if j = g ∧ j < lv.length then some false else lv[j]? := by
    by_cases h : g < lv.length
    · rw [if_pos h]
      by_cases e : j = g
      · subst e; rw [if_pos ⟨rfl, h⟩, List.getElem?_set_self h]
      · rw [if_neg (fun z => e z.1), List.getElem?_set_ne (fun z => e z.symm)]
    · rw [if_neg h, if_neg (fun z => h (by omega))]
  have l1 : (if g < lv.length then lv.set g false else lv).length = lv.length := by split <;> simp
  by_cases h0 : 0 < g
  · rw [if_pos h0]
    by_cases e : j + 1 = g
    · rw [if_pos e, show g - 1 = j by omega, List.getElem?_set_self (by rw [l1]; omega)]
    · rw [List.getElem?_set_ne (by omega), e1, if_neg e]
  · rw [if_neg h0, e1, if_neg (show ¬ j + 1 = g by omega)]
def gOk (lv : List Bool) (g : Nat) : Prop := g ≤ lv.length ∧ (g < lv.length → lv[g]? = some true) ∧ (0 < g → lv[g - 1]? = some false)
def GsOk : List Bool → List Nat → Prop
  | _, [] => True
  | lv, g :: gs => gOk lv g ∧ GsOk (letL lv g) gs
theorem getD_some {lv : List Bool} {g : Nat} {b d : Bool} (h : lv[g]? = some b) : lv.getD g d = b := by
  rw [List.getD_eq_getElem?_getD, h]; rfl
theorem gOk.word {S : Fs} {g : Nat} (h : gOk S.high g) : letW S (g : Nat) = 0 := by
  obtain ⟨h1, h2, h3⟩ := h
  refine letW_zero (by omega) (by unfold Fs.n; omega) ?_ ?_
  · rintro ⟨z, e⟩
    rw [Int.toNat_natCast, getD_some (h2 (by unfold Fs.n at z; omega))] at e
    cases e
  · rintro ⟨z, e⟩
    have e2 : ((g : Int) - 1).toNat = g - 1 := by omega
    rw [e2, getD_some (h3 (by omega))] at e
    cases e
def letsS (S : Fs) (gs : List Nat) : Fs := gs.foldl (fun S g => letS S (g : Nat)) S
theorem letsS_high : ∀ (gs : List Nat) (S : Fs), (letsS S gs).high = letAllM S.high gs
  | [], _ => rfl
  | g :: gs, S => by
    show (letsS (letS S (g : Nat)) gs).high = letAllM (letL S.high g) gs
    rw [letsS_high gs]; rfl
structure Same (S T : Fs) : Prop where
  sides : T.sides = S.sides
  places : T.places = S.places
  done : T.done = S.done
theorem letsS_same : ∀ (gs : List Nat) (S : Fs), Same S (letsS S gs)
  | [], _ => ⟨rfl, rfl, rfl⟩
  | g :: gs, S => by
    have q := letsS_same gs (letS S (g : Nat))
    exact ⟨q.sides, q.places, q.done⟩
theorem letsS_given : ∀ (gs : List Nat) (S : Fs), (∀ g ∈ gs, 0 < g) → (letsS S gs).given = S.given
  | [], _, _ => rfl
  | g :: gs, S, h => by
    show (letsS (letS S (g : Nat)) gs).given = _
    rw [letsS_given gs _ fun x hx => h x (List.mem_cons_of_mem _ hx)]
    show S.given + (if (g : Int) = 0 then 1 else 0) = _
    have := h g List.mem_cons_self
    rw [if_neg (by omega)]; omega
theorem letsS_taken : ∀ (gs : List Nat) (S : Fs), (∀ g ∈ gs, g < S.high.length) → (letsS S gs).taken = S.taken
  | [], _, _ => rfl
  | g :: gs, S, h => by
    show (letsS (letS S (g : Nat)) gs).taken = _
    rw [letsS_taken gs _ fun x hx => by
      show x < (letL S.high _).length
      rw [letL_len]; exact h x (List.mem_cons_of_mem _ hx)]
    show S.taken + (if (g : Int) = S.n then 1 else 0) = _
    have := h g List.mem_cons_self
    rw [if_neg (by unfold Fs.n; omega)]; omega
theorem Runs.lets {S : Fs} : ∀ (gs : List Nat) {ds : List Dd} {T : Fs}, Runs S ds T → GsOk T.high gs → Runs S (ds ++ gs.map Dd.lt) (letsS T gs)
  | [], ds, T, h, _ => by rw [List.map_nil, List.append_nil]; exact h
  | g :: gs, ds, T, h, k => by
    have q := Runs.lets gs (h.snoc (d := .lt g) k.1.word) k.2
    rw [List.append_assoc] at q
    exact q
/-- the water of some lettings -/
theorem lets_water : ∀ (gs : List Nat) (S : Fs), 1 ≤ S.high.length → GsOk S.high gs → (letsS S gs).taken - (letsS S gs).given - hiW (letsS S gs).high = S.taken - S.given - hiW S.high
  | [], _, _, _ => rfl
  | g :: gs, S, n1, k => by
    have e := let_water n1 k.1.word
    have q := lets_water gs (letS S (g : Nat)) (by show 1 ≤ (letL S.high _).length; rw [letL_len]; exact n1) k.2
    show (letsS (letS S (g : Nat)) gs).taken - (letsS (letS S (g : Nat)) gs).given - hiW (letsS (letS S (g : Nat)) gs).high = _
    rw [q, e]
    show S.taken + (if (g : Int) = S.n then 1 else 0) - (S.given + (if (g : Int) = 0 then 1 else 0)) - _ = _
    omega
/-! ### a chamber filled -/
def descG (c k : Nat) : List Nat := ((List.range (k + 1)).map (c + ·)).reverse
theorem descG_succ (c k : Nat) : descG c (k + 1) = (c + (k + 1)) :: descG c k := by
  unfold descG
  rw [List.range_succ, List.map_append, List.reverse_append]
  rfl
theorem desc_ok {c : Nat} : ∀ (k : Nat) (lv : List Bool), c + k ≤ lv.length → (c + k < lv.length → lv[c + k]? = some true) → (∀ j, c ≤ j + 1 → j < c + k → lv[j]? = some false) →
    GsOk lv (descG c k) ∧ ∀ j, (letAllM lv (descG c k))[j]? = if j + 1 = c then some true else if j = c + k ∧ j < lv.length then some false else lv[j]?
  | 0, lv, h1, h2, h3 => by
    rw [show descG c 0 = [c] from rfl]
    exact ⟨⟨⟨h1, h2, fun h => h3 (c - 1) (by omega) (by omega)⟩, trivial⟩, fun j => letL_get h1 j⟩
  | k + 1, lv, h1, h2, h3 => by
    have lg := letL_get (lv := lv) (g := c + (k + 1)) h1
    obtain ⟨q1, q2⟩ := desc_ok (c := c) k (letL lv (c + (k + 1))) (by rw [letL_len]; omega) (fun _ => by rw [lg, if_pos (show c + k + 1 = c + (k + 1) by omega)]) (fun j ha hb => by rw [lg, if_neg (by omega), if_neg (by omega)]; exact h3 j ha (by omega))
    rw [descG_succ]
    refine ⟨⟨⟨h1, h2, fun _ => h3 (c + (k + 1) - 1) (by omega) (by omega)⟩, q1⟩, fun j => ?_⟩
    show (letAllM (letL lv (c + (k + 1))) (descG c k))[j]? = _
    rw [q2, lg, letL_len]
    by_cases e1 : j + 1 = c
    · rw [if_pos e1, if_pos e1]
    · rw [if_neg e1, if_neg e1]
      by_cases e2 : j = c + k
      · rw [if_pos ⟨e2, by omega⟩, if_neg (by omega)]
        exact (h3 j (by omega) (by omega)).symm
      · rw [if_neg (fun z => e2 z.1), if_neg (by omega)]
theorem srcM_spec {lv : List Bool} : ∀ (m k : Nat), lv.length - k = m → k ≤ lv.length → (∀ j, k ≤ j → j < srcM lv k → lv[j]? = some false) ∧ (srcM lv k < lv.length → lv[srcM lv k]? = some true)
  | 0, k, h, hk => by
    have e : srcM lv k = k := srcM_end (by omega)
    rw [e]
    exact ⟨fun j h1 h2 => by omega, fun h => by omega⟩
  | m + 1, k, h, hk => by
    obtain ⟨b, hb⟩ : ∃ b, lv[k]? = some b := ⟨lv[k], List.getElem?_eq_getElem (by omega)⟩
    cases b with
    | true =>
      have e := srcM_stop hb
      rw [e]
      exact ⟨fun j h1 h2 => by omega, fun _ => hb⟩
    | false =>
      obtain ⟨q1, q2⟩ := srcM_spec (lv := lv) m (k + 1) (by omega) (by omega)
      rw [srcM_go hb]
      refine ⟨fun j h1 h2 => ?_, q2⟩
      by_cases e : j = k
      · rw [e]; exact hb
      · exact q1 j (by omega) h2
theorem filled_ok {lv : List Bool} {c : Nat} (h1 : 1 ≤ c) (hc : c ≤ lv.length) (lo : lv[c - 1]? = some false) :
    GsOk lv (filledM lv c) ∧ (∀ j, (letAllM lv (filledM lv c))[j]? = if j + 1 = c then some true else if j = srcM lv c ∧ j < lv.length then some false else lv[j]?) := by
  have g := srcM_ge lv c
  have l := srcM_le hc
  obtain ⟨s1, s2⟩ := srcM_spec (lv := lv) _ c rfl hc
  have e : filledM lv c = descG c (srcM lv c - c) := by
    unfold filledM descG
    rw [show srcM lv c + 1 - c = srcM lv c - c + 1 by omega]
  have ek : c + (srcM lv c - c) = srcM lv c := by omega
  obtain ⟨q1, q2⟩ := desc_ok (c := c) (srcM lv c - c) lv (by omega) (by rw [ek]; exact s2) (fun j ha hb => by
    by_cases e : j + 1 = c
    · rw [show j = c - 1 by omega]; exact lo
    · exact s1 j (by omega) (by omega))
  rw [e]
  exact ⟨q1, fun j => by rw [q2, ek]⟩
/-! ### a chamber emptied -/
def ascG (s k : Nat) : List Nat := (List.range k).map (s + ·)
theorem ascG_succ (s k : Nat) : ascG s (k + 1) = s :: ascG (s + 1) k := by
  unfold ascG
  rw [List.range_succ_eq_map, List.map_cons, List.map_map]
  refine congrArg (s :: ·) (List.map_congr_left fun i _ => ?_)
  show s + (i + 1) = s + 1 + i
  omega
theorem asc_ok : ∀ (k s : Nat) (lv : List Bool), s + (k + 1) ≤ lv.length → (∀ j, s ≤ j → j < s + (k + 1) → lv[j]? = some true) → (0 < s → lv[s - 1]? = some false) →
    GsOk lv (ascG s (k + 1)) ∧ ∀ j, (letAllM lv (ascG s (k + 1)))[j]? = if j + 1 = s then some true else if j = s + k then some false else lv[j]?
  | 0, s, lv, h1, h2, h3 => by
    rw [show ascG s (0 + 1) = [s] from rfl]
    exact ⟨⟨⟨by omega, fun _ => h2 s (by omega) (by omega), h3⟩, trivial⟩, fun j => by
      show (letL lv s)[j]? = _
      rw [letL_get (by omega)]
      by_cases e1 : j + 1 = s
      · rw [if_pos e1, if_pos e1]
      · rw [if_neg e1, if_neg e1]
        by_cases e2 : j = s
        · rw [if_pos ⟨e2, by omega⟩, if_pos (by omega)]
        · rw [if_neg (fun z => e2 z.1), if_neg (by omega)]⟩
  | k + 1, s, lv, h1, h2, h3 => by
    have lg := letL_get (lv := lv) (g := s) (by omega)
    have ls := h2 s (by omega) (by omega)
    obtain ⟨q1, q2⟩ := asc_ok k (s + 1) (letL lv s) (by rw [letL_len]; omega) (fun j ha hb => by rw [lg, if_neg (by omega), if_neg (by omega)]; exact h2 j (by omega) (by omega)) (fun _ => by rw [lg, if_neg (by omega), if_pos (by omega)])
    rw [ascG_succ]
    refine ⟨⟨⟨by omega, fun _ => ls, h3⟩, q1⟩, fun j => ?_⟩
    show (letAllM (letL lv s) (ascG (s + 1) (k + 1)))[j]? = _
    rw [q2, lg]
    by_cases e1 : j = s
    · subst e1
      rw [if_pos rfl, if_neg (by omega), if_neg (by omega), ls]
    · rw [if_neg (by omega)]
      by_cases e2 : j = s + 1 + k
      · rw [if_pos e2, if_neg (by omega), if_pos (by omega)]
      · rw [if_neg e2]
        by_cases e3 : j + 1 = s
        · rw [if_pos e3, if_pos e3]
        · rw [if_neg e3, if_neg e3, if_neg (fun z => e1 z.1), if_neg (by omega)]
theorem snkM_spec {lv : List Bool} : ∀ (k : Nat), k ≤ lv.length → (∀ j, snkM lv k ≤ j → j < k → lv[j]? = some true) ∧ (0 < snkM lv k → lv[snkM lv k - 1]? = some false)
  | 0, _ => ⟨fun j h1 h2 => by omega, fun h => by exact absurd h (Nat.lt_irrefl 0)⟩
  | k + 1, hk => by
    obtain ⟨b, hb⟩ : ∃ b, lv[k]? = some b := ⟨lv[k], List.getElem?_eq_getElem (by omega)⟩
    cases b with
    | true =>
      have e : snkM lv (k + 1) = snkM lv k := if_pos hb
      obtain ⟨q1, q2⟩ := snkM_spec (lv := lv) k (by omega)
      rw [e]
      refine ⟨fun j h1 h2 => ?_, q2⟩
      by_cases e : j = k
      · rw [e]; exact hb
      · exact q1 j h1 (by omega)
    | false =>
      have e : snkM lv (k + 1) = k + 1 := if_neg (by rw [hb]; simp)
      rw [e]
      exact ⟨fun j h1 h2 => by omega, fun _ => hb⟩
theorem emptied_ok {lv : List Bool} {c : Nat} (h1 : 1 ≤ c) (hc : c ≤ lv.length) (hi : lv[c - 1]? = some true) :
    GsOk lv (emptiedM lv c) ∧ (∀ j, (letAllM lv (emptiedM lv c))[j]? = if j + 1 = snkM lv (c - 1) then some true else if j + 1 = c then some false else lv[j]?) := by
  have l := snkM_le lv (c - 1)
  obtain ⟨s1, s2⟩ := snkM_spec (lv := lv) (c - 1) (by omega)
  have e : emptiedM lv c = ascG (snkM lv (c - 1)) (c - 1 - snkM lv (c - 1) + 1) := by
    unfold emptiedM ascG
    rw [show c - snkM lv (c - 1) = c - 1 - snkM lv (c - 1) + 1 by omega]
  obtain ⟨q1, q2⟩ := asc_ok (c - 1 - snkM lv (c - 1)) (snkM lv (c - 1)) lv (by omega) (fun j ha hb => by
    by_cases e : j = c - 1
    · rw [e]; exact hi
    · exact s1 j ha (by omega)) s2
  rw [e]
  refine ⟨q1, fun j => ?_⟩
  rw [q2]
  by_cases e1 : j + 1 = snkM lv (c - 1)
  · rw [if_pos e1, if_pos e1]
  · rw [if_neg e1, if_neg e1]
    by_cases e2 : j + 1 = c
    · rw [if_pos (by omega), if_pos e2]
    · rw [if_neg (by omega), if_neg e2]
/-! ### a boat that sails alone -/
theorem sail_step {hi ord : List Bool} {b : Nat} {p p' t g : Int} {rest : Pl} {dn : List Int} {u : Bool} (hr : ∀ q ∈ rest, (b : Int) < q.1 ∧ (q.2 = 0 ∨ q.2 = (hi.length : Int) + 1)) (hu : ord.getD b true = u)
    (hp : p' = p + (if u = true then 1 else -1)) (h1 : 0 ≤ p') (hlev : levB ⟨hi, ord, ((b : Int), p) :: rest, dn, t, g⟩ (if u = true then p else p - 1) = true) :
    sailW ⟨hi, ord, ((b : Int), p) :: rest, dn, t, g⟩ (b : Nat) = 0 ∧
    sailS ⟨hi, ord, ((b : Int), p) :: rest, dn, t, g⟩ (b : Nat) = if p' = 0 ∨ p' = (hi.length : Int) + 1 then ⟨hi, ord, rest, dn ++ [(b : Int)], t, g⟩ else ⟨hi, ord, ((b : Int), p') :: rest, dn, t, g⟩ := by
  generalize hS : (⟨hi, ord, ((b : Int), p) :: rest, dn, t, g⟩ : Fs) = S at *
  have eP : S.places = ((b : Int), p) :: rest := by rw [← hS]
  have eN : S.n = (hi.length : Int) := by rw [← hS]; rfl
  have hv : plc S.places (b : Nat) = some p := by rw [eP]; simp [plc, List.find?_cons]
  have eside : sideOf S (b : Nat) = u := by
    unfold sideOf
    rw [Int.toNat_natCast, ← hS]; exact hu
  have eg : gateM S (b : Nat) = if u = true then p else p - 1 := by rw [gate_eq hv, eside]
  have et : thenM S (b : Nat) = p' := by rw [then_eq hv, eside, hp]
  have nf : notFirst S (b : Nat) = false := by
    have e : aheadM S (b : Nat) = [] := by
      unfold aheadM
      rw [List.filter_eq_nil_iff]
      intro o ho
      rw [eP] at ho
      have lo : ¬ o < (b : Int) := by
        rcases List.mem_cons.mp ho with e | h
        · rw [e]; exact Int.lt_irrefl _
        · obtain ⟨q, hq, rfl⟩ := List.mem_map.mp h
          have := (hr q hq).1
          omega
      rw [decide_eq_false lo]; simp
    unfold notFirst
    rw [e]; simp
  have no : ¬ ((0 < thenM S (b : Nat) ∧ thenM S (b : Nat) ≤ S.n) ∧ occB S (thenM S (b : Nat)) = true) := by
    rw [et, eN]
    rintro ⟨⟨h2, h3⟩, h4⟩
    unfold occB at h4
    rw [eP] at h4
    obtain ⟨q, hq, e⟩ := List.any_eq_true.mp h4
    have e := of_decide_eq_true e
    rcases List.mem_cons.mp hq with z | z
    · rw [z] at e
      dsimp only at e
      rw [hp] at e
      cases u <;> simp at e <;> omega
    · have := (hr q z).2
      omega
  refine ⟨?_, ?_⟩
  · unfold sailW
    rw [if_neg (by rw [hv]; simp), if_neg (by rw [nf]; simp), if_neg (by rw [eg, hlev]; simp), if_neg no]
  · have ob : outB S (b : Nat) ↔ (p' = 0 ∨ p' = (hi.length : Int) + 1) := by
      unfold outB
      rw [et, eN]
    unfold sailS
    rw [et]
    have kr : ∀ q ∈ rest, q.1 ≠ (b : Int) := fun q hq => by have := (hr q hq).1; omega
    by_cases ho : p' = 0 ∨ p' = (hi.length : Int) + 1
    · rw [if_pos (ob.mpr ho), if_pos ho, eP]
      have e : pdrop (((b : Int), p) :: rest) (b : Nat) = rest := by
        unfold pdrop
        rw [List.filter_cons_of_neg (by simp), List.filter_eq_self]
        intro q hq
        exact decide_eq_true (kr q hq)
      rw [e, ← hS]
    · rw [if_neg (fun z => ho (ob.mp z)), if_neg ho, eP]
      have e : pput (((b : Int), p) :: rest) (b : Nat) p' = ((b : Int), p') :: rest := by
        unfold pput
        rw [if_pos (by simp), List.map_cons, if_pos rfl]
        refine congrArg _ ?_
        conv => rhs; rw [← List.map_id rest]
        refine List.map_congr_left fun q hq => ?_
        rw [if_neg (kr q hq)]; rfl
      rw [e, ← hS]
theorem levB_ok {hi ord : List Bool} {ps : Pl} {dn : List Int} {t g : Int} {k : Nat} (h1 : 0 < k → hi[k - 1]? = some true) (h2 : k < hi.length → hi[k]? = some false) (hk : k ≤ hi.length) : levB ⟨hi, ord, ps, dn, t, g⟩ (k : Nat) = true := by
  unfold levB
  rw [Bool.and_eq_true, Bool.or_eq_true, Bool.or_eq_true, decide_eq_true_eq, decide_eq_true_eq, Bool.not_eq_true']
  have eN : Fs.n ⟨hi, ord, ps, dn, t, g⟩ = (hi.length : Int) := rfl
  rw [eN]
  constructor
  · by_cases e : k = 0
    · exact .inl (by omega)
    · exact .inr (by rw [show ((k : Int) - 1).toNat = k - 1 by omega]; exact getD_some (h1 (by omega)))
  · by_cases e : k = hi.length
    · exact .inl (by omega)
    · exact .inr (by rw [Int.toNat_natCast]; exact getD_some (h2 (by omega)))
theorem letsS_eq (S : Fs) (gs : List Nat) : letsS S gs = ⟨letAllM S.high gs, S.sides, S.places, S.done, (letsS S gs).taken, (letsS S gs).given⟩ := by
  have s := letsS_same gs S
  have h := letsS_high gs S
  rw [← s.sides, ← s.places, ← s.done, ← h]
theorem ups1_at {n i : Nat} (h : i < n) : (ups1 n)[i]? = some (1 + i) := by
  unfold ups1
  rw [List.getElem?_map, List.getElem?_range h]; rfl
theorem ups1_rev {n i : Nat} (h : i < n) : (ups1 n).reverse[i]? = some (n - i) := by
  rw [List.getElem?_reverse (by rw [ups1_len]; exact h), ups1_len, ups1_at (by omega)]
  exact congrArg some (by omega)
/-- some lettings and one sailing -/
theorem runs_step {S0 : Fs} {ord : List Bool} {rest : Pl} {dn : List Int} {b n : Nat} {u : Bool} {st : LD} {gs : List Nat} {p p' t g t' g' : Int} (hl : st.1.length = n) (hr : ∀ q ∈ rest, (b : Int) < q.1 ∧ (q.2 = 0 ∨ q.2 = (n : Int) + 1)) (hu : ord.getD b true = u)
    (hk : GsOk st.1 gs) (k : Nat) (hkn : k ≤ n) (ek : (if u = true then p else p - 1) = (k : Int)) (hp : p' = p + (if u = true then 1 else -1)) (h1 : 0 ≤ p') (l1 : 0 < k → (letAllM st.1 gs)[k - 1]? = some true) (l2 : k < n → (letAllM st.1 gs)[k]? = some false)
    (r : Runs S0 st.2 ⟨st.1, ord, ((b : Int), p) :: rest, dn, t, g⟩) (et : (letsS ⟨st.1, ord, ((b : Int), p) :: rest, dn, t, g⟩ gs).taken = t') (eg : (letsS ⟨st.1, ord, ((b : Int), p) :: rest, dn, t, g⟩ gs).given = g') :
    Runs S0 (sailM b (putM st gs)).2 (if p' = 0 ∨ p' = (n : Int) + 1 then ⟨letAllM st.1 gs, ord, rest, dn ++ [(b : Int)], t', g'⟩ else ⟨letAllM st.1 gs, ord, ((b : Int), p') :: rest, dn, t', g'⟩) := by
  have q := r.lets gs hk
  rw [letsS_eq, et, eg] at q
  dsimp only at q
  have hl2 : (letAllM st.1 gs).length = n := by rw [letAll_len, hl]
  obtain ⟨s1, s2⟩ := sail_step (hi := letAllM st.1 gs) (ord := ord) (b := b) (p := p) (p' := p') (t := t') (g := g') (rest := rest) (dn := dn) (u := u) (by rw [hl2]; exact hr) hu hp h1 (by rw [ek]; exact levB_ok l1 (by rw [hl2]; exact l2) (by rw [hl2]; exact hkn))
  rw [hl2] at s2
  rw [← s2]
  exact q.snoc (d := .sl b) s1
theorem up_loop {S0 : Fs} {ord : List Bool} {rest : Pl} {dn : List Int} {b n : Nat} {z : LD} {t g : Int} (n1 : 1 ≤ n) (hl : z.1.length = n) (hr : ∀ q ∈ rest, (b : Int) < q.1 ∧ (q.2 = 0 ∨ q.2 = (n : Int) + 1)) (hu : ord.getD b true = true)
    (lo : z.1[0]? = some false) (r : Runs S0 z.2 ⟨z.1, ord, ((b : Int), 1) :: rest, dn, t, g⟩) : ∀ i, i ≤ n → ∃ t', (foldAt (upStep b) z (ups1 n) i).1.length = n ∧ (∀ j, j < i → (foldAt (upStep b) z (ups1 n) i).1[j]? = some true) ∧ (i < n → (foldAt (upStep b) z (ups1 n) i).1[i]? = some false) ∧
      t' - g - hiW (foldAt (upStep b) z (ups1 n) i).1 = t - g - hiW z.1 ∧ Runs S0 (foldAt (upStep b) z (ups1 n) i).2 (if i = n then ⟨(foldAt (upStep b) z (ups1 n) i).1, ord, rest, dn ++ [(b : Int)], t', g⟩ else ⟨(foldAt (upStep b) z (ups1 n) i).1, ord, ((b : Int), (i : Int) + 1) :: rest, dn, t', g⟩)
  | 0, _ => ⟨t, hl, fun j h => by omega, fun _ => lo, rfl, by rw [if_neg (by omega)]; exact r⟩
  | i + 1, hi => by
    obtain ⟨t1, q1, q2, q3, q4, q5⟩ := up_loop n1 hl hr hu lo r i (by omega)
    rw [foldAt_step (f := upStep b) (z := z) (ups1_at (show i < n by omega))]
    generalize foldAt (upStep b) z (ups1 n) i = st at *
    rw [if_neg (by omega)] at q5
    have lo1 := q3 (by omega)
    have fg := srcM_ge st.1 (1 + i)
    obtain ⟨s1, s2⟩ := srcM_spec (lv := st.1) _ (1 + i) rfl (by omega)
    obtain ⟨k1, k2⟩ := filled_ok (lv := st.1) (c := 1 + i) (by omega) (by omega) (by rw [show 1 + i - 1 = i by omega]; exact lo1)
    have hg : ∀ x ∈ filledM st.1 (1 + i), 0 < x := fun x hx => by have := (filled_le (by omega) hx).1; omega
    have wat := lets_water (filledM st.1 (1 + i)) ⟨st.1, ord, ((b : Int), (i : Int) + 1) :: rest, dn, t1, g⟩ (by show 1 ≤ st.1.length; omega) k1
    rw [letsS_high, letsS_given _ _ hg] at wat
    dsimp only at wat
    generalize et : (letsS ⟨st.1, ord, ((b : Int), (i : Int) + 1) :: rest, dn, t1, g⟩ (filledM st.1 (1 + i))).taken = t2 at wat
    have l1 : (letAllM st.1 (filledM st.1 (1 + i)))[i]? = some true := by rw [k2, if_pos (by omega)]
    have l2 : i + 1 < n → (letAllM st.1 (filledM st.1 (1 + i)))[i + 1]? = some false := fun h => by
      rw [k2, if_neg (by omega)]
      by_cases e : i + 1 = srcM st.1 (1 + i)
      · rw [if_pos ⟨e, by omega⟩]
      · rw [if_neg (fun z => e z.1)]; exact s1 _ (by omega) (by omega)
    have rs := runs_step (p' := (i : Int) + 2) q1 hr hu k1 (i + 1) hi (by rw [if_pos rfl]; omega) (by rw [if_pos rfl]; omega) (by omega) (fun _ => l1) l2 q5 et (letsS_given _ _ hg)
    refine ⟨t2, ?_, fun j hj => ?_, l2, ?_, ?_⟩
    · show (letAllM st.1 _).length = n
      rw [letAll_len]; exact q1
    · show (letAllM st.1 _)[j]? = _
      by_cases e : j = i
      · rw [e]; exact l1
      · rw [k2, if_neg (by omega), if_neg (by omega)]; exact q2 j (by omega)
    · show t2 - g - hiW (letAllM st.1 _) = _
      rw [wat]; exact q4
    · show Runs S0 (sailM b (putM st (filledM st.1 (1 + i)))).2 _
      by_cases e : i + 1 = n
      · rw [if_pos (by omega)] at rs
        rw [if_pos e]; exact rs
      · rw [if_neg (by omega)] at rs
        rw [if_neg e, show (((i + 1 : Nat) : Int) + 1) = (i : Int) + 2 by omega]; exact rs
theorem down_loop {S0 : Fs} {ord : List Bool} {rest : Pl} {dn : List Int} {b n : Nat} {z : LD} {t g : Int} (n1 : 1 ≤ n) (hl : z.1.length = n) (hr : ∀ q ∈ rest, (b : Int) < q.1 ∧ (q.2 = 0 ∨ q.2 = (n : Int) + 1)) (hu : ord.getD b true = false)
    (hi0 : z.1[n - 1]? = some true) (r : Runs S0 z.2 ⟨z.1, ord, ((b : Int), (n : Int)) :: rest, dn, t, g⟩) : ∀ i, i ≤ n → ∃ g', (foldAt (downStep b) z (ups1 n).reverse i).1.length = n ∧ (∀ j, n - i ≤ j → j < n → (foldAt (downStep b) z (ups1 n).reverse i).1[j]? = some false) ∧ (i < n → (foldAt (downStep b) z (ups1 n).reverse i).1[n - i - 1]? = some true) ∧
      Runs S0 (foldAt (downStep b) z (ups1 n).reverse i).2 (if i = n then ⟨(foldAt (downStep b) z (ups1 n).reverse i).1, ord, rest, dn ++ [(b : Int)], t, g'⟩ else ⟨(foldAt (downStep b) z (ups1 n).reverse i).1, ord, ((b : Int), (n : Int) - i) :: rest, dn, t, g'⟩)
  | 0, _ => ⟨g, hl, fun j h1 h2 => by omega, fun _ => hi0, by rw [if_neg (by omega), show (n : Int) - ((0 : Nat) : Int) = n by omega]; exact r⟩
  | i + 1, hi => by
    obtain ⟨g1, q1, q2, q3, q5⟩ := down_loop n1 hl hr hu hi0 r i (by omega)
    rw [foldAt_step (f := downStep b) (z := z) (ups1_rev (show i < n by omega))]
    generalize foldAt (downStep b) z (ups1 n).reverse i = st at *
    rw [if_neg (by omega)] at q5
    have hi1 := q3 (by omega)
    have fl := snkM_le st.1 (n - i - 1)
    obtain ⟨s1, s2⟩ := snkM_spec (lv := st.1) (n - i - 1) (by omega)
    obtain ⟨k1, k2⟩ := emptied_ok (lv := st.1) (c := n - i) (by omega) (by omega) hi1
    have hg : ∀ x ∈ emptiedM st.1 (n - i), x < st.1.length := fun x hx => by have := emptied_le hx; omega
    have l2 : (letAllM st.1 (emptiedM st.1 (n - i)))[n - i - 1]? = some false := by rw [k2, if_neg (by omega), if_pos (by omega)]
    have l1 : 0 < n - i - 1 → (letAllM st.1 (emptiedM st.1 (n - i)))[n - i - 1 - 1]? = some true := fun h => by
      rw [k2]
      by_cases e : n - i - 1 - 1 + 1 = snkM st.1 (n - i - 1)
      · rw [if_pos e]
      · rw [if_neg e, if_neg (by omega)]; exact s1 _ (by omega) (by omega)
    have rs := runs_step (p' := (n : Int) - i - 1) q1 hr hu k1 (n - i - 1) (by omega) (by rw [if_neg Bool.false_ne_true]; omega) (by rw [if_neg Bool.false_ne_true]; omega) (by omega) l1 (fun _ => l2) q5 (letsS_taken _ _ hg) rfl
    refine ⟨(letsS ⟨st.1, ord, ((b : Int), (n : Int) - i) :: rest, dn, t, g1⟩ (emptiedM st.1 (n - i))).given, ?_, fun j hj hj2 => ?_, fun h => ?_, ?_⟩
    · show (letAllM st.1 _).length = n
      rw [letAll_len]; exact q1
    · show (letAllM st.1 _)[j]? = _
      by_cases e : j = n - i - 1
      · rw [e]; exact l2
      · rw [k2, if_neg (by omega), if_neg (by omega)]; exact q2 j (by omega) hj2
    · show (letAllM st.1 _)[_]? = _
      rw [show n - (i + 1) - 1 = n - i - 1 - 1 by omega]
      exact l1 (by omega)
    · show Runs S0 (sailM b (putM st (emptiedM st.1 (n - i)))).2 _
      by_cases e : i + 1 = n
      · rw [if_pos (by omega)] at rs
        rw [if_pos e]; exact rs
      · rw [if_neg (by omega)] at rs
        rw [if_neg e, show (n : Int) - ((i + 1 : Nat) : Int) = (n : Int) - i - 1 by omega]; exact rs
/-! ### a boat that passes -/
theorem all_behind {l lv : List Bool} {u : Bool} (hl : l.length = lv.length) (h : ∀ j, j < lv.length → l[j]? = some u) : l = behindOf lv u := by
  apply List.ext_getElem?
  intro j
  unfold behindOf
  by_cases hj : j < lv.length
  · rw [h j hj, List.getElem?_map, List.getElem?_eq_getElem hj]; rfl
  · rw [List.getElem?_eq_none (by omega), List.getElem?_eq_none (by rw [List.length_map]; omega)]
theorem hiW_cons (x : Bool) (r : List Bool) : hiW (x :: r) = (if x = true then 1 else 0) + hiW r := by
  unfold hiW
  rw [List.countP_cons]
  cases x <;> simp; omega
theorem hiW_behind (lv : List Bool) : hiW (behindOf lv true) = lv.length := by
  unfold hiW behindOf
  rw [List.countP_map]
  have e : List.countP ((fun b => b) ∘ fun _ => true) lv = lv.length := List.countP_eq_length.mpr fun _ _ => rfl
  rw [e]
theorem hiW_lo (l : List Bool) : ((l.filter fun b => !b).length : Int) = l.length - hiW l := by
  induction l with
  | nil => rfl
  | cons x r ih =>
    rw [hiW_cons, List.length_cons]
    cases x with
    | true => rw [List.filter_cons_of_neg (by simp), ih, if_pos rfl]; omega
    | false => rw [List.filter_cons_of_pos (by simp), List.length_cons, if_neg Bool.false_ne_true]; omega
theorem pass_ok {S0 : Fs} {ord : List Bool} {rest : Pl} {dn : List Int} {b : Nat} {st : LD} {t g : Int} {u : Bool} (n1 : 1 ≤ st.1.length) (hr : ∀ q ∈ rest, (b : Int) < q.1 ∧ (q.2 = 0 ∨ q.2 = (st.1.length : Int) + 1)) (hu : ord.getD b true = u)
    (r : Runs S0 st.2 ⟨st.1, ord, ((b : Int), if u = true then 0 else (st.1.length : Int) + 1) :: rest, dn, t, g⟩) : (passM u st b).1 = behindOf st.1 u ∧ ∃ g', Runs S0 (passM u st b).2 ⟨behindOf st.1 u, ord, rest, dn ++ [(b : Int)], t + costOf st.1 u, g'⟩ := by
  cases u with
  | true =>
    rw [if_pos rfl] at r
    obtain ⟨x, hx⟩ : ∃ x, st.1[0]? = some x := ⟨st.1[0], List.getElem?_eq_getElem (by omega)⟩
    -- the first sailing
    have first : ∃ z : LD, passM true st b = (ups1 st.1.length).foldl (upStep b) z ∧ z.1.length = st.1.length ∧ z.1[0]? = some false ∧ ∃ g1, g1 = g + (if x = true then 1 else 0) ∧ hiW z.1 = hiW st.1 - (if x = true then 1 else 0) ∧ Runs S0 z.2 ⟨z.1, ord, ((b : Int), 1) :: rest, dn, t, g1⟩ := by
      cases x with
      | false =>
        refine ⟨sailM b st, ?_, rfl, hx, g, by simp, ?_, ?_⟩
        · show upM st b = _
          unfold upM
          rw [if_neg (by rw [hx]; simp)]
        · show hiW st.1 = _
          simp
        · have rs := runs_step (gs := []) (p' := 1) rfl hr hu trivial 0 (by omega) (by rw [if_pos rfl]; rfl) (by rw [if_pos rfl]; rfl) (by omega) (fun h => by omega) (fun _ => hx) r rfl rfl
          rw [if_neg (by omega)] at rs
          have e : (putM st []) = st := by unfold putM; rw [List.map_nil, List.append_nil]; rfl
          rw [e] at rs
          exact rs
      | true =>
        have eg : emptiedM st.1 1 = [0] := rfl
        have k1 : GsOk st.1 [0] := ⟨⟨by omega, fun _ => hx, fun h => by omega⟩, trivial⟩
        have l0 : (letAllM st.1 [0])[0]? = some false := by
          show (letL st.1 0)[0]? = _
          rw [letL_get (by omega), if_neg (by omega), if_pos ⟨rfl, by omega⟩]
        have wat := lets_water [0] ⟨st.1, ord, ((b : Int), 0) :: rest, dn, t, g⟩ n1 k1
        have et : (letsS ⟨st.1, ord, ((b : Int), 0) :: rest, dn, t, g⟩ [0]).taken = t := letsS_taken _ _ (fun y hy => by have e : y = 0 := (by simpa using hy); rw [e]; exact n1)
        have eg' : (letsS ⟨st.1, ord, ((b : Int), 0) :: rest, dn, t, g⟩ [0]).given = g + 1 := by
          show g + (if ((0 : Nat) : Int) = 0 then 1 else 0) = _
          rw [if_pos (show ((0 : Nat) : Int) = 0 from rfl)]
        rw [letsS_high, et, eg'] at wat
        dsimp only at wat
        refine ⟨sailM b (putM st [0]), ?_, ?_, l0, g + 1, by simp, ?_, ?_⟩
        · show upM st b = _
          unfold upM
          rw [if_pos hx, eg]
        · show (letAllM st.1 [0]).length = _
          rw [letAll_len]
        · show hiW (letAllM st.1 [0]) = _
          rw [if_pos rfl]; omega
        · have rs := runs_step (gs := [0]) (p' := 1) rfl hr hu k1 0 (by omega) (by rw [if_pos rfl]; rfl) (by rw [if_pos rfl]; rfl) (by omega) (fun h => by omega) (fun _ => l0) r et eg'
          rw [if_neg (by omega)] at rs
          exact rs
    obtain ⟨z, ez, zl, z0, g1, hg1, hw, rz⟩ := first
    obtain ⟨t', q1, q2, q3, q4, q5⟩ := up_loop n1 zl hr hu z0 rz st.1.length (Nat.le_refl _)
    have el : (ups1 st.1.length).length = st.1.length := ups1_len _
    have efold : foldAt (upStep b) z (ups1 st.1.length) st.1.length = passM true st b := by
      rw [ez]
      have := foldAt_all (f := upStep b) (z := z) (l := ups1 st.1.length)
      rw [el] at this
      exact this
    rw [efold] at q1 q2 q4 q5
    rw [if_pos rfl] at q5
    have eb := all_behind (u := true) q1 q2
    refine ⟨eb, g1, ?_⟩
    rw [eb] at q4 q5
    have et : t' = t + costOf st.1 true := by
      rw [hiW_behind] at q4
      unfold costOf
      rw [if_pos rfl, hiW_lo]
      cases hs : st.1 with
      | nil => rw [hs] at n1; simp at n1
      | cons y w =>
        rw [hs] at hx hw q4
        have e : y = x := by simpa using hx
        rw [hiW_cons, e] at hw
        rw [List.drop_one, List.tail_cons]
        rw [List.length_cons] at q4
        split at hw <;> split at hg1 <;> simp_all <;> omega
    rw [← et]
    exact q5
  | false =>
    rw [if_neg Bool.false_ne_true] at r
    have first : ∃ z : LD, passM false st b = (ups1 st.1.length).reverse.foldl (downStep b) z ∧ z.1.length = st.1.length ∧ z.1[st.1.length - 1]? = some true ∧ Runs S0 z.2 ⟨z.1, ord, ((b : Int), (st.1.length : Int)) :: rest, dn, t + costOf st.1 false, g⟩ := by
      have ec : costOf st.1 false = if st.1.getLast? = some true then 0 else 1 := rfl
      by_cases hx : st.1.getLast? = some true
      · have hx2 : st.1[st.1.length - 1]? = some true := by rw [← List.getLast?_eq_getElem?]; exact hx
        refine ⟨sailM b st, ?_, rfl, hx2, ?_⟩
        · show downM st b = _
          unfold downM
          rw [if_pos hx]
        · rw [ec, if_pos hx, Int.add_zero]
          have rs := runs_step (gs := []) (p' := (st.1.length : Int)) rfl hr hu trivial st.1.length (Nat.le_refl _) (by rw [if_neg Bool.false_ne_true]; omega) (by rw [if_neg Bool.false_ne_true]; omega) (by omega) (fun _ => hx2) (fun h => by omega) r rfl rfl
          rw [if_neg (by omega)] at rs
          have e : (putM st []) = st := by unfold putM; rw [List.map_nil, List.append_nil]; rfl
          rw [e] at rs
          exact rs
      · obtain ⟨y, hy⟩ : ∃ y, st.1[st.1.length - 1]? = some y := ⟨_, List.getElem?_eq_getElem (by omega)⟩
        have hx2 : st.1[st.1.length - 1]? = some false := by
          rw [List.getLast?_eq_getElem?] at hx
          cases y with
          | true => exact absurd hy hx
          | false => exact hy
        have eg : filledM st.1 st.1.length = [st.1.length] := by
          unfold filledM
          rw [srcM_end (Nat.le_refl _), show st.1.length + 1 - st.1.length = 1 by omega]
          rfl
        have k1 : GsOk st.1 [st.1.length] := ⟨⟨Nat.le_refl _, fun h => by omega, fun _ => hx2⟩, trivial⟩
        have l0 : (letAllM st.1 [st.1.length])[st.1.length - 1]? = some true := by
          show (letL st.1 st.1.length)[_]? = _
          rw [letL_get (Nat.le_refl _), if_pos (by omega)]
        have et : (letsS ⟨st.1, ord, ((b : Int), (st.1.length : Int) + 1) :: rest, dn, t, g⟩ [st.1.length]).taken = t + 1 := by
          show t + (if (st.1.length : Int) = (st.1.length : Int) then 1 else 0) = _
          rw [if_pos rfl]
        have eg' : (letsS ⟨st.1, ord, ((b : Int), (st.1.length : Int) + 1) :: rest, dn, t, g⟩ [st.1.length]).given = g := letsS_given _ _ (fun y hy => by have e : y = st.1.length := (by simpa using hy); omega)
        refine ⟨sailM b (putM st [st.1.length]), ?_, ?_, l0, ?_⟩
        · show downM st b = _
          unfold downM
          rw [if_neg hx, eg]
        · show (letAllM st.1 _).length = _
          rw [letAll_len]
        · rw [ec, if_neg hx]
          have rs := runs_step (gs := [st.1.length]) (p' := (st.1.length : Int)) rfl hr hu k1 st.1.length (Nat.le_refl _) (by rw [if_neg Bool.false_ne_true]; omega) (by rw [if_neg Bool.false_ne_true]; omega) (by omega) (fun _ => l0) (fun h => by omega) r et eg'
          rw [if_neg (by omega)] at rs
          exact rs
    obtain ⟨z, ez, zl, z0, rz⟩ := first
    obtain ⟨g', q1, q2, q3, q5⟩ := down_loop n1 zl hr hu z0 rz st.1.length (Nat.le_refl _)
    have el : (ups1 st.1.length).reverse.length = st.1.length := by rw [List.length_reverse]; exact ups1_len _
    have efold : foldAt (downStep b) z (ups1 st.1.length).reverse st.1.length = passM false st b := by
      rw [ez]
      have := foldAt_all (f := downStep b) (z := z) (l := (ups1 st.1.length).reverse)
      rw [el] at this
      exact this
    rw [efold] at q1 q2 q5
    rw [if_pos rfl] at q5
    have eb := all_behind (u := false) q1 (fun j hj => q2 j (by omega) hj)
    refine ⟨eb, g', ?_⟩
    rw [eb] at q5
    exact q5
/-! ### the whole plan -/
def waitP (n : Int) : List Bool → Nat → Pl
  | [], _ => []
  | u :: r, i => ((i : Int), if u = true then 0 else n + 1) :: waitP n r (i + 1)
theorem waitP_mem {n : Int} : ∀ {r : List Bool} {i : Nat} {q : Int × Int}, q ∈ waitP n r i → (i : Int) ≤ q.1 ∧ (q.2 = 0 ∨ q.2 = n + 1)
  | [], _, _, h => by simp [waitP] at h
  | u :: r, i, q, h => by
    rcases List.mem_cons.mp h with e | h
    · rw [e]
      refine ⟨Int.le_refl _, ?_⟩
      dsimp only
      split
      · exact .inl rfl
      · exact .inr rfl
    · have := waitP_mem h
      exact ⟨by omega, this.2⟩
theorem waitP_app {n : Int} (u : Bool) : ∀ (r : List Bool) (i : Nat), waitP n (r ++ [u]) i = waitP n r i ++ [(((i + r.length : Nat) : Int), if u = true then 0 else n + 1)]
  | [], i => rfl
  | v :: r, i => by
    show _ :: waitP n (r ++ [u]) (i + 1) = _ :: (waitP n r (i + 1) ++ _)
    rw [waitP_app u r (i + 1), List.length_cons, show i + 1 + r.length = i + (r.length + 1) by omega]
def doneL (i : Nat) : List Int := (List.range i).map fun (k : Nat) => (k : Int)
theorem doneL_succ (i : Nat) : doneL (i + 1) = doneL i ++ [(i : Int)] := by
  unfold doneL
  rw [List.range_succ, List.map_append]; rfl
def cameS (lv order : List Bool) : Fs := ⟨lv, order, waitP lv.length order 0, [], 0, 0⟩
theorem comes_eq {lv order : List Bool} : ∀ i, i ≤ order.length → foldAt comeS (newS lv) order i = cameS lv (order.take i)
  | 0, _ => by unfold foldAt; rw [List.take_zero]; rfl
  | i + 1, h => by
    have hi : order[i]? = some order[i] := List.getElem?_eq_getElem (by omega)
    rw [foldAt_step hi, comes_eq i (by omega)]
    generalize order[i] = u at hi
    have et : order.take (i + 1) = order.take i ++ [u] := by rw [List.take_succ, hi]; rfl
    have el : (order.take i).length = i := by rw [List.length_take]; omega
    rw [et]
    unfold cameS comeS
    dsimp only
    rw [waitP_app, Nat.zero_add, el]
    rfl
theorem came_wf {lv order : List Bool} (hl : 1 ≤ lv.length ∧ lv.length ≤ 8) (ho : order.length ≤ 100) : ∀ i, i ≤ order.length → WF (foldAt comeS (newS lv) order i)
  | 0, _ => by unfold foldAt; rw [List.take_zero]; exact wf_new hl
  | i + 1, h => by
    have hi : order[i]? = some order[i] := List.getElem?_eq_getElem (by omega)
    rw [foldAt_step hi]
    refine wf_come (came_wf hl ho i (by omega)) _ ?_
    rw [comes_eq i (by omega)]
    show (order.take i).length < 100
    rw [List.length_take]; omega
theorem plan_at {lv order : List Bool} (n1 : 1 ≤ lv.length) : ∀ i, i ≤ order.length → (planAt (lv, []) order i).1 = lvAt lv order i ∧ ∃ g, Runs (cameS lv order) (planAt (lv, []) order i).2 ⟨lvAt lv order i, order, waitP lv.length (order.drop i) i, doneL i, cAt lv order i, g⟩
  | 0, _ => ⟨rfl, 0, .nil⟩
  | i + 1, h => by
    obtain ⟨u, hu⟩ : ∃ u, order[i]? = some u := ⟨order[i], List.getElem?_eq_getElem (by omega)⟩
    obtain ⟨q1, g, q2⟩ := plan_at (lv := lv) (order := order) n1 i (by omega)
    have stp : planAt (lv, []) order (i + 1) = passM u (planAt (lv, []) order i) i := by
      show (match order[i]? with | some u => passM u (planAt (lv, []) order i) i | none => planAt (lv, []) order i) = _
      rw [hu]
    rw [stp, lvAt_step hu, cAt_step hu]
    have hl := lvAt_len lv order i
    have ed : order.drop i = u :: order.drop (i + 1) := by
      obtain ⟨h1, h2⟩ := List.getElem?_eq_some_iff.mp hu
      rw [List.drop_eq_getElem_cons h1, h2]
    rw [ed] at q2
    generalize planAt (lv, []) order i = st at *
    rw [← q1] at q2 hl ⊢
    have e1 : (st.1.length : Int) = lv.length := by rw [hl]
    have q2 : Runs (cameS lv order) st.2 ⟨st.1, order, ((i : Int), if u = true then 0 else (st.1.length : Int) + 1) :: waitP lv.length (order.drop (i + 1)) (i + 1), doneL i, cAt lv order i, g⟩ := by
      rw [e1]; exact q2
    obtain ⟨p1, g', p2⟩ := pass_ok (by omega) (fun q hq => by have := waitP_mem hq; exact ⟨by omega, by rw [e1]; exact this.2⟩) (getD_some hu) q2
    refine ⟨p1, g', ?_⟩
    rw [doneL_succ]
    exact p2
/-- a plan, done -/
theorem plan_runs {lv order : List Bool} (n1 : 1 ≤ lv.length) : ∃ g, Runs (cameS lv order) (planM lv order) ⟨lvAt lv order order.length, order, [], doneL order.length, costs lv order, g⟩ := by
  obtain ⟨_, g, q⟩ := plan_at (lv := lv) (order := order) n1 order.length (Nat.le_refl _)
  rw [List.drop_length, cAt_all] at q
  exact ⟨g, q⟩
local macro_rules | `(tactic| walk_at "ls") => `(tactic| first | exact Ls.d _ | exact Ls.own (i := 0) rfl | exact Ls.own (i := 1) rfl | exact Ls.own (i := 2) rfl | exact Ls.own (i := 3) rfl | exact Ls.own (i := 4) rfl | exact Ls.own (i := 5) rfl | exact Ls.own (i := 6) rfl | exact Ls.own (i := 7) rfl | exact Ls.own (i := 8) rfl | exact Ls.own (i := 9) rfl | exact Ls.own (i := 10) rfl)
local macro_rules | `(tactic| walk_at "vw") => `(tactic| first | exact Vw.d _ | exact Vw.own (i := 0) rfl | exact Vw.own (i := 1) rfl | exact Vw.own (i := 2) rfl | exact Vw.own (i := 3) rfl | exact Vw.own (i := 4) rfl | exact Vw.own (i := 5) rfl)
local macro_rules | `(tactic| walk_at "sq") => `(tactic| first | exact Sq.t _ | (refine' Sq.l ?vwz1; walk_at "vw"))
local macro_rules | `(tactic| walk_at "dep") => `(tactic| first | exact dep_l (Nat.zero_le 60) | exact dep_r (Nat.zero_le 60) | exact dep_l (dep_map fun _ => Nat.zero_le 10) | exact dep_r (dep_map fun _ => Nat.zero_le 10) | exact dep_l (by decide) | exact dep_r (by decide))
local macro_rules | `(tactic| walk_at "ri") => `(tactic| first | rfl)
local macro_rules | `(tactic| walk_at "rv") => `(tactic| first
  | ((with_reducible exact rv_plusI))
  | ((with_reducible refine' rv_of_F (rvf_plusM ?xz2 ?yz2 ?lz2)); (case' xz2 => walk_at "ls"); (case' yz2 => walk_at "ls"))
  | ((with_reducible refine' rv_of_F (rvf_plus ?xzp ?yzp ?lzp)); (case' xzp => walk_at "ls"); (case' yzp => walk_at "ls"))
  | ((with_reducible refine' rv_plusS ?lz3))
  | ((with_reducible exact rv_minus)) | ((with_reducible exact rv_lt)) | ((with_reducible exact rv_le)) | ((with_reducible exact rv_gt)) | ((with_reducible exact rv_ge))
  | ((with_reducible refine' rv_div ?cz4); (try (case cz4 => first | exact ⟨by decide, by decide⟩ | exact pws_pos _ _)))
  | ((with_reducible refine' rv_mod ?cz5); (try (case cz5 => decide)))
  | ((with_reducible refine' rv_times ?cz6); (try (case cz6 => first | exact .inl ⟨by omega, by omega⟩ | exact .inr ⟨by omega, by omega⟩)))
  | ((with_reducible refine' rv_pow ?cz7); (try (case cz7 => exact ⟨by decide, by decide, by decide⟩)))
  | ((with_reducible refine' rv_eq ?xz8 ?yz8 ?mz8); (case' xz8 => walk_at "vw"); (case' yz8 => walk_at "vw"); (try (case mz8 => walk_at "dep")))
  | ((with_reducible refine' rv_ne ?xz9 ?yz9 ?mz9); (case' xz9 => walk_at "vw"); (case' yz9 => walk_at "vw"); (try (case mz9 => walk_at "dep")))
  | ((with_reducible exact rv_isN)) | ((with_reducible exact rv_notN))
  | ((with_reducible refine' rv_ixs ?hz10))
  | ((with_reducible refine' rv_ixT ?hz11))
  | ((with_reducible refine' rv_ixS ?lz12 ?hz12))
  | ((with_reducible refine' rv_ixLM ?xz13 ?hz13); (case' xz13 => walk_at "ls"))
  | ((with_reducible refine' rv_ixL ?xz14 ?hz14); (case' xz14 => walk_at "ls"))
  | ((with_reducible refine' rv_in ?xz15 ?yz15 ?mz15); (case' xz15 => walk_at "vw"); (case' yz15 => walk_at "sq"))
  | ((with_reducible refine' rv_nin ?xz16 ?yz16 ?mz16); (case' xz16 => walk_at "vw"); (case' yz16 => walk_at "sq")))
local macro_rules | `(tactic| walk_at "ea") => `(tactic| first
  | ((with_reducible exact ea_nil))
  | ((with_reducible refine' ea_cons ?hz17 ?tz17); (case' hz17 => walk_at "ev"); (case' tz17 => walk_at "ea")))
local macro_rules | `(tactic| walk_at "ex") => `(tactic| first
  | ((with_reducible exact ex_nil))
  | ((with_reducible refine' ex_cons ?hz18 ?tz18); (case' hz18 => walk_at "ev"); (case' tz18 => walk_at "ex")))
local macro_rules | `(tactic| walk_at "eo") => `(tactic| first
  | ((with_reducible exact eo_none))
  | ((with_reducible refine' eo_some ?hz19); (case' hz19 => walk_at "ev")))
local macro_rules | `(tactic| walk_at "ei") => `(tactic| first
  | ((with_reducible refine' ei_list ?hz20); (case' hz20 => walk_at "ev"))
  | ((with_reducible refine' ei_tup ?hz21); (case' hz21 => walk_at "ev"))
  | ((with_reducible refine' ei_rng1M ?hz22 ?nz22); (case' hz22 => walk_at "ev"))
  | ((with_reducible refine' ei_rng2M ?hz23 ?kz23 ?nz23); (case' hz23 => walk_at "ev"); (case' kz23 => walk_at "ev")))
local macro_rules | `(tactic| walk_at "evf") => `(tactic| first
  | ((with_reducible refine' evf_lst ?hz24 ?lz24); (case' hz24 => walk_at "ex"); (try (case lz24 => first | decide | simp)))
  | ((with_reducible refine' evf_slM ?hz25 ?az25 ?bz25 ?lz25); (case' hz25 => walk_at "ev"); (case' az25 => walk_at "eo"); (case' bz25 => walk_at "eo"); (case' lz25 => walk_at "ls"))
  | ((with_reducible refine' evf_sls ?hz26 ?az26 ?bz26 ?lz26); (case' hz26 => walk_at "ev"); (case' az26 => walk_at "eo"); (case' bz26 => walk_at "eo"))
  | ((with_reducible refine' evf_sl ?hz27 ?az27 ?bz27 ?lz27); (case' hz27 => walk_at "ev"); (case' az27 => walk_at "eo"); (case' bz27 => walk_at "eo"); (case' lz27 => walk_at "ls"))
  | ((with_reducible refine' evf_list ?hz28 ?lz28); (case' hz28 => walk_at "ev"); (case' lz28 => walk_at "ls"))
  | ((with_reducible refine' evf_lcI0 (α := _) _ ?hz29 ?jz29 ?ez29); (case' hz29 => walk_at "ei"); (case jz29 => decide); (case' ez29 => (intro x hx; walk_at "ev")))
  | ((with_reducible refine' evf_lcI (α := _) _ _ ?hz30 ?jz30 ?tz30 ?ez30); (case' hz30 => walk_at "ei"); (case jz30 => decide); (case' tz30 => (intro x hx; walk_at "et")); (case' ez30 => (intro x hx hf; walk_at "ev")))
  | ((with_reducible refine' evf_callP ?az31 ?fz31); (case' az31 => walk_at "ea"); (case' fz31 => walk_at "fn"))
  | ((with_reducible refine' evf_op ?az32 ?bz32 ?rz32); (case' az32 => walk_at "ev"); (case' bz32 => walk_at "ev"); (case' rz32 => ((with_reducible refine' rvf_plusM ?xz32 ?yz32 ?lz32); (case' xz32 => walk_at "ls"); (case' yz32 => walk_at "ls")))))
local macro_rules | `(tactic| walk_at "et") => `(tactic| first
  | ((with_reducible exact et_yes))
  | ((with_reducible refine' et_test ?hz33); (case' hz33 => walk_at "ev"))
  | ((with_reducible refine' et_val ?hz34); (case' hz34 => walk_at "ev"))
  | ((with_reducible refine' et_not ?hz35); (case' hz35 => walk_at "et"))
  | ((with_reducible refine' et_and ?hz36 ?kz36); (case' hz36 => walk_at "et"); (case' kz36 => (intro hk; walk_at "et")))
  | ((with_reducible refine' et_or ?hz37 ?kz37); (case' hz37 => walk_at "et"); (case' kz37 => (intro hk; walk_at "et"))))
local macro_rules | `(tactic| walk_at "ev") => `(tactic| first
  | ((with_reducible refine' ev_var ?hvr); (case hvr => rfl))
  | ((with_reducible exact ev_int)) | ((with_reducible exact ev_str)) | ((with_reducible exact ev_bl)) | ((with_reducible exact ev_non))
  | ((with_reducible refine' ev_op ?az39 ?bz39 ?rz39); (case' az39 => walk_at "ev"); (case' bz39 => walk_at "ev"); (case' rz39 => walk_at "rv"))
  | ((with_reducible refine' ev_neg ?az40); (case' az40 => walk_at "ev"))
  | ((with_reducible refine' ev_not ?az41); (case' az41 => walk_at "ev"))
  | ((with_reducible refine' ev_and ?az42 ?bz42); (case' az42 => walk_at "ev"); (case' bz42 => (intro hk; walk_at "ev")))
  | ((with_reducible refine' ev_or ?az43 ?bz43); (case' az43 => walk_at "ev"); (case' bz43 => (intro hk; walk_at "ev")))
  | ((with_reducible refine' ev_chain ?az44 ?bz44 ?rz44 ?cz44); (case' az44 => walk_at "ev"); (case' bz44 => walk_at "ev"); (case' rz44 => walk_at "rv"); (case' cz44 => (intro hk; (refine' ⟨?c1z44, ?c2z44⟩; (case' c1z44 => walk_at "ev"); (case' c2z44 => walk_at "rv")))))
  | ((with_reducible refine' ev_tup ?az45 ?lz45); (case' az45 => walk_at "ex"); (try (case lz45 => first | decide | simp)))
  | ((with_reducible refine' ev_lenL ?az46 ?lz46); (case' az46 => walk_at "ev"); (case' lz46 => walk_at "ls"))
  | ((with_reducible refine' ev_lens ?az47); (case' az47 => walk_at "ev"))
  | ((with_reducible refine' ev_lenS ?az48 ?lz48); (case' az48 => walk_at "ev"))
  | ((with_reducible refine' ev_lenT ?az49); (case' az49 => walk_at "ev"))
  | ((with_reducible refine' ev_int1 ?az50); (case' az50 => walk_at "ev"))
  | ((with_reducible refine' ev_min2 ?az51 ?bz51); (case' az51 => walk_at "ev"); (case' bz51 => walk_at "ev"))
  | ((with_reducible refine' ev_max2 ?az52 ?bz52); (case' az52 => walk_at "ev"); (case' bz52 => walk_at "ev"))
  | ((with_reducible refine' ev_isi ?az53 ?vz53 ?tz53 ?kz53); (case' az53 => walk_at "ev"); (case' vz53 => walk_at "vw"); (case tz53 => rfl); (case kz53 => decide +kernel))
  | ((with_reducible refine' ev_cnt ?az54 ?lz54 ?bz54 ?mz54); (case' az54 => walk_at "ev"); (case' lz54 => walk_at "ls"); (case' bz54 => walk_at "ev"))
  | ((with_reducible refine' ev_all ?az55 ?lz55); (case' az55 => walk_at "ev"); (case' lz55 => walk_at "ls"))
  | ((with_reducible refine' ev_sum ?az56 ?lz56); (case' az56 => walk_at "ev"); (case' lz56 => walk_at "ls"))
  | ((with_reducible refine' ev_callP ?az57 ?fz57); (case' az57 => walk_at "ea"); (case' fz57 => walk_at "fn"))
  | ((with_reducible refine' ev_frz ?az58); (case' az58 => walk_at "evf"))
  | ((with_reducible refine' ev_callP ?azq ?fzq); (case' azq => walk_at "ea")))
local macro_rules | `(tactic| walk_at "ix") => `(tactic| first | omega | (simp only [List.mem_range] at *; omega))
local macro_rules | `(tactic| walk_at "ev") => `(tactic| ((with_reducible refine' ev_pws ?hpws ?ipws); (case' hpws => walk_at "ev"); (try (case ipws => walk_at "ix"))))
local macro_rules | `(tactic| walk_at "ev") => `(tactic| ((with_reducible refine' ev_updown ?hupd ?iupd); (case' hupd => walk_at "ev"); (try (case iupd => omega))))
local macro_rules | `(tactic| walk_at "ev") => `(tactic| ((with_reducible refine' ev_pairB ?apb ?bpb ?cpb); (case' apb => walk_at "ev"); (case' bpb => walk_at "ev"); (case' cpb => walk_at "ev")))
def Φ_ask_levels (A : Ad) : Fn := fun ds R N M => ∃ xs, ds = [.d (.list xs)] ∧ R = [] ∧ (1 ≤ xs.length ∧ xs.length ≤ 8 → N (.d .none) []) ∧ (¬ (1 ≤ xs.length ∧ xs.length ≤ 8) → M (.ref A.bf) [])
-- NEED fl
def Φ_m_init (A : Ad) : Fn := fun ds R N M => ∃ x lv, ds = [.r x, .d (.list (lv.map .bool))] ∧ R = [(x, .ins A.C [])] ∧ (1 ≤ lv.length ∧ lv.length ≤ 8 → ∀ a : Fa, a.f = x → N (.d .none) (flR A.C a (newS lv))) ∧ (¬ (1 ≤ lv.length ∧ lv.length ≤ 8) → ∀ R', M (.ref A.bf) R')
/-- Flight(levels) -/
theorem v_make {K : PySem.W.Frag} {A : Ad} {Ek : WX} {δ : DEnv} {R : Res} {te : TE} {S : L2.St → XK} {lv : List Bool} {N : D → Res → Prop} {M : Value → Res → Prop} (h : Ev K δ R te (.d (.list (lv.map .bool)))) (n : 1 ≤ lv.length ∧ lv.length ≤ 8 → ∀ a : Fa, N (.r a.f) (flR A.C a (newS lv) ++ R)) (m : ¬ (1 ≤ lv.length ∧ lv.length ≤ 8) → M (.ref A.bf) R) (hE : ∀ c R' σ H', M c R' → Ek c none σ H' → S σ c none H') :
    EvE K Ek δ R (tMakeS A.C (spD K (Φ_m_init A)) S (tCons te tNil)) N M :=
  ee_make (ea_cons h ea_nil) (fun x => ⟨x, lv, rfl, rfl, fun q a e => ⟨rfl, by subst e; exact n q a⟩, fun q R' => m q⟩) hE
/-- what bears scalars alone -/
def scalO : D → Bool
  | .d x => scalD x
  | .r _ => true
  | .s _ => false
inductive ScalR : RO → Prop
  | lst {ds : List PyData} (h : ∀ d ∈ ds, scalD d = true) : ScalR (.lst ds)
  | ins {C : Addr} {fs : List (Str × D)} (h : ∀ p ∈ fs, scalO p.2 = true) : ScalR (.ins C fs)
  | dic {kvs : List (Key × D)} (h : ∀ p ∈ kvs, scalO p.2 = true) : ScalR (.dic kvs)
theorem HD.scal {K : PySem.W.Frag} {G G' : Hp} : ∀ {d : D} {v : V}, scalO d = true → HD K G v d → HD K G' v d
  | .d _, _, s, h => Hv.scal h s
  | .r _, _, _, h => h
  | .s _, _, s, _ => by cases s
theorem Hvs.scal {G G' : Hp} : ∀ {ds : List PyData} {vs : List V}, (∀ d ∈ ds, scalD d = true) → Hvs G vs ds → Hvs G' vs ds
  | [], _, _, h => by cases h; exact .nil
  | d :: ds, _, s, h => by
    cases h with
    | cons a b => exact .cons (Hv.scal a (s d List.mem_cons_self)) (Hvs.scal (fun x hx => s x (List.mem_cons_of_mem _ hx)) b)
theorem Fvs.scal {K : PySem.W.Frag} {G G' : Hp} {κ : Type} {vs : List (κ × V)} {ds : List (κ × D)} (s : ∀ p ∈ ds, scalO p.2 = true) (h : Fvs K G vs ds) : Fvs K G' vs ds := by
  induction h with
  | nil => exact .nil
  | cons a b ih => exact .cons (HD.scal (s _ List.mem_cons_self) a) (ih fun p hp => s p (List.mem_cons_of_mem _ hp))
theorem Own1.scal {K : PySem.W.Frag} {G G' H : Hp} {a : Addr} {q : RO} (s : ScalR q) (h : Own1 K G H a q) : Own1 K G' H a q := by
  cases s with
  | lst s => obtain ⟨vs, h1, h2, h3⟩ := h; exact ⟨vs, h1, h2, h3.scal s⟩
  | ins s => obtain ⟨dx, vs, h1, h2⟩ := h; exact ⟨dx, vs, h1, h2.scal s⟩
  | dic s => obtain ⟨vs, h1, h2, h3⟩ := h; exact ⟨vs, h1, h2, h3.scal s⟩
theorem flR_scal {C : Addr} {a : Fa} {S : Fs} : ∀ p ∈ flR C a S, ScalR p.2 := by
  intro p hp
  unfold flR at hp
  rcases List.mem_cons.mp hp with e | hp
  · subst e
    refine .ins fun q hq => ?_
    unfold fldF at hq
    simp only [List.mem_cons, List.not_mem_nil, or_false] at hq
    rcases hq with e | e | e | e | e | e <;> (subst e; rfl)
  · rcases List.mem_cons.mp hp with e | hp
    · subst e
      refine .lst fun d hd => ?_
      obtain ⟨x, _, rfl⟩ := List.mem_map.mp hd
      rfl
    · rcases List.mem_cons.mp hp with e | hp
      · subst e
        refine .lst fun d hd => ?_
        obtain ⟨x, _, rfl⟩ := List.mem_map.mp hd
        rfl
      · rcases List.mem_cons.mp hp with e | hp
        · subst e
          refine .dic fun d hd => ?_
          obtain ⟨x, _, rfl⟩ := List.mem_map.mp hd
          rfl
        · have e : p = (a.d, .lst (S.done.map .int)) := by simpa using hp
          subst e
          refine .lst fun d hd => ?_
          obtain ⟨x, _, rfl⟩ := List.mem_map.mp hd
          rfl
/-- Flight(levels), the levels an own list -/
theorem ee_makeZ {K : PySem.W.Frag} {A : Ad} {Ek : WX} {δ : DEnv} {R : Res} {te : TE} {S : L2.St → XK} {d : D} {lv : List Bool} {N : D → Res → Prop} {M : Value → Res → Prop} (h1 : Ev K δ R te d) (hv : Vw R d (.list (lv.map .bool))) (h8 : 1 ≤ lv.length ∧ lv.length ≤ 8) (n : ∀ a : Fa, N (.r a.f) (flR A.C a (newS lv) ++ R)) :
    EvE K Ek δ R (tMakeS A.C (spD K (Φ_m_init A)) S (tCons te tNil)) N M := fun G H σ Q ok en k _ => h1 G H σ _ ok en fun v G1 H1 ok1 l1 q1 => fun x dx nx ndx ne => by
  have hv1 := hv.hv ok1 q1
  have nx2 : upd H1 dx (.own x) x = none := by rw [upd_ne ne.symm]; exact nx
  have g12 : Gx H1 (upd H1 dx (.own x)) := Gx.new ndx
  have okc : Ok K (upd H1 dx (.own x)) (upd (upd H1 dx (.own x)) x (.ins A.C dx [])) [(x, .ins A.C [])] := ⟨Gx.new nx2, fun p hp => by
    have e : p = (x, .ins A.C []) := by simpa using hp
    subst e
    exact ⟨nx2, dx, [], upd_same, .nil⟩, by simp [adr]⟩
  refine ⟨upd H1 dx (.own x), [.r x, .d (.list (lv.map .bool))], [(x, .ins A.C [])], fun d R' => d = .d .none ∧ ∃ a : Fa, a.f = x ∧ R' = flR A.C a (newS lv), fun _ _ => False, .cons rfl (.cons (Hv.mono g12 _ hv1) .nil), okc, ⟨x, lv, rfl, rfl, fun _ a e => ⟨rfl, a, e, rfl⟩, fun q => absurd h8 q⟩, fun d R' u G' H' n' ok' le hu => ?_, fun _ _ _ _ h => h.elim⟩
  obtain ⟨rfl, a, rfl, rfl⟩ := n'
  cases (show Hv G' u .none from hu)
  have gH : Gx H1 H' := (g12.trans le.g).trans ok'.ex
  have gG : Gx G1 G' := (ok1.ex.trans g12).trans le.g
  have fresh : ∀ b ∈ adr (flR A.C a (newS lv)), H1 b = none := fun b hb => by
    rcases le.r b hb with z | z
    · have e : b = a.f := by simpa [adr] using z
      rw [e]; exact nx
    · have g3 : Gx H1 (upd (upd H1 dx (.own a.f)) a.f (.ins A.C dx [])) := g12.trans (Gx.new nx2)
      exact g3.free z
  refine ⟨rfl, k (.r a.f) (flR A.C a (newS lv) ++ R) (.ref a.f) G1 H' (n a) ⟨ok1.ex.trans gH, fun p hp => ?_, ?_⟩ (l1.trans ⟨Gx.refl _, fun b o e _ => gH b o e, fun b e => .inl e, fun b m => ?_, fun b e => ?_⟩) rfl⟩
  · rcases List.mem_append.mp hp with hp | hp
    · obtain ⟨z1, z2⟩ := ok'.own p hp
      exact ⟨gG.free z1, Own1.scal (flR_scal p hp) z2⟩
    · obtain ⟨z1, z2⟩ := ok1.own p hp
      exact ⟨z1, Own1.mono (Gx.refl _) (fun o e => gH _ _ e) z2⟩
  · show ((flR A.C a (newS lv) ++ R).map (·.1)).Nodup
    rw [List.map_append]
    refine List.nodup_append.mpr ⟨ok'.nd, ok1.nd, fun y hy z hz e => ?_⟩
    obtain ⟨u, hu⟩ := ok1.there (show z ∈ adr R from hz)
    have := fresh y hy
    rw [e, hu] at this
    cases this
  · have m' : b ∈ (flR A.C a (newS lv) ++ R).map (·.1) := m
    rw [List.map_append, List.mem_append] at m'
    rcases m' with m' | m'
    · exact .inr (fresh b m')
    · exact .inl m'
  · cases q : H1 b with
    | none => exact absurd q e
    | some o => rw [gH b o q]; simp
-- NEED fl
def Φ_m_levels (A : Ad) : Fn := fun ds R N M => ∃ (a : Fa) (S : Fs), ds = [.r a.f] ∧ R = flR A.C a S ∧ (∀ b, N (.r b) ((b, .lst (S.high.map .bool)) :: flR A.C a S))
theorem v_m_levels {K : PySem.W.Frag} {A : Ad} {δ : DEnv} {R : Res} {f : Res → Res} {a : Fa} {S : Fs} {te : TE} {Sx : L2.St → XK} (h : Ev K δ R te (.r a.f)) (hi : Inn (flR A.C a S) R f) : EvF K δ R (tMethS' A.C "levels" (spD K (Φ_m_levels A)) Sx te tNil) (S.high.map .bool) :=
  evf_methN h hi rfl rfl ea_nil fun hn => ⟨a, S, rfl, rfl, fun b => ⟨b, rfl, hn _⟩⟩
-- NEED fl
def Φ_m_top (A : Ad) : Fn := fun ds R N M => ∃ (a : Fa) (S : Fs), ds = [.r a.f] ∧ R = flR A.C a S ∧ N (.d (.int (Fs.n S + 1))) (flR A.C a S)
theorem v_m_top {K : PySem.W.Frag} {A : Ad} {δ : DEnv} {R : Res} {f : Res → Res} {a : Fa} {S : Fs} {te : TE} {Sx : L2.St → XK} (h : Ev K δ R te (.r a.f)) (hi : Inn (flR A.C a S) R f) : Ev K δ R (tMethS' A.C "top" (spD K (Φ_m_top A)) Sx te tNil) (.d (.int (Fs.n S + 1))) :=
  ev_methN h hi rfl rfl ea_nil fun hb => ⟨a, S, rfl, rfl, rfl, hb⟩
-- NEED fl
def Φ_m_boats (A : Ad) : Fn := fun ds R N M => ∃ (a : Fa) (S : Fs), ds = [.r a.f] ∧ R = flR A.C a S ∧ WF S ∧ (∀ b, N (.r b) ((b, .lst ((boatsM S).map optD)) :: flR A.C a S))
theorem v_m_boats {K : PySem.W.Frag} {A : Ad} {δ : DEnv} {R : Res} {f : Res → Res} {a : Fa} {S : Fs} {te : TE} {Sx : L2.St → XK} (w : WF S) (h : Ev K δ R te (.r a.f)) (hi : Inn (flR A.C a S) R f) : EvF K δ R (tMethS' A.C "boats" (spD K (Φ_m_boats A)) Sx te tNil) ((boatsM S).map optD) :=
  evf_methN h hi rfl rfl ea_nil fun hn => ⟨a, S, rfl, rfl, w, fun b => ⟨b, rfl, hn _⟩⟩
-- NEED fl
def Φ_m_waiting (A : Ad) : Fn := fun ds R N M => ∃ (a : Fa) (S : Fs) (u : Bool), ds = [.r a.f, .d (sd u)] ∧ R = flR A.C a S ∧ WF S ∧ (∀ b, N (.r b) ((b, .lst ((waitM S u).map .int)) :: flR A.C a S))
theorem v_m_waiting {K : PySem.W.Frag} {A : Ad} {δ : DEnv} {R : Res} {f : Res → Res} {a : Fa} {S : Fs} {te tb : TE} {Sx : L2.St → XK} {u : Bool} (w : WF S) (h : Ev K δ R te (.r a.f)) (h2 : Ev K δ R tb (.d (sd u))) (hi : Inn (flR A.C a S) R f) : EvF K δ R (tMethS' A.C "waiting" (spD K (Φ_m_waiting A)) Sx te (tCons tb tNil)) ((waitM S u).map .int) :=
  evf_methN h hi rfl rfl (ea_cons h2 ea_nil) fun hn => ⟨a, S, u, rfl, rfl, w, fun b => ⟨b, rfl, hn _⟩⟩
theorem keys_sorted {S : Fs} (w : WF S) : (keysOf S.places).Pairwise (· ≤ ·) := w.ks.imp fun h => Int.le_of_lt h
-- NEED fl
def Φ_m_through (A : Ad) : Fn := fun ds R N M => ∃ (a : Fa) (S : Fs), ds = [.r a.f] ∧ R = flR A.C a S ∧ (∀ b, N (.r b) ((b, .lst (S.done.map .int)) :: flR A.C a S))
theorem v_m_through {K : PySem.W.Frag} {A : Ad} {δ : DEnv} {R : Res} {f : Res → Res} {a : Fa} {S : Fs} {te : TE} {Sx : L2.St → XK} (h : Ev K δ R te (.r a.f)) (hi : Inn (flR A.C a S) R f) : EvF K δ R (tMethS' A.C "through" (spD K (Φ_m_through A)) Sx te tNil) (S.done.map .int) :=
  evf_methN h hi rfl rfl ea_nil fun hn => ⟨a, S, rfl, rfl, fun b => ⟨b, rfl, hn _⟩⟩
-- NEED fl
def Φ_m_place (A : Ad) : Fn := fun ds R N M => ∃ (a : Fa) (S : Fs) (b : Int), ds = [.r a.f, .d (.int b)] ∧ R = flR A.C a S ∧ (∀ v, plc S.places b = some v → N (.d (.int v)) (flR A.C a S)) ∧ (plc S.places b = none → M (.ref A.nb) (flR A.C a S))
theorem v_m_place {K : PySem.W.Frag} {A : Ad} {δ : DEnv} {R : Res} {f : Res → Res} {a : Fa} {S : Fs} {te tb : TE} {Sx : L2.St → XK} {b v : Int} (hb : plc S.places b = some v) (h : Ev K δ R te (.r a.f)) (h2 : Ev K δ R tb (.d (.int b))) (hi : Inn (flR A.C a S) R f) : Ev K δ R (tMethS' A.C "place" (spD K (Φ_m_place A)) Sx te (tCons tb tNil)) (.d (.int v)) :=
  ev_methN h hi rfl rfl (ea_cons h2 ea_nil) fun hn => ⟨a, S, b, rfl, rfl, fun x hx => ⟨by rw [hb] at hx; cases hx; rfl, hn⟩, fun q => by rw [hb] at q; cases q⟩
-- NEED fl
def Φ_m_drawn (A : Ad) : Fn := fun ds R N M => ∃ (a : Fa) (S : Fs), ds = [.r a.f] ∧ R = flR A.C a S ∧ N (.d (.int S.taken)) (flR A.C a S)
theorem v_m_drawn {K : PySem.W.Frag} {A : Ad} {δ : DEnv} {R : Res} {f : Res → Res} {a : Fa} {S : Fs} {te : TE} {Sx : L2.St → XK} (h : Ev K δ R te (.r a.f)) (hi : Inn (flR A.C a S) R f) : Ev K δ R (tMethS' A.C "drawn" (spD K (Φ_m_drawn A)) Sx te tNil) (.d (.int S.taken)) :=
  ev_methN h hi rfl rfl ea_nil fun hb => ⟨a, S, rfl, rfl, rfl, hb⟩
-- NEED fl
def Φ_m_out (A : Ad) : Fn := fun ds R N M => ∃ (a : Fa) (S : Fs), ds = [.r a.f] ∧ R = flR A.C a S ∧ N (.d (.int S.given)) (flR A.C a S)
theorem v_m_out {K : PySem.W.Frag} {A : Ad} {δ : DEnv} {R : Res} {f : Res → Res} {a : Fa} {S : Fs} {te : TE} {Sx : L2.St → XK} (h : Ev K δ R te (.r a.f)) (hi : Inn (flR A.C a S) R f) : Ev K δ R (tMethS' A.C "out" (spD K (Φ_m_out A)) Sx te tNil) (.d (.int S.given)) :=
  ev_methN h hi rfl rfl ea_nil fun hb => ⟨a, S, rfl, rfl, rfl, hb⟩
-- NEED fl
def Φ_m_come (A : Ad) : Fn := fun ds R N M => ∃ (a : Fa) (S : Fs) (u : Bool), ds = [.r a.f, .d (sd u)] ∧ R = flR A.C a S ∧ WF S ∧ N (.d (.int S.sides.length)) (flR A.C a (comeS S u))
theorem come_new {S : Fs} (w : WF S) : ¬ (S.places.any fun q => decide (q.1 = (S.sides.length : Int))) = true := by
  intro h
  obtain ⟨q, hq, e⟩ := List.any_eq_true.mp h
  have := of_decide_eq_true e
  have := w.kb q hq
  omega
theorem come_put {S : Fs} (w : WF S) (v : Int) : pput S.places S.sides.length v = S.places ++ [((S.sides.length : Int), v)] := by
  unfold pput
  rw [if_neg (come_new w)]
theorem come_put2 {S : Fs} (w : WF S) (v v' : Int) : pput (S.places ++ [((S.sides.length : Int), v)]) S.sides.length v' = S.places ++ [((S.sides.length : Int), v')] := by
  unfold pput
  rw [if_pos (List.any_eq_true.mpr ⟨_, List.mem_append_right _ List.mem_cons_self, by simp⟩), List.map_append]
  congr 1
  · conv => rhs; rw [← List.map_id S.places]
    refine List.map_congr_left fun q hq => ?_
    have := w.kb q hq
    rw [if_neg (by omega)]; rfl
  · simp
-- NEED fl
def Φ_m_let (A : Ad) : Fn := fun ds R N M => ∃ (a : Fa) (S : Fs) (g : Int), ds = [.r a.f, .d (.int g)] ∧ R = flR A.C a S ∧ (letW S g = 0 → N (.d (.int (letS S g).taken)) (flR A.C a (letS S g))) ∧ (letW S g = 1 → M (.ref A.ng) (flR A.C a S)) ∧ (letW S g = 2 → M (.ref A.nf) (flR A.C a S))
-- NEED fl
def Φ_m_is_level (A : Ad) : Fn := fun ds R N M => ∃ (a : Fa) (S : Fs) (g : Int), ds = [.r a.f, .d (.int g)] ∧ R = flR A.C a S ∧ 0 ≤ g ∧ g ≤ S.n ∧ N (.d (.bool (levB S g))) (flR A.C a S)
theorem v_m_is_level {K : PySem.W.Frag} {A : Ad} {δ : DEnv} {R : Res} {f : Res → Res} {a : Fa} {S : Fs} {te tb : TE} {Sx : L2.St → XK} {g : Int} (hg : 0 ≤ g ∧ g ≤ S.n) (h : Ev K δ R te (.r a.f)) (h2 : Ev K δ R tb (.d (.int g))) (hi : Inn (flR A.C a S) R f) : Ev K δ R (tMethS' A.C "is_level" (spD K (Φ_m_is_level A)) Sx te (tCons tb tNil)) (.d (.bool (levB S g))) :=
  ev_methN h hi rfl rfl (ea_cons h2 ea_nil) fun hn => ⟨a, S, g, rfl, rfl, hg.1, hg.2, rfl, hn⟩
-- NEED fl
def Φ_m_sail (A : Ad) : Fn := fun ds R N M => ∃ (a : Fa) (S : Fs) (b : Int), ds = [.r a.f, .d (.int b)] ∧ R = flR A.C a S ∧ WF S ∧ (sailW S b = 0 → N (.d (.int (thenM S b))) (flR A.C a (sailS S b))) ∧ (sailW S b = 3 → M (.ref A.nb) (flR A.C a S)) ∧ (sailW S b = 4 → M (.ref A.ns) (flR A.C a S)) ∧ (sailW S b = 5 → M (.ref A.sh) (flR A.C a S)) ∧ (sailW S b = 6 → M (.ref A.oc) (flR A.C a S))
def Φ_cost_of (A : Ad) : Fn := fun ds R N M => ∃ bs u, ds = [.d (.list (bs.map .bool)), .d (sd u)] ∧ R = [] ∧ bs ≠ [] ∧ N (.d (.int (costOf bs u))) []
theorem c_cost_of {A : Ad} {N : D → Res → Prop} {M : Value → Res → Prop} {bs : List Bool} {u : Bool} (h : bs ≠ []) (n : N (.d (.int (costOf bs u))) []) : Φ_cost_of A [.d (.list (bs.map .bool)), .d (sd u)] [] N M := ⟨bs, u, rfl, rfl, h, n⟩
local macro_rules | `(tactic| walk_at "fn") => `(tactic| ((with_reducible refine' c_cost_of ?hcostof ?ncostof); (case ncostof => exact ⟨rfl, rfl⟩)))
def Φ_behind (A : Ad) : Fn := fun ds R N M => ∃ bs u, ds = [.d (.list (bs.map .bool)), .d (sd u)] ∧ R = [] ∧ ∀ a, N (.r a) [(a, .lst ((behindOf bs u).map .bool))]
theorem c_behind {A : Ad} {N : D → Res → Prop} {M : Value → Res → Prop} {bs : List Bool} {u : Bool} (n : ∀ a, N (.r a) [(a, .lst ((behindOf bs u).map .bool))]) : Φ_behind A [.d (.list (bs.map .bool)), .d (sd u)] [] N M := ⟨bs, u, rfl, rfl, n⟩
local macro_rules | `(tactic| walk_at "fn") => `(tactic| ((with_reducible refine' c_behind ?nbehind); (case nbehind => exact fun a => ⟨a, rfl, rfl⟩)))
def Φ_cost (A : Ad) : Fn := fun ds R N M => ∃ bs order, ds = [.d (.list (bs.map .bool)), .d (.list (order.map sd))] ∧ R = [] ∧ (1 ≤ bs.length ∧ bs.length ≤ 8 → N (.d (.int (costs bs order))) []) ∧ (¬ (1 ≤ bs.length ∧ bs.length ≤ 8) → M (.ref A.bf) [])
theorem c_cost {A : Ad} {N : D → Res → Prop} {M : Value → Res → Prop} {bs order : List Bool} (h : 1 ≤ bs.length ∧ bs.length ≤ 8) (n : N (.d (.int (costs bs order))) []) : Φ_cost A [.d (.list (bs.map .bool)), .d (.list (order.map sd))] [] N M := ⟨bs, order, rfl, rfl, fun _ => n, fun q => absurd h q⟩
local macro_rules | `(tactic| walk_at "fn") => `(tactic| ((with_reducible refine' c_cost ?hcost ?ncost); (case ncost => exact ⟨rfl, rfl⟩)))
def Φ_filled (A : Ad) : Fn := fun ds R N M => ∃ lv c, ds = [.d (.list (lv.map .bool)), .d (.int (c : Nat))] ∧ R = [] ∧ c ≤ lv.length ∧ lv.length ≤ 8 ∧ N (.d (.list (((filledM lv c).map Dd.lt).map encDd))) []
theorem c_filled {A : Ad} {N : D → Res → Prop} {M : Value → Res → Prop} {lv : List Bool} {c : Nat} (h : c ≤ lv.length) (h8 : lv.length ≤ 8) (n : N (.d (.list (((filledM lv c).map Dd.lt).map encDd))) []) : Φ_filled A [.d (.list (lv.map .bool)), .d (.int (c : Nat))] [] N M := ⟨lv, c, rfl, rfl, h, h8, n⟩
theorem ev_letP {K : PySem.W.Frag} {δ : DEnv} {R : Res} {g : Nat} {te : TE} (h : Ev K δ R te (.d (.int g))) : Ev K δ R (tTup (tCons (tC (.str "let")) (tCons te tNil))) (.d (encDd (.lt g))) := ev_tup (ex_cons ev_str (ex_cons h ex_nil)) (by simp)
theorem ev_sailP {K : PySem.W.Frag} {δ : DEnv} {R : Res} {g : Nat} {te : TE} (h : Ev K δ R te (.d (.int g))) : Ev K δ R (tTup (tCons (tC (.str "sail")) (tCons te tNil))) (.d (encDd (.sl g))) := ev_tup (ex_cons ev_str (ex_cons h ex_nil)) (by simp)
theorem rng_nat (c n : Nat) : rngD (c : Int) n = ((List.range n).map (c + ·)).map fun g : Nat => PyData.int g := by
  unfold rngD
  rw [List.map_map]
  refine List.map_congr_left fun i _ => ?_
  show PyData.int ((c : Int) + i) = .int ((c + i : Nat) : Int)
  rw [Int.natCast_add]
def Φ_emptied (A : Ad) : Fn := fun ds R N M => ∃ lv c, ds = [.d (.list (lv.map .bool)), .d (.int (c : Nat))] ∧ R = [] ∧ 1 ≤ c ∧ c ≤ lv.length ∧ lv.length ≤ 8 ∧ N (.d (.list (((emptiedM lv c).map Dd.lt).map encDd))) []
theorem c_emptied {A : Ad} {N : D → Res → Prop} {M : Value → Res → Prop} {lv : List Bool} {c : Nat} (h1 : 1 ≤ c) (h : c ≤ lv.length) (h8 : lv.length ≤ 8) (n : N (.d (.list (((emptiedM lv c).map Dd.lt).map encDd))) []) : Φ_emptied A [.d (.list (lv.map .bool)), .d (.int (c : Nat))] [] N M := ⟨lv, c, rfl, rfl, h1, h, h8, n⟩
def Φ_let_all (A : Ad) : Fn := fun ds R N M => ∃ lv gs, ds = [.d (.list (lv.map .bool)), .d (.list ((gs.map Dd.lt).map encDd))] ∧ R = [] ∧ lv.length ≤ 8 ∧ (∀ g ∈ gs, g ≤ lv.length) ∧ N (.d (.list ((letAllM lv gs).map .bool))) []
def Φ_put (A : Ad) : Fn := fun ds R N M => ∃ (st : LD) (gs : List Nat) (a : Addr), ds = [.d (.list (st.1.map .bool)), .r a, .d (.list ((gs.map Dd.lt).map encDd))] ∧ R = [(a, .lst (st.2.map encDd))] ∧ st.1.length ≤ 8 ∧ (∀ g ∈ gs, g ≤ st.1.length) ∧ gs.length ≤ 100 ∧ st.2.length ≤ 40000 ∧ N (.d (.list ((putM st gs).1.map .bool))) [(a, .lst ((putM st gs).2.map encDd))]
def Φ_passage_up (A : Ad) : Fn := fun ds R N M => ∃ (st : LD) (b : Nat) (a : Addr), ds = [.d (.list (st.1.map .bool)), .d (.int b), .r a] ∧ R = [(a, .lst (st.2.map encDd))] ∧ (1 ≤ st.1.length ∧ st.1.length ≤ 8) ∧ st.2.length ≤ 30000 ∧ N (.d (.list ((upM st b).1.map .bool))) [(a, .lst ((upM st b).2.map encDd))]
theorem rng_ups (n : Nat) : rngD 1 ((n : Int) + 1 - 1).toNat = (ups1 n).map fun g : Nat => PyData.int g := by
  rw [show ((n : Int) + 1 - 1).toNat = n by omega]
  have := rng_nat 1 n
  exact this
/-- levels = put(levels, deeds, filled or emptied); deeds.append(("sail", boat)) -/
theorem x_puts {K : PySem.W.Frag} {A : Ad} {E : XK} {P : Post} {δ : DEnv} {st : LD} {gs : List Nat} {a : Addr} {tg : TE} (h0 : δ[0]? = some (some (.d (.list (st.1.map .bool))))) (h2 : δ[2]? = some (some (.r a))) (hg : ∀ R, Ev K δ R tg (.d (.list ((gs.map Dd.lt).map encDd))))
    (h8 : st.1.length ≤ 8) (hgs : ∀ g ∈ gs, g ≤ st.1.length) (hgl : gs.length ≤ 100) (hd : st.2.length ≤ 40000) (n : P.nx (δ.set 0 (some (.d (.list ((putM st gs).1.map .bool))))) [(a, .lst ((putM st gs).2.map encDd))]) :
    XS K (fun c d _ H => E c d H) δ [(a, .lst (st.2.map encDd))] (tAsg (tCallS (spD K (Φ_put A)) (fun _ => E) (tCons (tVar 0) (tCons (tVar 2) (tCons tg tNil)))) (gName 0)) P := by
  refine x_asgE (M := fun _ _ => False) (N := fun d R' => d = .d (.list ((putM st gs).1.map .bool)) ∧ R' = [(a, .lst ((putM st gs).2.map encDd))]) (ee_call3 (ea_cons (ev_var h0) (ea_cons (ev_var h2) (ea_cons (hg _) ea_nil))) ⟨st, gs, a, rfl, rfl, h8, hgs, hgl, hd, rfl, rfl⟩ fun _ _ _ _ h => h.elim) ?_ fun _ _ h => h.elim
  rintro d R' ⟨rfl, rfl⟩
  exact n
theorem x_sails {K : PySem.W.Frag} {E : XK} {P : Post} {δ : DEnv} {st : LD} {b : Nat} {a : Addr} (h1 : δ[1]? = some (some (.d (.int (b : Nat))))) (h2 : δ[2]? = some (some (.r a))) (hd : st.2.length < 50000) (n : P.nx δ [(a, .lst ((sailM b st).2.map encDd))]) :
    XS K (fun c d _ H => E c d H) δ [(a, .lst (st.2.map encDd))] (tDrop (tBM K "list" rAppend (tVar 2) (tCons (tTup (tCons (tC (.str "sail")) (tCons (tVar 1) tNil))) tNil))) P := by
  refine x_app (i := 0) (w := encDd (.sl b)) (ev_var h2) rfl (ev_sailP (ev_var h1)) (by rw [List.length_map]; exact hd) ?_
  show P.nx δ [(a, RO.lst (st.2.map encDd ++ [encDd (.sl b)]))]
  have e : st.2.map encDd ++ [encDd (.sl b)] = (sailM b st).2.map encDd := by show _ = (st.2 ++ [Dd.sl b]).map encDd; rw [List.map_append]; rfl
  rw [e]
  exact n
def Φ_passage_down (A : Ad) : Fn := fun ds R N M => ∃ (st : LD) (b : Nat) (a : Addr), ds = [.d (.list (st.1.map .bool)), .d (.int b), .r a] ∧ R = [(a, .lst (st.2.map encDd))] ∧ (1 ≤ st.1.length ∧ st.1.length ≤ 8) ∧ st.2.length ≤ 30000 ∧ N (.d (.list ((downM st b).1.map .bool))) [(a, .lst ((downM st b).2.map encDd))]
def Φ_plan (A : Ad) : Fn := fun ds R N M => ∃ lv order, ds = [.d (.list (lv.map .bool)), .d (.list (order.map sd))] ∧ R = [] ∧ order.length ≤ 100 ∧ (1 ≤ lv.length ∧ lv.length ≤ 8 → ∀ a, N (.r a) [(a, .lst ((planM lv order).map encDd))]) ∧ (¬ (1 ≤ lv.length ∧ lv.length ≤ 8) → M (.ref A.bf) [])
theorem c_plan {A : Ad} {N : D → Res → Prop} {M : Value → Res → Prop} {lv order : List Bool} (ho : order.length ≤ 100) (h : 1 ≤ lv.length ∧ lv.length ≤ 8) (n : ∀ a, N (.r a) [(a, .lst ((planM lv order).map encDd))]) : Φ_plan A [.d (.list (lv.map .bool)), .d (.list (order.map sd))] [] N M := ⟨lv, order, rfl, rfl, ho, fun _ => n, fun q => absurd h q⟩
def cellI (ns : List Int) (k : Int) : Int := ns.getD k.toNat 0
def Φ_law_cell_at (A : Ad) : Fn := fun ds R N M => ∃ ns k, ds = [.s ns, .d (.int k)] ∧ R = [] ∧ 0 ≤ k ∧ N (.d (.int (cellI ns k))) []
theorem c_law_cell_at {A : Ad} {N : D → Res → Prop} {M : Value → Res → Prop} {ns : List Int} {k : Int} (h : 0 ≤ k) (n : N (.d (.int (cellI ns k))) []) : Φ_law_cell_at A [.s ns, .d (.int k)] [] N M := ⟨ns, k, rfl, rfl, h, n⟩
local macro_rules | `(tactic| walk_at "fn") => `(tactic| ((with_reducible refine' c_law_cell_at ?hlawcell ?nlawcell); (case nlawcell => exact ⟨rfl, rfl⟩); (try (case hlawcell => omega))))
def wholeD : PyData → Bool
  | .int _ => true
  | _ => false
def Φ_law_whole (A : Ad) : Fn := fun ds R N M => ∃ x, ds = [.d x] ∧ R = [] ∧ (tyD x).isSome = true ∧ N (.d (.bool (wholeD x))) []
theorem c_law_whole {A : Ad} {N : D → Res → Prop} {M : Value → Res → Prop} {x : PyData} (h : (tyD x).isSome = true) (n : N (.d (.bool (wholeD x))) []) : Φ_law_whole A [.d x] [] N M := ⟨x, rfl, rfl, h, n⟩
local macro_rules | `(tactic| walk_at "fn") => `(tactic| ((with_reducible refine' c_law_whole ?hlawwhole ?nlawwhole); (case nlawwhole => exact ⟨rfl, rfl⟩); (try (case hlawwhole => rfl))))
def manyOf (ns : List Int) (k : Int) : Int := if cellI ns k / 4 % 5 = 1 then 5 + cellI ns k / 20 % 4 else 1 + cellI ns k % 4
def lawLevels (ns : List Int) (k : Int) : List Bool := (List.range (manyOf ns k).toNat).map fun (i : Nat) => decide (cellI ns (k + 1) / pws.getD i 1 % 2 = 1)
theorem manyOf_le (ns : List Int) (k : Int) : 1 ≤ manyOf ns k ∧ manyOf ns k ≤ 8 := by
  unfold manyOf
  split <;> omega
theorem lawLevels_len (ns : List Int) (k : Int) : 1 ≤ (lawLevels ns k).length ∧ (lawLevels ns k).length ≤ 8 := by
  have h := manyOf_le ns k
  unfold lawLevels
  rw [List.length_map, List.length_range]
  omega
def Φ_law_levels (A : Ad) : Fn := fun ds R N M => ∃ ns k, ds = [.s ns, .d (.int k)] ∧ R = [] ∧ 0 ≤ k ∧ ∀ a, N (.r a) [(a, .lst ((lawLevels ns k).map .bool))]
theorem c_law_levels {A : Ad} {N : D → Res → Prop} {M : Value → Res → Prop} {ns : List Int} {k : Int} (h : 0 ≤ k) (n : ∀ a, N (.r a) [(a, .lst ((lawLevels ns k).map .bool))]) : Φ_law_levels A [.s ns, .d (.int k)] [] N M := ⟨ns, k, rfl, rfl, h, n⟩
local macro_rules | `(tactic| walk_at "fn") => `(tactic| ((with_reducible refine' c_law_levels ?hlawlevels ?nlawlevels); (case nlawlevels => exact fun a => ⟨a, rfl, rfl⟩); (try (case hlawlevels => omega))))
def lawOrder (ns : List Int) (k n : Int) : List Bool := (List.range n.toNat).map fun (i : Nat) => decide (cellI ns (k + i) / 3 % 2 = 0)
theorem lawOrder_len (ns : List Int) (k n : Int) : (lawOrder ns k n).length = n.toNat := by simp [lawOrder]
def Φ_law_order (A : Ad) : Fn := fun ds R N M => ∃ ns k n, ds = [.s ns, .d (.int k), .d (.int n)] ∧ R = [] ∧ 0 ≤ k ∧ 0 ≤ n ∧ n ≤ 1000 ∧ ∀ a, N (.r a) [(a, .lst ((lawOrder ns k n).map sd))]
theorem c_law_order {A : Ad} {N : D → Res → Prop} {M : Value → Res → Prop} {ns : List Int} {k m : Int} (h : 0 ≤ k ∧ 0 ≤ m ∧ m ≤ 1000) (n : ∀ a, N (.r a) [(a, .lst ((lawOrder ns k m).map sd))]) : Φ_law_order A [.s ns, .d (.int k), .d (.int m)] [] N M := ⟨ns, k, m, rfl, rfl, h.1, h.2.1, h.2.2, n⟩
local macro_rules | `(tactic| walk_at "fn") => `(tactic| ((with_reducible refine' c_law_order ?hlaworder ?nlaworder); (case nlaworder => exact fun a => ⟨a, rfl, rfl⟩); (try (case hlaworder => omega))))
def Φ_law_bools (A : Ad) : Fn := fun ds R N M => ∃ xs ys : List Bool, ds = [.d (.list (xs.map .bool)), .d (.list (ys.map .bool))] ∧ R = [] ∧ N (.d (.bool (decide (xs = ys)))) []
theorem v_law_bools {K : PySem.W.Frag} {A : Ad} {δ : DEnv} {R : Res} {ta tb : TE} {x y : D} {Sx : L2.St → XK} {xs ys : List Bool} (h1 : Ev K δ R ta x) (hx : Vw R x (.list (xs.map .bool))) (h2 : Ev K δ R tb y) (hy : Vw R y (.list (ys.map .bool))) : Ev K δ R (tCallS (spD K (Φ_law_bools A)) Sx (tCons ta (tCons tb tNil))) (.d (.bool (decide (xs = ys)))) :=
  ev_callZ (ea_cons h1 (ea_cons h2 ea_nil)) (.vw hx (.vw hy .nil)) ⟨xs, ys, rfl, rfl, rfl, rfl⟩ rfl
def Φ_law_numbers (A : Ad) : Fn := fun ds R N M => ∃ xs ys : List Int, ds = [.d (.list (xs.map .int)), .d (.list (ys.map .int))] ∧ R = [] ∧ N (.d (.bool (decide (xs = ys)))) []
theorem v_law_numbers {K : PySem.W.Frag} {A : Ad} {δ : DEnv} {R : Res} {ta tb : TE} {x y : D} {Sx : L2.St → XK} {xs ys : List Int} (h1 : Ev K δ R ta x) (hx : Vw R x (.list (xs.map .int))) (h2 : Ev K δ R tb y) (hy : Vw R y (.list (ys.map .int))) : Ev K δ R (tCallS (spD K (Φ_law_numbers A)) Sx (tCons ta (tCons tb tNil))) (.d (.bool (decide (xs = ys)))) :=
  ev_callZ (ea_cons h1 (ea_cons h2 ea_nil)) (.vw hx (.vw hy .nil)) ⟨xs, ys, rfl, rfl, rfl, rfl⟩ rfl
def Φ_law_new (A : Ad) : Fn := fun ds R N M => ∃ lv, ds = [.d (.list (lv.map .bool))] ∧ R = [] ∧ ∀ a : Fa, N (.r a.f) (stR a (newS lv))
def Φ_law_let_word (A : Ad) : Fn := fun ds R N M => ∃ (a : Fa) (S : Fs) (g : Int), ds = [.r a.f, .d (.int g)] ∧ R = stR a S ∧ S.high.length ≤ 8 ∧ N (.d (.str (wordS (letW S g)))) (stR a S)
theorem v_law_let_word {K : PySem.W.Frag} {A : Ad} {δ : DEnv} {R : Res} {f : Res → Res} {a : Fa} {S : Fs} {te tb : TE} {Sx : L2.St → XK} {g : Int} (h8 : S.high.length ≤ 8) (h : Ev K δ R te (.r a.f)) (h2 : Ev K δ R tb (.d (.int g))) (hi : Inn (stR a S) R f) : Ev K δ R (tCallS (spD K (Φ_law_let_word A)) Sx (tCons te (tCons tb tNil))) (.d (.str (wordS (letW S g)))) :=
  ev_callN hi (ea_cons h (ea_cons h2 ea_nil)) fun hb => ⟨a, S, g, rfl, rfl, h8, rfl, hb⟩
theorem ext_hi {xs : List Bool} {x y : Bool} {g : Int} (h0 : 0 ≤ g) (h1 : g ≤ xs.length) : atI ([x] ++ xs ++ [y]) (g + 1) = some (xs.getD g.toNat y) := by
  have q : ([x] ++ xs ++ [y])[g.toNat + 1]? = some (xs.getD g.toNat y) := by
    show ((x :: xs) ++ [y])[g.toNat + 1]? = _
    rw [List.getD_eq_getElem?_getD]
    by_cases h : g.toNat < xs.length
    · rw [List.getElem?_append_left (by simp; omega), List.getElem?_cons_succ, List.getElem?_eq_getElem h]; rfl
    · have e : g.toNat = xs.length := by omega
      rw [List.getElem?_append_right (by simp; omega), List.getElem?_eq_none (l := xs) (by omega), e]
      simp
  have r := atI_some q
  rw [show ((g.toNat + 1 : Nat) : Int) = g + 1 by omega] at r
  exact r
theorem ext_lo {xs : List Bool} {x y d : Bool} {g : Int} (h0 : 0 < g) (h1 : g ≤ xs.length) : atI ([x] ++ xs ++ [y]) g = some (xs.getD (g - 1).toNat d) := by
  have := ext_hi (xs := xs) (x := x) (y := y) (g := g - 1) (by omega) (by omega)
  rw [show g - 1 + 1 = g by omega] at this
  rw [this]
  congr 1
  rw [List.getD_eq_getElem?_getD, List.getD_eq_getElem?_getD, List.getElem?_eq_getElem (by omega)]
  rfl
theorem ext_0 {xs : List Bool} {x y : Bool} : atI ([x] ++ xs ++ [y]) 0 = some x := atI_some (i := 0) rfl
def Φ_law_let (A : Ad) : Fn := fun ds R N M => ∃ (a : Fa) (S : Fs) (g : Int), ds = [.r a.f, .d (.int g)] ∧ R = stR a S ∧ 0 ≤ g ∧ g ≤ S.n ∧ N (.d .none) (stR a (letS S g))
def Φ_law_then (A : Ad) : Fn := fun ds R N M => ∃ (a : Fa) (S : Fs) (b v : Int), ds = [.r a.f, .d (.int b)] ∧ R = stR a S ∧ plc S.places b = some v ∧ (0 ≤ b ∧ b < S.sides.length) ∧ N (.d (.int (thenM S b))) (stR a S)
theorem v_law_then {K : PySem.W.Frag} {A : Ad} {δ : DEnv} {R : Res} {f : Res → Res} {a : Fa} {S : Fs} {te tb : TE} {Sx : L2.St → XK} {b v : Int} (hv : plc S.places b = some v) (hb : 0 ≤ b ∧ b < S.sides.length) (h : Ev K δ R te (.r a.f)) (h2 : Ev K δ R tb (.d (.int b))) (hi : Inn (stR a S) R f) : Ev K δ R (tCallS (spD K (Φ_law_then A)) Sx (tCons te (tCons tb tNil))) (.d (.int (thenM S b))) :=
  ev_callN hi (ea_cons h (ea_cons h2 ea_nil)) fun hn => ⟨a, S, b, v, rfl, rfl, hv, hb, rfl, hn⟩
def Φ_law_sail_word (A : Ad) : Fn := fun ds R N M => ∃ (a : Fa) (S : Fs) (b : Int), ds = [.r a.f, .d (.int b)] ∧ R = stR a S ∧ WF S ∧ N (.d (.str (wordS (sailW S b)))) (stR a S)
theorem v_law_sail_word {K : PySem.W.Frag} {A : Ad} {δ : DEnv} {R : Res} {f : Res → Res} {a : Fa} {S : Fs} {te tb : TE} {Sx : L2.St → XK} {b : Int} (w : WF S) (h : Ev K δ R te (.r a.f)) (h2 : Ev K δ R tb (.d (.int b))) (hi : Inn (stR a S) R f) : Ev K δ R (tCallS (spD K (Φ_law_sail_word A)) Sx (tCons te (tCons tb tNil))) (.d (.str (wordS (sailW S b)))) :=
  ev_callN hi (ea_cons h (ea_cons h2 ea_nil)) fun hn => ⟨a, S, b, rfl, rfl, w, rfl, hn⟩
def Φ_law_sail (A : Ad) : Fn := fun ds R N M => ∃ (a : Fa) (S : Fs) (b : Int), ds = [.r a.f, .d (.int b)] ∧ R = stR a S ∧ WF S ∧ sailW S b = 0 ∧ N (.d (.int (thenM S b))) (stR a (sailS S b))
theorem put_plc {S : Fs} (w : WF S) {b v x : Int} (hv : plc S.places b = some v) : plc (pput S.places b x) b = some x := by
  have hb := key_mem hv
  have hm := plc_mem hv
  have : (b, x) ∈ pput S.places b x := by
    unfold pput
    rw [if_pos (List.any_eq_true.mpr ⟨_, hm, by simp⟩)]
    refine List.mem_map.mpr ⟨_, hm, ?_⟩
    rw [if_pos rfl]
  have ks : (keysOf (pput S.places b x)).Pairwise (· < ·) := by rw [pput_keys _ _ _ hb]; exact w.ks
  exact plc_of ks this
def Φ_law_come (A : Ad) : Fn := fun ds R N M => ∃ (a : Fa) (S : Fs) (u : Bool), ds = [.r a.f, .d (sd u)] ∧ R = stR a S ∧ WF S ∧ N (.d (.int S.sides.length)) (stR a (comeS S u))
def Φ_law_stands (A : Ad) : Fn := fun ds R N M => ∃ (a s : Fa) (S : Fs), ds = [.r a.f, .r s.f] ∧ R = flR A.C a S ++ stR s S ∧ WF S ∧ N (.d (.bool true)) (flR A.C a S ++ stR s S)
theorem v_law_stands {K : PySem.W.Frag} {A : Ad} {δ : DEnv} {R : Res} {f : Res → Res} {a s : Fa} {S : Fs} {te tb : TE} {Sx : L2.St → XK} (w : WF S) (h : Ev K δ R te (.r a.f)) (h2 : Ev K δ R tb (.r s.f)) (hi : Inn (flR A.C a S ++ stR s S) R f) : Ev K δ R (tCallS (spD K (Φ_law_stands A)) Sx (tCons te (tCons tb tNil))) (.d (.bool true)) :=
  ev_callN hi (ea_cons h (ea_cons h2 ea_nil)) fun hn => ⟨a, s, S, rfl, rfl, w, rfl, hn⟩
theorem eqv_optD (xs ys : List (Option Int)) : PyData.eqv (.list (xs.map optD)) (.list (ys.map optD)) = decide (xs = ys) := by
  show PyData.eqvAll (xs.map optD) (ys.map optD) = _
  induction xs generalizing ys with
  | nil => cases ys <;> rfl
  | cons x xs ih =>
    cases ys with
    | nil => rfl
    | cons y ys =>
      show (PyData.eqv (optD x) (optD y) && PyData.eqvAll (xs.map optD) (ys.map optD)) = _
      rw [ih]
      have e : PyData.eqv (optD x) (optD y) = decide (x = y) := by
        cases x with
        | none => cases y with
          | none => rfl
          | some j => rfl
        | some i => cases y with
          | none => rfl
          | some j =>
            show PyData.eqv (.int i) (.int j) = _
            rw [eqv_int, Bool.eq_iff_iff, decide_eq_true_eq, decide_eq_true_eq]
            exact ⟨fun h => by rw [h], fun h => Option.some.inj h⟩
      rw [e, Bool.eq_iff_iff, Bool.and_eq_true, decide_eq_true_eq, decide_eq_true_eq, decide_eq_true_eq]
      exact ⟨fun h => by rw [h.1, h.2], fun h => List.cons.inj h⟩
def Φ_law_does (A : Ad) : Fn := fun ds R N M => ∃ (a s : Fa) (S : Fs) (d : Dd), ds = [.r a.f, .r s.f, .d (encDd d)] ∧ R = flR A.C a S ++ stR s S ∧ WF S ∧ WF (doD S d) ∧ okD S d ∧ N (.d (.bool true)) (flR A.C a (doD S d) ++ stR s (doD S d))
def Φ_law (A : Ad) : Fn := Φ_top
theorem eqv_intsL (xs : List Int) : PyData.eqv (.list (xs.map .int)) (.list (xs.map .int)) = true := by
  show PyData.eqvAll (xs.map .int) (xs.map .int) = true
  rw [eqv_ints]; simp
theorem x_ifNE {K : PySem.W.Frag} {Ek : WX} {R : Res} {δ : DEnv} {te : TE} {t u : TS} {P : Post} {N : D → Res → Prop} {M : Value → Res → Prop} (h : EvE K Ek δ R te N M) (n : ∀ d R', N d R' → d = .d (.bool true) ∧ XS K Ek δ R' u P) (m : ∀ c R', M c R' → P.xe c δ R') : XS K Ek δ R (tIfS (tNot (tB te)) t u) P := fun G H σ D ok en k =>
  h G H σ _ ok en (fun d R1 v G1 H1 nn ok1 l1 hv => by
    obtain ⟨rfl, h1⟩ := n d R1 nn
    cases (show Hv G1 v (.bool true) from hv)
    refine ⟨true, rfl, ?_⟩
    show (if (!true) = true then t D σ H1 else u D σ H1)
    rw [if_neg (by decide)]
    exact h1 G1 H1 σ D ok1 (en.mono l1.g) (k.mono l1)) fun c R1 G1 H1 mm ok1 l1 => k.xe c δ R1 σ G1 H1 (m c R1 mm) ok1 l1 (en.mono l1.g)
theorem sum_ones {α : Type} (l : List α) : (l.map fun _ => (1 : Int)).sum = l.length := by
  induction l with
  | nil => rfl
  | cons x r ih => rw [List.map_cons, List.sum_cons, ih, List.length_cons]; omega
theorem lvAt_last {bs order : List Bool} {u : Bool} (h : order.getLast? = some u) : lvAt bs order order.length = behindOf bs u := by
  rw [List.getLast?_eq_getElem?] at h
  obtain ⟨k, e⟩ : ∃ k, order.length = k + 1 := by
    cases q : order.length with
    | zero =>
      rw [List.length_eq_zero_iff.mp q] at h
      cases h
    | succ k => exact ⟨k, rfl⟩
  rw [e] at h ⊢
  show (match order[k]? with | some u => behindOf bs u | none => bs) = _
  rw [show order[k]? = some u from h]
def N_ask_levels : List Str := ["levels"]
def t_ask_levels (K : PySem.W.Frag) (A : Ad) (E : XK) : TS :=
  (tIfS (tNot (tTest (tChain rLe rLe (tC (.int 1)) (tCB (rLen K) (tCons (tVar 0) tNil)) (tC (.int 8))))) (tRz (fun cls d _ H => E cls d H) (.ref A.bf)) tNext)
def N_m_init : List Str := ["self", "levels"]
def t_m_init (K : PySem.W.Frag) (A : Ad) (E : XK) : TS :=
  (tSeq (tDrop (tCallS (spD K (Φ_ask_levels A)) (fun _ => E) (tCons (tVar 1) tNil)))
  (tSeq (sFld K (tVar 0) (tCB (rListS K) (tCons (tVar 1) tNil)) "high")
  (tSeq (sFld K (tVar 0) (tLst tNil) "sides")
  (tSeq (sFld K (tVar 0) tDNewK "places")
  (tSeq (sFld K (tVar 0) (tLst tNil) "done")
  (tSeq (sFld K (tVar 0) (tC (.int 0)) "taken")
  (sFld K (tVar 0) (tC (.int 0)) "given")))))))
def N_m_levels : List Str := ["self"]
def t_m_levels (K : PySem.W.Frag) (A : Ad) (E : XK) : TS :=
  (tRet (tCB (rListS K) (tCons (tFld K (tVar 0) "high") tNil)))
def N_m_top : List Str := ["self"]
def t_m_top (K : PySem.W.Frag) (A : Ad) (E : XK) : TS :=
  (tRet (tOp rPlus (tCB (rLen K) (tCons (tFld K (tVar 0) "high") tNil)) (tC (.int 1))))
def N_m_boats : List Str := ["self", "found", "boat", "level"]
def t_m_boats (K : PySem.W.Frag) (A : Ad) (E : XK) : TS :=
  (tSeq (tAsg (tLc (iList K (tFld K (tVar 0) "high")) (gName 3) tYes (tC .non) [3]) (gName 1))
  (tSeq (tFor (iList K (tCB rListD (tCons (tFld K (tVar 0) "places") tNil))) (gName 2) (tIfS (tTest (tChain rLt rLt (tC (.int 0)) (tDGet (tFld K (tVar 0) "places") (tVar 2)) (tMethS' A.C "top" (spD K (Φ_m_top A)) (fun _ => E) (tVar 0) tNil))) (tAsg (tVar 2) (gSub (tVar 1) (tOp rMinus (tDGet (tFld K (tVar 0) "places") (tVar 2)) (tC (.int 1))) rSetL)) tNext))
  (tRet (tVar 1))))
def N_m_waiting : List Str := ["self", "side", "start", "found", "boat"]
def t_m_waiting (K : PySem.W.Frag) (A : Ad) (E : XK) : TS :=
  (tSeq (tAsg (tC (.int 0)) (gName 2))
  (tSeq (tIfS (tTest (tOp (rEqP K) (tVar 1) (tC (.str "down")))) (tAsg (tMethS' A.C "top" (spD K (Φ_m_top A)) (fun _ => E) (tVar 0) tNil) (gName 2)) tNext)
  (tSeq (tAsg (tLc (iList K (tCB (rSortedI K) (tCons (tCB rListD (tCons (tFld K (tVar 0) "places") tNil)) tNil))) (gName 4) (tTest (tOp (rEqP K) (tDGet (tFld K (tVar 0) "places") (tVar 4)) (tVar 2))) (tVar 4) [4]) (gName 3))
  (tRet (tLc (iList K (tVar 3)) (gName 4) (tTest (tOp (rEqP K) (tOp (rIx K) (tFld K (tVar 0) "sides") (tVar 4)) (tVar 1))) (tVar 4) [4])))))
def N_m_through : List Str := ["self"]
def t_m_through (K : PySem.W.Frag) (A : Ad) (E : XK) : TS :=
  (tRet (tCB (rListS K) (tCons (tFld K (tVar 0) "done") tNil)))
def N_m_place : List Str := ["self", "boat"]
def t_m_place (K : PySem.W.Frag) (A : Ad) (E : XK) : TS :=
  (tSeq (tIfS (tB (tDNotIn (tVar 1) (tFld K (tVar 0) "places"))) (tRz (fun cls d _ H => E cls d H) (.ref A.nb)) tNext)
  (tRet (tDGet (tFld K (tVar 0) "places") (tVar 1))))
def N_m_drawn : List Str := ["self"]
def t_m_drawn (K : PySem.W.Frag) (A : Ad) (E : XK) : TS :=
  (tRet (tFld K (tVar 0) "taken"))
def N_m_out : List Str := ["self"]
def t_m_out (K : PySem.W.Frag) (A : Ad) (E : XK) : TS :=
  (tRet (tFld K (tVar 0) "given"))
def N_m_come : List Str := ["self", "side", "boat"]
def t_m_come (K : PySem.W.Frag) (A : Ad) (E : XK) : TS :=
  (tSeq (tAsg (tCB (rLen K) (tCons (tFld K (tVar 0) "sides") tNil)) (gName 2))
  (tSeq (tDrop (tBM K "list" rAppend (tFld K (tVar 0) "sides") (tCons (tVar 1) tNil)))
  (tSeq (sDPut (tFld K (tVar 0) "places") (tVar 2) (tC (.int 0)))
  (tSeq (tIfS (tTest (tOp (rEqP K) (tVar 1) (tC (.str "down")))) (sDPut (tFld K (tVar 0) "places") (tVar 2) (tMethS' A.C "top" (spD K (Φ_m_top A)) (fun _ => E) (tVar 0) tNil)) tNext)
  (tRet (tVar 2))))))
def N_m_let : List Str := ["self", "gate", "many"]
def t_m_let (K : PySem.W.Frag) (A : Ad) (E : XK) : TS :=
  (tSeq (tAsg (tCB (rLen K) (tCons (tFld K (tVar 0) "high") tNil)) (gName 2))
  (tSeq (tIfS (tNot (tTest (tChain rLe rLe (tC (.int 0)) (tVar 1) (tVar 2)))) (tRz (fun cls d _ H => E cls d H) (.ref A.ng)) tNext)
  (tSeq (tIfS (tOr (tAnd (tTest (tOp rLt (tVar 1) (tVar 2))) (tNot (tB (tOp (rIx K) (tFld K (tVar 0) "high") (tVar 1))))) (tAnd (tTest (tOp rGt (tVar 1) (tC (.int 0)))) (tB (tOp (rIx K) (tFld K (tVar 0) "high") (tOp rMinus (tVar 1) (tC (.int 1))))))) (tRz (fun cls d _ H => E cls d H) (.ref A.nf)) tNext)
  (tSeq (tIfS (tTest (tOp (rEqP K) (tVar 1) (tVar 2))) (sFld K (tVar 0) (tOp rPlus (tFld K (tVar 0) "taken") (tC (.int 1))) "taken") (tAsg (tC (.bl false)) (gSub (tFld K (tVar 0) "high") (tVar 1) rSetL)))
  (tSeq (tIfS (tTest (tOp (rEqP K) (tVar 1) (tC (.int 0)))) (sFld K (tVar 0) (tOp rPlus (tFld K (tVar 0) "given") (tC (.int 1))) "given") (tAsg (tC (.bl true)) (gSub (tFld K (tVar 0) "high") (tOp rMinus (tVar 1) (tC (.int 1))) rSetL)))
  (tRet (tFld K (tVar 0) "taken")))))))
def N_m_is_level : List Str := ["self", "gate", "many"]
def t_m_is_level (K : PySem.W.Frag) (A : Ad) (E : XK) : TS :=
  (tSeq (tAsg (tCB (rLen K) (tCons (tFld K (tVar 0) "high") tNil)) (gName 2))
  (tRet (tAndV (tOrV (tOp (rEqP K) (tVar 1) (tC (.int 0))) (tOp (rIx K) (tFld K (tVar 0) "high") (tOp rMinus (tVar 1) (tC (.int 1))))) (tOrV (tOp (rEqP K) (tVar 1) (tVar 2)) (tNotV (tOp (rIx K) (tFld K (tVar 0) "high") (tVar 1)))))))
def N_m_sail : List Str := ["self", "boat", "here", "side", "row", "step", "gate", "then"]
def t_m_sail (K : PySem.W.Frag) (A : Ad) (E : XK) : TS :=
  (tSeq (tAsg (tMethS' A.C "place" (spD K (Φ_m_place A)) (fun _ => E) (tVar 0) (tCons (tVar 1) tNil)) (gName 2))
  (tSeq (tAsg (tOp (rIx K) (tFld K (tVar 0) "sides") (tVar 1)) (gName 3))
  (tSeq (tAsg (tMethS' A.C "waiting" (spD K (Φ_m_waiting A)) (fun _ => E) (tVar 0) (tCons (tVar 3) tNil)) (gName 4))
  (tSeq (tIfS (tAnd (tTest (tOp (rInP K false) (tVar 1) (tVar 4))) (tTest (tOp (rNeP K) (tOp (rIx K) (tVar 4) (tC (.int 0))) (tVar 1)))) (tRz (fun cls d _ H => E cls d H) (.ref A.ns)) tNext)
  (tSeq (tAsg (tC (.int 1)) (gName 5))
  (tSeq (tAsg (tVar 2) (gName 6))
  (tSeq (tIfS (tTest (tOp (rEqP K) (tVar 3) (tC (.str "down")))) (tSeq (tAsg (tUn rNeg (tC (.int 1))) (gName 5))
  (tAsg (tOp rMinus (tVar 2) (tC (.int 1))) (gName 6))) tNext)
  (tSeq (tIfS (tNot (tB (tMethS' A.C "is_level" (spD K (Φ_m_is_level A)) (fun _ => E) (tVar 0) (tCons (tVar 6) tNil)))) (tRz (fun cls d _ H => E cls d H) (.ref A.sh)) tNext)
  (tSeq (tAsg (tOp rPlus (tVar 2) (tVar 5)) (gName 7))
  (tSeq (tIfS (tAnd (tTest (tChain rLt rLt (tC (.int 0)) (tVar 7) (tMethS' A.C "top" (spD K (Φ_m_top A)) (fun _ => E) (tVar 0) tNil))) (tTest (tOp rNotN (tOp (rIx K) (tMethS' A.C "boats" (spD K (Φ_m_boats A)) (fun _ => E) (tVar 0) tNil) (tOp rMinus (tVar 7) (tC (.int 1)))) (tC .non)))) (tRz (fun cls d _ H => E cls d H) (.ref A.oc)) tNext)
  (tSeq (sDPut (tFld K (tVar 0) "places") (tVar 1) (tVar 7))
  (tSeq (tIfS (tOr (tTest (tOp (rEqP K) (tVar 7) (tC (.int 0)))) (tTest (tOp (rEqP K) (tVar 7) (tMethS' A.C "top" (spD K (Φ_m_top A)) (fun _ => E) (tVar 0) tNil)))) (tSeq (tDrop (tDPop1 (tFld K (tVar 0) "places") (tVar 1)))
  (tDrop (tBM K "list" rAppend (tFld K (tVar 0) "done") (tCons (tVar 1) tNil)))) tNext)
  (tRet (tVar 7))))))))))))))
def N_cost_of : List Str := ["levels", "side", "level"]
def t_cost_of (K : PySem.W.Frag) (A : Ad) (E : XK) : TS :=
  (tSeq (tIfS (tTest (tOp (rEqP K) (tVar 1) (tC (.str "up")))) (tRet (tOp rPlus (tC (.int 1)) (tCB (rLen K) (tCons (tLc (iList K (tSl (rSlL K) (tVar 0) (tPart (tC (.int 1))) tNoPart)) (gName 2) (tNot (tB (tVar 2))) (tVar 2) [2]) tNil)))) tNext)
  (tRet (tCB rInt1 (tCons (tNotV (tOp (rIx K) (tVar 0) (tUn rNeg (tC (.int 1))))) tNil))))
def N_behind : List Str := ["levels", "side", "level"]
def t_behind (K : PySem.W.Frag) (A : Ad) (E : XK) : TS :=
  (tRet (tLc (iList K (tVar 0)) (gName 2) tYes (tOp (rEqP K) (tVar 1) (tC (.str "up"))) [2]))
def N_cost : List Str := ["levels", "order", "total", "side"]
def t_cost (K : PySem.W.Frag) (A : Ad) (E : XK) : TS :=
  (tSeq (tDrop (tCallS (spD K (Φ_ask_levels A)) (fun _ => E) (tCons (tVar 0) tNil)))
  (tSeq (tAsg (tC (.int 0)) (gName 2))
  (tSeq (tFor (iList K (tVar 1)) (gName 3) (tSeq (tAsg (tOp rPlus (tVar 2) (tCallS (spD K (Φ_cost_of A)) (fun _ => E) (tCons (tVar 0) (tCons (tVar 3) tNil)))) (gName 2))
  (tAsg (tCallS (spD K (Φ_behind A)) (fun _ => E) (tCons (tVar 0) (tCons (tVar 3) tNil))) (gName 0))))
  (tRet (tVar 2)))))
def N_filled : List Str := ["levels", "chamber", "source", "gate"]
def t_filled (K : PySem.W.Frag) (A : Ad) (E : XK) : TS :=
  (tSeq (tAsg (tVar 1) (gName 2))
  (tSeq (tWhile (tAnd (tTest (tOp rLt (tVar 2) (tCB (rLen K) (tCons (tVar 0) tNil)))) (tNot (tB (tOp (rIx K) (tVar 0) (tVar 2))))) (tAsg (tOp rPlus (tVar 2) (tC (.int 1))) (gName 2)))
  (tRet (tLc (iRevR (tRg2 (tVar 1) (tOp rPlus (tVar 2) (tC (.int 1))))) (gName 3) tYes (tTup (tCons (tC (.str "let")) (tCons (tVar 3) tNil))) [3]))))
def N_emptied : List Str := ["levels", "chamber", "sink", "gate"]
def t_emptied (K : PySem.W.Frag) (A : Ad) (E : XK) : TS :=
  (tSeq (tAsg (tOp rMinus (tVar 1) (tC (.int 1))) (gName 2))
  (tSeq (tWhile (tAnd (tTest (tOp rGt (tVar 2) (tC (.int 0)))) (tB (tOp (rIx K) (tVar 0) (tOp rMinus (tVar 2) (tC (.int 1)))))) (tAsg (tOp rMinus (tVar 2) (tC (.int 1))) (gName 2)))
  (tRet (tLc (iRng2 (tCons (tVar 2) (tCons (tVar 1) tNil))) (gName 3) tYes (tTup (tCons (tC (.str "let")) (tCons (tVar 3) tNil))) [3]))))
def N_let_all : List Str := ["levels", "deeds", "found", "deed"]
def t_let_all (K : PySem.W.Frag) (A : Ad) (E : XK) : TS :=
  (tSeq (tAsg (tCB (rListS K) (tCons (tVar 0) tNil)) (gName 2))
  (tSeq (tFor (iList K (tVar 1)) (gName 3) (tSeq (tIfS (tTest (tOp rLt (tOp (rIx K) (tVar 3) (tC (.int 1))) (tCB (rLen K) (tCons (tVar 2) tNil)))) (tAsg (tC (.bl false)) (gSub (tVar 2) (tOp (rIx K) (tVar 3) (tC (.int 1))) rSetL)) tNext)
  (tIfS (tTest (tOp rGt (tOp (rIx K) (tVar 3) (tC (.int 1))) (tC (.int 0)))) (tAsg (tC (.bl true)) (gSub (tVar 2) (tOp rMinus (tOp (rIx K) (tVar 3) (tC (.int 1))) (tC (.int 1))) rSetL)) tNext)))
  (tRet (tVar 2))))
def N_put : List Str := ["levels", "deeds", "more"]
def t_put (K : PySem.W.Frag) (A : Ad) (E : XK) : TS :=
  (tSeq (tDrop (tBM K "list" rExtend (tVar 1) (tCons (tVar 2) tNil)))
  (tRet (tCallS (spD K (Φ_let_all A)) (fun _ => E) (tCons (tVar 0) (tCons (tVar 2) tNil)))))
def N_passage_up : List Str := ["levels", "boat", "deeds", "chamber"]
def t_passage_up (K : PySem.W.Frag) (A : Ad) (E : XK) : TS :=
  (tSeq (tIfS (tB (tOp (rIx K) (tVar 0) (tC (.int 0)))) (tAsg (tCallS (spD K (Φ_put A)) (fun _ => E) (tCons (tVar 0) (tCons (tVar 2) (tCons (tCallS (spD K (Φ_emptied A)) (fun _ => E) (tCons (tVar 0) (tCons (tC (.int 1)) tNil))) tNil)))) (gName 0)) tNext)
  (tSeq (tDrop (tBM K "list" rAppend (tVar 2) (tCons (tTup (tCons (tC (.str "sail")) (tCons (tVar 1) tNil))) tNil)))
  (tSeq (tFor (iRng2 (tCons (tC (.int 1)) (tCons (tOp rPlus (tCB (rLen K) (tCons (tVar 0) tNil)) (tC (.int 1))) tNil))) (gName 3) (tSeq (tAsg (tCallS (spD K (Φ_put A)) (fun _ => E) (tCons (tVar 0) (tCons (tVar 2) (tCons (tCallS (spD K (Φ_filled A)) (fun _ => E) (tCons (tVar 0) (tCons (tVar 3) tNil))) tNil)))) (gName 0))
  (tDrop (tBM K "list" rAppend (tVar 2) (tCons (tTup (tCons (tC (.str "sail")) (tCons (tVar 1) tNil))) tNil)))))
  (tRet (tVar 0)))))
def N_passage_down : List Str := ["levels", "boat", "deeds", "chamber"]
def t_passage_down (K : PySem.W.Frag) (A : Ad) (E : XK) : TS :=
  (tSeq (tIfS (tNot (tB (tOp (rIx K) (tVar 0) (tUn rNeg (tC (.int 1)))))) (tAsg (tCallS (spD K (Φ_put A)) (fun _ => E) (tCons (tVar 0) (tCons (tVar 2) (tCons (tCallS (spD K (Φ_filled A)) (fun _ => E) (tCons (tVar 0) (tCons (tCB (rLen K) (tCons (tVar 0) tNil)) tNil))) tNil)))) (gName 0)) tNext)
  (tSeq (tDrop (tBM K "list" rAppend (tVar 2) (tCons (tTup (tCons (tC (.str "sail")) (tCons (tVar 1) tNil))) tNil)))
  (tSeq (tFor (iRevR (tRg2 (tC (.int 1)) (tOp rPlus (tCB (rLen K) (tCons (tVar 0) tNil)) (tC (.int 1))))) (gName 3) (tSeq (tAsg (tCallS (spD K (Φ_put A)) (fun _ => E) (tCons (tVar 0) (tCons (tVar 2) (tCons (tCallS (spD K (Φ_emptied A)) (fun _ => E) (tCons (tVar 0) (tCons (tVar 3) tNil))) tNil)))) (gName 0))
  (tDrop (tBM K "list" rAppend (tVar 2) (tCons (tTup (tCons (tC (.str "sail")) (tCons (tVar 1) tNil))) tNil)))))
  (tRet (tVar 0)))))
def N_plan : List Str := ["levels", "order", "deeds", "boat"]
def t_plan (K : PySem.W.Frag) (A : Ad) (E : XK) : TS :=
  (tSeq (tDrop (tCallS (spD K (Φ_ask_levels A)) (fun _ => E) (tCons (tVar 0) tNil)))
  (tSeq (tAsg (tLst tNil) (gName 2))
  (tSeq (tFor (iRng1 (tCons (tCB (rLen K) (tCons (tVar 1) tNil)) tNil)) (gName 3) (tIfS (tTest (tOp (rEqP K) (tOp (rIx K) (tVar 1) (tVar 3)) (tC (.str "up")))) (tAsg (tCallS (spD K (Φ_passage_up A)) (fun _ => E) (tCons (tVar 0) (tCons (tVar 3) (tCons (tVar 2) tNil)))) (gName 0)) (tAsg (tCallS (spD K (Φ_passage_down A)) (fun _ => E) (tCons (tVar 0) (tCons (tVar 3) (tCons (tVar 2) tNil)))) (gName 0))))
  (tRet (tVar 2)))))
def N_law_cell_at : List Str := ["script", "k"]
def t_law_cell_at (K : PySem.W.Frag) (A : Ad) (E : XK) : TS :=
  (tSeq (tIfS (tTest (tOp rLt (tVar 1) (tCB (rLen K) (tCons (tVar 0) tNil)))) (tRet (tOp (rIx K) (tVar 0) (tVar 1))) tNext)
  (tRet (tC (.int 0))))
def N_law_whole : List Str := ["found"]
def t_law_whole (K : PySem.W.Frag) (A : Ad) (E : XK) : TS :=
  (tRet (tAndV (tCB (rIsi K) (tCons (tVar 0) (tCons (tC (.ty "int")) tNil))) (tNotV (tCB (rIsi K) (tCons (tVar 0) (tCons (tC (.ty "bool")) tNil))))))
def N_law_levels : List Str := ["script", "start", "many", "cell", "k"]
def t_law_levels (K : PySem.W.Frag) (A : Ad) (E : XK) : TS :=
  (tSeq (tAsg (tOp rPlus (tC (.int 1)) (tOp rMod (tCallS (spD K (Φ_law_cell_at A)) (fun _ => E) (tCons (tVar 0) (tCons (tVar 1) tNil))) (tC (.int 4)))) (gName 2))
  (tSeq (tIfS (tTest (tOp (rEqP K) (tOp rMod (tOp rDiv (tCallS (spD K (Φ_law_cell_at A)) (fun _ => E) (tCons (tVar 0) (tCons (tVar 1) tNil))) (tC (.int 4))) (tC (.int 5))) (tC (.int 1)))) (tAsg (tOp rPlus (tC (.int 5)) (tOp rMod (tOp rDiv (tCallS (spD K (Φ_law_cell_at A)) (fun _ => E) (tCons (tVar 0) (tCons (tVar 1) tNil))) (tC (.int 20))) (tC (.int 4)))) (gName 2)) tNext)
  (tSeq (tAsg (tCallS (spD K (Φ_law_cell_at A)) (fun _ => E) (tCons (tVar 0) (tCons (tOp rPlus (tVar 1) (tC (.int 1))) tNil))) (gName 3))
  (tRet (tLc (iRng1 (tCons (tVar 2) tNil)) (gName 4) tYes (tOp (rEqP K) (tOp rMod (tOp rDiv (tVar 3) (tOp (rIx K) (tLst (tCons (tC (.int 1)) (tCons (tC (.int 2)) (tCons (tC (.int 4)) (tCons (tC (.int 8)) (tCons (tC (.int 16)) (tCons (tC (.int 32)) (tCons (tC (.int 64)) (tCons (tC (.int 128)) tNil))))))))) (tVar 4))) (tC (.int 2))) (tC (.int 1))) [4])))))
def N_law_order : List Str := ["script", "start", "size", "k"]
def t_law_order (K : PySem.W.Frag) (A : Ad) (E : XK) : TS :=
  (tRet (tLc (iRng1 (tCons (tVar 2) tNil)) (gName 3) tYes (tOp (rIx K) (tLst (tCons (tC (.str "up")) (tCons (tC (.str "down")) tNil))) (tOp rMod (tOp rDiv (tCallS (spD K (Φ_law_cell_at A)) (fun _ => E0) (tCons (tVar 0) (tCons (tOp rPlus (tVar 1) (tVar 3)) tNil))) (tC (.int 3))) (tC (.int 2)))) [3]))
def N_law_bools : List Str := ["found", "due", "one"]
def t_law_bools (K : PySem.W.Frag) (A : Ad) (E : XK) : TS :=
  (tSeq (tIfS (tOr (tNot (tB (tCB (rIsi K) (tCons (tVar 0) (tCons (tC (.ty "list")) tNil))))) (tTest (tOp (rNeP K) (tCB (rLen K) (tCons (tVar 0) tNil)) (tCB (rLen K) (tCons (tVar 1) tNil))))) (tRet (tC (.bl false))) tNext)
  (tRet (tAndV (tCB (rAll K) (tCons (tLc (iList K (tVar 0)) (gName 2) tYes (tCB (rIsi K) (tCons (tVar 2) (tCons (tC (.ty "bool")) tNil))) [2]) tNil)) (tOp (rEqP K) (tVar 0) (tVar 1)))))
def N_law_numbers : List Str := ["found", "due", "one"]
def t_law_numbers (K : PySem.W.Frag) (A : Ad) (E : XK) : TS :=
  (tSeq (tIfS (tOr (tNot (tB (tCB (rIsi K) (tCons (tVar 0) (tCons (tC (.ty "list")) tNil))))) (tTest (tOp (rNeP K) (tCB (rLen K) (tCons (tVar 0) tNil)) (tCB (rLen K) (tCons (tVar 1) tNil))))) (tRet (tC (.bl false))) tNext)
  (tRet (tAndV (tCB (rAll K) (tCons (tLc (iList K (tVar 0)) (gName 2) tYes (tCallS (spD K (Φ_law_whole A)) (fun _ => E0) (tCons (tVar 2) tNil)) [2]) tNil)) (tOp (rEqP K) (tVar 0) (tVar 1)))))
def N_law_new : List Str := ["levels"]
def t_law_new (K : PySem.W.Frag) (A : Ad) (E : XK) : TS :=
  (tRet (tDisp (((tC (.str "high")), (tCB (rListS K) (tCons (tVar 0) tNil))) :: ((tC (.str "sides")), (tLst tNil)) :: ((tC (.str "places")), tDNewK) :: ((tC (.str "through")), (tLst tNil)) :: ((tC (.str "drawn")), (tC (.int 0))) :: ((tC (.str "out")), (tC (.int 0))) :: [])))
def N_law_let_word : List Str := ["state", "gate", "high", "many"]
def t_law_let_word (K : PySem.W.Frag) (A : Ad) (E : XK) : TS :=
  (tSeq (tAsg (tOp rPlus (tOp rPlus (tLst (tCons (tC (.bl false)) tNil)) (tDGet (tVar 0) (tC (.str "high")))) (tLst (tCons (tC (.bl true)) tNil))) (gName 2))
  (tSeq (tAsg (tCB (rLen K) (tCons (tDGet (tVar 0) (tC (.str "high"))) tNil)) (gName 3))
  (tSeq (tIfS (tOr (tTest (tOp rLt (tVar 1) (tC (.int 0)))) (tTest (tOp rGt (tVar 1) (tVar 3)))) (tRet (tC (.str "no gate"))) tNext)
  (tSeq (tIfS (tOr (tNot (tB (tOp (rIx K) (tVar 2) (tOp rPlus (tVar 1) (tC (.int 1)))))) (tAnd (tTest (tOp rGt (tVar 1) (tC (.int 0)))) (tB (tOp (rIx K) (tVar 2) (tVar 1))))) (tRet (tC (.str "no fall"))) tNext)
  (tRet (tC (.str "done")))))))
def N_law_let : List Str := ["state", "gate", "many"]
def t_law_let (K : PySem.W.Frag) (A : Ad) (E : XK) : TS :=
  (tSeq (tAsg (tCB (rLen K) (tCons (tDGet (tVar 0) (tC (.str "high"))) tNil)) (gName 2))
  (tSeq (tIfS (tTest (tOp rLt (tVar 1) (tVar 2))) (tAsg (tC (.bl false)) (gSub (tDGet (tVar 0) (tC (.str "high"))) (tVar 1) rSetL)) tNext)
  (tSeq (tIfS (tTest (tOp rGt (tVar 1) (tC (.int 0)))) (tAsg (tC (.bl true)) (gSub (tDGet (tVar 0) (tC (.str "high"))) (tOp rMinus (tVar 1) (tC (.int 1))) rSetL)) tNext)
  (tSeq (sDPut (tVar 0) (tC (.str "drawn")) (tOp rPlus (tDGet (tVar 0) (tC (.str "drawn"))) (tCB rInt1 (tCons (tOp (rEqP K) (tVar 1) (tVar 2)) tNil))))
  (sDPut (tVar 0) (tC (.str "out")) (tOp rPlus (tDGet (tVar 0) (tC (.str "out"))) (tCB rInt1 (tCons (tOp (rEqP K) (tVar 1) (tC (.int 0))) tNil))))))))
def N_law_then : List Str := ["state", "boat"]
def t_law_then (K : PySem.W.Frag) (A : Ad) (E : XK) : TS :=
  (tRet (tOp rPlus (tDGet (tDGet (tVar 0) (tC (.str "places"))) (tVar 1)) (tOp (rIx K) (tLst (tCons (tC (.int 1)) (tCons (tUn rNeg (tC (.int 1))) tNil))) (tCB rInt1 (tCons (tOp (rEqP K) (tOp (rIx K) (tDGet (tVar 0) (tC (.str "sides"))) (tVar 1)) (tC (.str "down"))) tNil)))))
def N_law_sail_word : List Str := ["state", "boat", "places", "here", "many", "side", "ahead", "gate", "high", "then", "one"]
def t_law_sail_word (K : PySem.W.Frag) (A : Ad) (E : XK) : TS :=
  (tSeq (tAsg (tDGet (tVar 0) (tC (.str "places"))) (gName 2))
  (tSeq (tIfS (tB (tDNotIn (tVar 1) (tVar 2))) (tRet (tC (.str "no boat"))) tNext)
  (tSeq (tAsg (tDGet (tVar 2) (tVar 1)) (gName 3))
  (tSeq (tAsg (tCB (rLen K) (tCons (tDGet (tVar 0) (tC (.str "high"))) tNil)) (gName 4))
  (tSeq (tAsg (tOp (rIx K) (tDGet (tVar 0) (tC (.str "sides"))) (tVar 1)) (gName 5))
  (tSeq (tAsg (tLc (iList K (tCB rListD (tCons (tVar 2) tNil))) (gName 10) (tAnd (tTest (tOp (rEqP K) (tDGet (tVar 2) (tVar 10)) (tVar 3))) (tAnd (tTest (tOp (rEqP K) (tOp (rIx K) (tDGet (tVar 0) (tC (.str "sides"))) (tVar 10)) (tVar 5))) (tTest (tOp rLt (tVar 10) (tVar 1))))) (tVar 10) [10]) (gName 6))
  (tSeq (tIfS (tAnd (tTest (tOp (rInP K false) (tVar 3) (tTup (tCons (tC (.int 0)) (tCons (tOp rPlus (tVar 4) (tC (.int 1))) tNil))))) (tTest (tOp rGt (tCB (rLen K) (tCons (tVar 6) tNil)) (tC (.int 0))))) (tRet (tC (.str "not first"))) tNext)
  (tSeq (tAsg (tCB rMin2 (tCons (tVar 3) (tCons (tCallS (spD K (Φ_law_then A)) (fun _ => E) (tCons (tVar 0) (tCons (tVar 1) tNil))) tNil))) (gName 7))
  (tSeq (tAsg (tOp rPlus (tOp rPlus (tLst (tCons (tC (.bl true)) tNil)) (tDGet (tVar 0) (tC (.str "high")))) (tLst (tCons (tC (.bl false)) tNil))) (gName 8))
  (tSeq (tIfS (tOr (tNot (tB (tOp (rIx K) (tVar 8) (tVar 7)))) (tB (tOp (rIx K) (tVar 8) (tOp rPlus (tVar 7) (tC (.int 1)))))) (tRet (tC (.str "shut"))) tNext)
  (tSeq (tAsg (tCallS (spD K (Φ_law_then A)) (fun _ => E) (tCons (tVar 0) (tCons (tVar 1) tNil))) (gName 9))
  (tSeq (tIfS (tAnd (tTest (tChain rLt rLe (tC (.int 0)) (tVar 9) (tVar 4))) (tTest (tOp (rInP K false) (tVar 9) (tLc (iList K (tCB rListD (tCons (tVar 2) tNil))) (gName 10) tYes (tDGet (tVar 2) (tVar 10)) [10])))) (tRet (tC (.str "occupied"))) tNext)
  (tRet (tC (.str "done")))))))))))))))
def N_law_sail : List Str := ["state", "boat", "then"]
def t_law_sail (K : PySem.W.Frag) (A : Ad) (E : XK) : TS :=
  (tSeq (tAsg (tCallS (spD K (Φ_law_then A)) (fun _ => E) (tCons (tVar 0) (tCons (tVar 1) tNil))) (gName 2))
  (tSeq (sDPut (tDGet (tVar 0) (tC (.str "places"))) (tVar 1) (tVar 2))
  (tSeq (tIfS (tOr (tTest (tOp (rEqP K) (tVar 2) (tC (.int 0)))) (tTest (tOp (rEqP K) (tVar 2) (tOp rPlus (tCB (rLen K) (tCons (tDGet (tVar 0) (tC (.str "high"))) tNil)) (tC (.int 1)))))) (tSeq (tDrop (tDPop1 (tDGet (tVar 0) (tC (.str "places"))) (tVar 1)))
  (tDrop (tBM K "list" rAppend (tDGet (tVar 0) (tC (.str "through"))) (tCons (tVar 1) tNil)))) tNext)
  (tRet (tVar 2)))))
def N_law_come : List Str := ["state", "side", "boat"]
def t_law_come (K : PySem.W.Frag) (A : Ad) (E : XK) : TS :=
  (tSeq (tAsg (tCB (rLen K) (tCons (tDGet (tVar 0) (tC (.str "sides"))) tNil)) (gName 2))
  (tSeq (tDrop (tBM K "list" rAppend (tDGet (tVar 0) (tC (.str "sides"))) (tCons (tVar 1) tNil)))
  (tSeq (sDPut (tDGet (tVar 0) (tC (.str "places"))) (tVar 2) (tOp (rIx K) (tLst (tCons (tC (.int 0)) (tCons (tOp rPlus (tCB (rLen K) (tCons (tDGet (tVar 0) (tC (.str "high"))) tNil)) (tC (.int 1))) tNil))) (tCB rInt1 (tCons (tOp (rEqP K) (tVar 1) (tC (.str "down"))) tNil))))
  (tRet (tVar 2)))))
def N_law_stands : List Str := ["flight", "state", "side", "start", "due", "boat", "level"]
def t_law_stands (K : PySem.W.Frag) (A : Ad) (E : XK) : TS :=
  (tSeq (tIfS (tNot (tB (tCallS (spD K (Φ_law_bools A)) (fun _ => E) (tCons (tMethS' A.C "levels" (spD K (Φ_m_levels A)) (fun _ => E) (tVar 0) tNil) (tCons (tDGet (tVar 1) (tC (.str "high"))) tNil))))) (tRet (tC (.bl false))) tNext)
  (tSeq (tFor (iList K (tLst (tCons (tC (.str "up")) (tCons (tC (.str "down")) tNil)))) (gName 2) (tSeq (tAsg (tOp (rIx K) (tLst (tCons (tC (.int 0)) (tCons (tOp rPlus (tCB (rLen K) (tCons (tDGet (tVar 1) (tC (.str "high"))) tNil)) (tC (.int 1))) tNil))) (tCB rInt1 (tCons (tOp (rEqP K) (tVar 2) (tC (.str "down"))) tNil))) (gName 3))
  (tSeq (tAsg (tLc (iList K (tCB (rSortedI K) (tCons (tCB rListD (tCons (tDGet (tVar 1) (tC (.str "places"))) tNil)) tNil))) (gName 5) (tTest (tOp (rEqP K) (tDGet (tDGet (tVar 1) (tC (.str "places"))) (tVar 5)) (tVar 3))) (tVar 5) [5]) (gName 4))
  (tSeq (tAsg (tLc (iList K (tVar 4)) (gName 5) (tTest (tOp (rEqP K) (tOp (rIx K) (tDGet (tVar 1) (tC (.str "sides"))) (tVar 5)) (tVar 2))) (tVar 5) [5]) (gName 4))
  (tIfS (tNot (tB (tCallS (spD K (Φ_law_numbers A)) (fun _ => E) (tCons (tMethS' A.C "waiting" (spD K (Φ_m_waiting A)) (fun _ => E) (tVar 0) (tCons (tVar 2) tNil)) (tCons (tVar 4) tNil))))) (tRet (tC (.bl false))) tNext)))))
  (tSeq (tAsg (tLc (iList K (tDGet (tVar 1) (tC (.str "high")))) (gName 6) tYes (tC .non) [6]) (gName 4))
  (tSeq (tFor (iList K (tCB rListD (tCons (tDGet (tVar 1) (tC (.str "places"))) tNil))) (gName 5) (tIfS (tTest (tChain rLt rLe (tC (.int 0)) (tDGet (tDGet (tVar 1) (tC (.str "places"))) (tVar 5)) (tCB (rLen K) (tCons (tVar 4) tNil)))) (tAsg (tVar 5) (gSub (tVar 4) (tOp rMinus (tDGet (tDGet (tVar 1) (tC (.str "places"))) (tVar 5)) (tC (.int 1))) rSetL)) tNext))
  (tSeq (tIfS (tOr (tTest (tOp (rNeP K) (tMethS' A.C "boats" (spD K (Φ_m_boats A)) (fun _ => E) (tVar 0) tNil) (tVar 4))) (tNot (tB (tCallS (spD K (Φ_law_numbers A)) (fun _ => E) (tCons (tMethS' A.C "through" (spD K (Φ_m_through A)) (fun _ => E) (tVar 0) tNil) (tCons (tDGet (tVar 1) (tC (.str "through"))) tNil)))))) (tRet (tC (.bl false))) tNext)
  (tRet (tAndV (tOp (rEqP K) (tMethS' A.C "drawn" (spD K (Φ_m_drawn A)) (fun _ => E) (tVar 0) tNil) (tDGet (tVar 1) (tC (.str "drawn")))) (tOp (rEqP K) (tMethS' A.C "out" (spD K (Φ_m_out A)) (fun _ => E) (tVar 0) tNil) (tDGet (tVar 1) (tC (.str "out")))))))))))
def N_law_does : List Str := ["flight", "state", "deed", "done"]
def t_law_does (K : PySem.W.Frag) (A : Ad) (E : XK) : TS :=
  (tSeq (tAsg (tC (.bl true)) (gName 3))
  (tSeq (tTry K (fun cls d _ H => E cls d H) (((.ref A.le), fun _ _ _ => (tAsg (tC (.bl false)) (gName 3))) :: []) (fun W => (tIfS (tTest (tOp (rEqP K) (tOp (rIx K) (tVar 2) (tC (.int 0))) (tC (.str "let")))) (tDrop (tMethS' A.C "let" (spD K (Φ_m_let A)) (WE W) (tVar 0) (tCons (tOp (rIx K) (tVar 2) (tC (.int 1))) tNil))) (tDrop (tMethS' A.C "sail" (spD K (Φ_m_sail A)) (WE W) (tVar 0) (tCons (tOp (rIx K) (tVar 2) (tC (.int 1))) tNil))))))
  (tSeq (tIfS (tOr (tNot (tB (tVar 3))) (tAnd (tTest (tOp (rEqP K) (tOp (rIx K) (tVar 2) (tC (.int 0))) (tC (.str "let")))) (tTest (tOp (rNeP K) (tCallS (spD K (Φ_law_let_word A)) (fun _ => E) (tCons (tVar 1) (tCons (tOp (rIx K) (tVar 2) (tC (.int 1))) tNil))) (tC (.str "done")))))) (tRet (tC (.bl false))) tNext)
  (tSeq (tIfS (tTest (tOp (rEqP K) (tOp (rIx K) (tVar 2) (tC (.int 0))) (tC (.str "let")))) (tDrop (tCallS (spD K (Φ_law_let A)) (fun _ => E) (tCons (tVar 1) (tCons (tOp (rIx K) (tVar 2) (tC (.int 1))) tNil)))) (tIfS (tTest (tOp (rEqP K) (tCallS (spD K (Φ_law_sail_word A)) (fun _ => E) (tCons (tVar 1) (tCons (tOp (rIx K) (tVar 2) (tC (.int 1))) tNil))) (tC (.str "done")))) (tDrop (tCallS (spD K (Φ_law_sail A)) (fun _ => E) (tCons (tVar 1) (tCons (tOp (rIx K) (tVar 2) (tC (.int 1))) tNil)))) (tRet (tC (.bl false)))))
  (tRet (tCallS (spD K (Φ_law_stands A)) (fun _ => E) (tCons (tVar 0) (tCons (tVar 1) tNil))))))))
def N_law : List Str := ["script", "levels", "order", "flight", "state", "side", "deed", "level"]
def t_law (K : PySem.W.Frag) (A : Ad) (E : XK) : TS :=
  (tSeq (tAsg (tCallS (spD K (Φ_law_levels A)) (fun _ => E) (tCons (tVar 0) (tCons (tC (.int 0)) tNil))) (gName 1))
  (tSeq (tAsg (tCallS (spD K (Φ_law_order A)) (fun _ => E) (tCons (tVar 0) (tCons (tC (.int 3)) (tCons (tOp rPlus (tC (.int 1)) (tOp rMod (tCallS (spD K (Φ_law_cell_at A)) (fun _ => E) (tCons (tVar 0) (tCons (tC (.int 2)) tNil))) (tC (.int 12)))) tNil)))) (gName 2))
  (tSeq (tAsg (tMakeS A.C (spD K (Φ_m_init A)) (fun _ => E) (tCons (tCB (rListS K) (tCons (tVar 1) tNil)) tNil)) (gName 3))
  (tSeq (tAsg (tCallS (spD K (Φ_law_new A)) (fun _ => E) (tCons (tVar 1) tNil)) (gName 4))
  (tSeq (tFor (iList K (tVar 2)) (gName 5) (tIfS (tTest (tOp (rNeP K) (tMethS' A.C "come" (spD K (Φ_m_come A)) (fun _ => E) (tVar 3) (tCons (tVar 5) tNil)) (tCallS (spD K (Φ_law_come A)) (fun _ => E) (tCons (tVar 4) (tCons (tVar 5) tNil))))) (tRet (tC (.bl false))) tNext))
  (tSeq (tFor (iList K (tCallS (spD K (Φ_plan A)) (fun _ => E) (tCons (tCB (rListS K) (tCons (tVar 1) tNil)) (tCons (tCB (rListS K) (tCons (tVar 2) tNil)) tNil)))) (gName 6) (tIfS (tNot (tB (tCallS (spD K (Φ_law_does A)) (fun _ => E) (tCons (tVar 3) (tCons (tVar 4) (tCons (tVar 6) tNil)))))) (tRet (tC (.bl false))) tNext))
  (tSeq (tIfS (tOr (tTest (tOp (rNeP K) (tMethS' A.C "through" (spD K (Φ_m_through A)) (fun _ => E) (tVar 3) tNil) (tLstRg (tRg1 (tCB (rLen K) (tCons (tVar 2) tNil)))))) (tTest (tOp (rNeP K) (tMethS' A.C "drawn" (spD K (Φ_m_drawn A)) (fun _ => E) (tVar 3) tNil) (tCallS (spD K (Φ_cost A)) (fun _ => E) (tCons (tCB (rListS K) (tCons (tVar 1) tNil)) (tCons (tCB (rListS K) (tCons (tVar 2) tNil)) tNil)))))) (tRet (tC (.bl false))) tNext)
  (tRet (tOp (rEqP K) (tCB (rSum K) (tCons (tLc (iList K (tMethS' A.C "levels" (spD K (Φ_m_levels A)) (fun _ => E) (tVar 3) tNil)) (gName 7) tYes (tCB rInt1 (tCons (tOp (rEqP K) (tVar 7) (tOp (rEqP K) (tOp (rIx K) (tVar 2) (tUn rNeg (tC (.int 1)))) (tC (.str "up")))) tNil)) [7]) tNil)) (tCB (rLen K) (tCons (tVar 1) tNil)))))))))))
section
variable {K : PySem.W.Frag} {A : Ad}
theorem s_ask_levels : Sem K (Φ_ask_levels A) N_ask_levels (t_ask_levels K A) := by
  rintro E ds R N' M' ⟨xs, rfl, rfl, n, m⟩
  refine x_if (b := !(decide ((1 : Int) ≤ (xs.length : Int)) && decide ((xs.length : Int) ≤ 8))) (by walk_at "et") ?_ ?_
  · intro h
    refine x_raise (m ?_)
    simp only [Bool.not_eq_true', Bool.and_eq_false_iff, decide_eq_false_iff_not] at h
    omega
  · intro h
    refine x_nil (n ?_)
    simp only [Bool.not_eq_false', Bool.and_eq_true, decide_eq_true_eq] at h
    omega
theorem s_m_init (fx : Fx K A) : Sem K (Φ_m_init A) N_m_init (t_m_init K A) := by
  rintro E ds R N' M' ⟨x, lv, rfl, rfl, n, m⟩
  refine x_seq ?_
  refine x_dropE (N := fun _ R' => R' = [(x, .ins A.C [])] ∧ 1 ≤ lv.length ∧ lv.length ≤ 8) (M := fun c R' => c = .ref A.bf ∧ ¬ (1 ≤ lv.length ∧ lv.length ≤ 8)) (ee_callP (ea_cons (ev_var rfl) ea_nil) ⟨_, rfl, rfl, fun h => ⟨rfl, by rw [List.length_map] at h; exact h⟩, fun h => ⟨rfl, by rw [List.length_map] at h; exact h⟩⟩ fun _ _ _ _ _ h => h) ?_ ?_
  case refine_2 =>
    rintro c R' ⟨rfl, h⟩
    exact m h R'
  rintro d R' ⟨rfl, h8⟩
  have self : ∀ R, Ev K (startD N_m_init [.r x, .d (.list (lv.map .bool))]) R (tVar 0) (.r x) := fun R => ev_var rfl
  refine x_seq (x_fldF (i := 0) (ds := lv.map .bool) (evf_list (ev_var rfl) (.d _)) self rfl (by decide) (fun ah => ?_) fx.cl fx.high)
  refine x_seq (x_fldF (i := 1) (ds := []) (evf_lst ex_nil (by decide)) self rfl (by show 1 < 1000; decide) (fun as => ?_) fx.cl fx.sides)
  refine x_seq (x_fldD (i := 2) self rfl (by show 2 < 1000; decide) (fun ap => ?_) fx.cl fx.places)
  refine x_seq (x_fldF (i := 3) (ds := []) (evf_lst ex_nil (by decide)) self rfl (by show 3 < 1000; decide) (fun ad => ?_) fx.cl fx.done)
  refine x_seq (x_fld (i := 4) (d := .d (.int 0)) ev_int (self _) rfl (by show 4 < 1000; decide) ?_ fx.cl fx.taken)
  let a : Fa := ⟨x, ah, as, ap, ad⟩
  refine XS.perm (R0 := [(x, .ins A.C [("high", .r ah), ("sides", .r as), ("places", .r ap), ("done", .r ad), ("taken", .d (.int 0))]), (ah, .lst (lv.map .bool)), (as, .lst []), (ap, .dic []), (ad, .lst [])]) ?_ (List.reverse_perm _).symm
  exact x_fld (i := 0) (d := .d (.int 0)) ev_int (self _) rfl (by show 5 < 1000; decide) (n h8 a rfl) fx.cl fx.given
theorem s_m_levels (fx : Fx K A) : Sem K (Φ_m_levels A) N_m_levels (t_m_levels K A) := by
  rintro E ds R N' M' ⟨a, S, rfl, rfl, n⟩
  exact x_retF (evf_list (f_high fx (ev_var rfl) .one) (.mem (fl_h .one))) n
theorem s_m_top (fx : Fx K A) : Sem K (Φ_m_top A) N_m_top (t_m_top K A) := by
  rintro E ds R N' M' ⟨a, S, rfl, rfl, n⟩
  exact x_retI (ev_op (ev_lenL (f_high fx (ev_var rfl) .one) (.mem (fl_h .one))) ev_int rv_plusI) (by rw [List.length_map]; rfl) n
theorem s_m_boats (fx : Fx K A) : Sem K (Φ_m_boats A) N_m_boats (t_m_boats K A) := by
  rintro E ds R N' M' ⟨a, S, rfl, rfl, w, n⟩
  refine x_seq (x_asgF (evf_is (evf_lcR0 (i := 1) (f_high fx (ev_var rfl) .one) rfl (by decide) fun u => ev_non) (by rw [List.length_map])) fun b => ?_)
  have hn : Inn (flR A.C a S) ((b, RO.lst (List.replicate S.high.length PyData.none)) :: flR A.C a S) _ := .cons _ .one
  refine x_seq ?_
  refine x_forI (xs := S.places) (enc := fun q => .int q.1) (fun i δ' R' => ∃ v, R' = (b, .lst ((foldAt (boatStep S.high.length) (List.replicate S.high.length none) S.places i).map optD)) :: flR A.C a S ∧ δ' = [some (.r a.f), some (.r b), v, none])
    (ei_is (ei_list (ev_frz (f_keys (f_places fx (ev_var rfl) hn) (fl_p hn)))) (by rw [List.map_map]; rfl)) ⟨none, by show (b, RO.lst (List.replicate _ PyData.none)) :: _ = (b, .lst ((List.replicate _ none).map optD)) :: _; rw [List.map_replicate]; rfl, rfl⟩ ?_ ?_
  · rintro i q δ' R' hi ⟨v, rfl, rfl⟩
    refine ⟨_, eg_name, ?_⟩
    have stp := foldAt_step (f := boatStep S.high.length) (z := List.replicate S.high.length none) hi
    have hl : (foldAt (boatStep S.high.length) (List.replicate S.high.length none) S.places i).length = S.high.length := by
      unfold foldAt
      rw [boats_len, List.length_replicate]
    generalize foldAt (boatStep S.high.length) (List.replicate S.high.length none) S.places i = cur at *
    have hq : plc S.places q.1 = some q.2 := plc_of w.ks (List.mem_of_getElem? hi)
    have inn : Inn (flR A.C a S) ((b, RO.lst (cur.map optD)) :: flR A.C a S) _ := .cons _ .one
    have at1 : ∀ {δ : DEnv}, δ[0]? = some (some (.r a.f)) → δ[2]? = some (some (.d (.int q.1))) → Ev K δ ((b, RO.lst (cur.map optD)) :: flR A.C a S) (tDGet (tFld K (tVar 0) "places") (tVar 2)) (.d (.int q.2)) := fun h0 h2 => d_plc (f_places fx (ev_var h0) inn) (ev_var h2) (fl_p inn) hq
    refine x_ifI (b := decide (0 < q.2 ∧ q.2 < S.n + 1)) (et_test (ev_chain ev_int (at1 rfl rfl) rv_lt fun _ => ⟨v_m_top (ev_var rfl) inn, rv_lt⟩)) (by rw [Bool.eq_iff_iff, Bool.and_eq_true, decide_eq_true_eq, decide_eq_true_eq, decide_eq_true_eq]) ?_ ?_
    · intro h
      have h := of_decide_eq_true h
      refine x_setL (i := 0) (j := (q.2 - 1).toNat) (w := optD (some q.1)) (ev_var rfl) (ev_var rfl) (ev_op (at1 rfl rfl) ev_int rv_minus) rfl ?_ ⟨_, ?_, rfl⟩
      · rw [List.length_map, hl]
        have e : q.2 - 1 = (((q.2 - 1).toNat : Nat) : Int) := by omega
        rw [e]
        refine ixN_nat ?_
        unfold Fs.n at h; omega
      · rw [stp]
        show (b, RO.lst ((cur.map optD).set _ (optD (some q.1)))) :: flR A.C a S = (b, .lst ((if 0 < q.2 ∧ q.2 < (S.high.length : Int) + 1 then cur.set (q.2 - 1).toNat (some q.1) else cur).map optD)) :: flR A.C a S
        rw [if_pos (show 0 < q.2 ∧ q.2 < (S.high.length : Int) + 1 from h), List.map_set]
    · intro h
      have h := of_decide_eq_false h
      refine x_nil ⟨_, ?_, rfl⟩
      rw [stp]
      show _ = (b, RO.lst ((if 0 < q.2 ∧ q.2 < (S.high.length : Int) + 1 then cur.set (q.2 - 1).toNat (some q.1) else cur).map optD)) :: flR A.C a S
      rw [if_neg (show ¬ (0 < q.2 ∧ q.2 < (S.high.length : Int) + 1) from h)]
  · rintro δ' R' ⟨v, rfl, rfl⟩
    rw [foldAt_all]
    exact x_ret (ev_var rfl) (n b)
theorem s_m_waiting (fx : Fx K A) : Sem K (Φ_m_waiting A) N_m_waiting (t_m_waiting K A) := by
  rintro E ds R N' M' ⟨a, S, u, rfl, rfl, w, n⟩
  refine x_seq (x_asg ev_int ?_)
  refine x_seqM (fun δ' R' => R' = flR A.C a S ∧ δ' = [some (.r a.f), some (.d (sd u)), some (.d (.int (startOf S u))), none, none]) ?_ ?_
  · refine x_ifI (b := !u) (et_test (ev_op (ev_var rfl) ev_str (rv_eq (.d _) (.d _) (dep_l (Nat.zero_le 60))))) (eqv_down u) ?_ ?_
    · intro h
      have h : u = false := by simpa using h
      subst h
      exact x_asg (v_m_top (ev_var rfl) .one) ⟨rfl, rfl⟩
    · intro h
      have h : u = true := by simpa using h
      subst h
      exact x_nil ⟨rfl, rfl⟩
  rintro δ' R' ⟨rfl, rfl⟩
  refine x_seq (x_asg (d := .d (.list (((keysOf S.places).filter fun b => decide (plc S.places b = some (startOf S u))).map .int))) (ev_frz (evf_lcI (xs := keysOf S.places) (enc := PyData.int) (fun b => decide (plc S.places b = some (startOf S u))) PyData.int (ei_list (ev_frz (evf_sorted (ev_frz (f_keys (f_places fx (ev_var rfl) .one) (fl_p .one))) (.d _) (List.Perm.refl _) (keys_sorted w)))) (by decide) (fun b hb => ?q1) fun b hb _ => ev_var rfl)) ?_)
  case q1 =>
    obtain ⟨v, hv, hm⟩ := w.at_ hb
    refine et_is (et_test (ev_op (d_plc (f_places fx (ev_var rfl) .one) (ev_var rfl) (fl_p .one) hv) (ev_var rfl) (rv_eq (.d _) (.d _) (dep_l (Nat.zero_le 60))))) ?_
    rw [eqv_int, hv, Bool.eq_iff_iff, decide_eq_true_eq, decide_eq_true_eq]
    exact ⟨fun e => by rw [e], fun e => Option.some.inj e⟩
  refine x_retF (evf_lcI (xs := (keysOf S.places).filter fun b => decide (plc S.places b = some (startOf S u))) (enc := PyData.int) (fun b => sideOf S b == u) PyData.int (ei_list (ev_var rfl)) (by decide) (fun b hb => ?q2) fun b hb _ => ev_var rfl) n
  case q2 =>
    obtain ⟨v, hv, hm⟩ := w.at_ (List.mem_filter.mp hb).1
    have kb := w.kb _ hm
    refine et_is (et_test (ev_op (ev_at (g := sd) (f_sides fx (ev_var rfl) .one) (ev_var rfl) (fl_s .one) (side_at kb.1 kb.2)) (ev_var rfl) (rv_eq (.d _) (.d _) (dep_l (Nat.zero_le 60))))) ?_
    rw [eqv_sd]
theorem s_m_through (fx : Fx K A) : Sem K (Φ_m_through A) N_m_through (t_m_through K A) := by
  rintro E ds R N' M' ⟨a, S, rfl, rfl, n⟩
  exact x_retF (evf_list (f_done fx (ev_var rfl) .one) (.mem (fl_d .one))) n
theorem s_m_place (fx : Fx K A) : Sem K (Φ_m_place A) N_m_place (t_m_place K A) := by
  rintro E ds R N' M' ⟨a, S, b, rfl, rfl, n, m⟩
  refine x_seq (x_if (et_val (d_nin (ev_var rfl) (f_places fx (ev_var rfl) .one) (fl_p .one))) ?_ ?_)
  · intro h
    refine x_raise (m ?_)
    cases q : plc S.places b with
    | none => rfl
    | some v => rw [q] at h; cases h
  · intro h
    cases q : plc S.places b with
    | none => rw [q] at h; cases h
    | some v => exact x_nil (x_ret (d_plc (f_places fx (ev_var rfl) .one) (ev_var rfl) (fl_p .one) q) (n v q))
theorem s_m_drawn (fx : Fx K A) : Sem K (Φ_m_drawn A) N_m_drawn (t_m_drawn K A) := by
  rintro E ds R N' M' ⟨a, S, rfl, rfl, n⟩
  exact x_ret (f_taken fx (ev_var rfl) .one) n
theorem s_m_out (fx : Fx K A) : Sem K (Φ_m_out A) N_m_out (t_m_out K A) := by
  rintro E ds R N' M' ⟨a, S, rfl, rfl, n⟩
  exact x_ret (f_given fx (ev_var rfl) .one) n
theorem s_m_come (fx : Fx K A) : Sem K (Φ_m_come A) N_m_come (t_m_come K A) := by
  rintro E ds R N' M' ⟨a, S, u, rfl, rfl, w, n⟩
  have pl := w.pl100
  have s100 := w.s100
  refine x_seq (x_asg (d := .d (.int S.sides.length)) (ev_is (ev_lenL (f_sides fx (ev_var rfl) .one) (.mem (fl_s .one))) (by rw [List.length_map])) ?_)
  refine x_seq (xf_sides (f_sides fx (ev_var rfl) .one) (ev_var rfl) (by omega) ?_)
  refine x_seq (xf_put (S := { S with sides := S.sides ++ [u] }) (f_places fx (ev_var rfl) .one) (ev_var rfl) ev_int (by show S.places.length < 50000; omega) ?_)
  refine x_seq ?_
  show XS K _ _ (flR A.C a { S with sides := S.sides ++ [u], places := pput S.places S.sides.length 0 }) _ _
  rw [come_put w]
  refine x_ifI (b := !u) (et_test (ev_op (ev_var rfl) ev_str (rv_eq (.d _) (.d _) (dep_l (Nat.zero_le 60))))) (eqv_down u) ?_ ?_
  · intro h
    have h : u = false := by simpa using h
    subst h
    refine xf_put (f_places fx (ev_var rfl) .one) (ev_var rfl) (v_m_top (ev_var rfl) .one) ?_ ?_
    · show (S.places ++ [_]).length < 50000
      rw [List.length_append]; simp; omega
    · show XS K _ _ (flR A.C a { S with sides := S.sides ++ [false], places := pput (S.places ++ [((S.sides.length : Int), 0)]) S.sides.length (S.n + 1) }) _ _
      rw [come_put2 w]
      exact x_ret (ev_var rfl) n
  · intro h
    have h : u = true := by simpa using h
    subst h
    exact x_nil (x_ret (ev_var rfl) n)
theorem s_m_let (fx : Fx K A) : Sem K (Φ_m_let A) N_m_let (t_m_let K A) := by
  rintro E ds R N' M' ⟨a, S, g, rfl, rfl, n, m1, m2⟩
  refine x_seq (x_asg (d := .d (.int S.n)) (ev_is (ev_lenL (f_high fx (ev_var rfl) .one) (.mem (fl_h .one))) (by rw [List.length_map]; rfl)) ?_)
  have nn : 0 ≤ S.n := by unfold Fs.n; omega
  refine x_seq (x_ifI (b := decide (g < 0 ∨ S.n < g)) (et_not (et_test (ev_chain ev_int (ev_var rfl) rv_le fun _ => ⟨ev_var rfl, rv_le⟩))) ?_ ?_ ?_)
  · rw [Bool.eq_iff_iff, Bool.not_eq_true', Bool.and_eq_false_iff, decide_eq_false_iff_not, decide_eq_false_iff_not, decide_eq_true_eq]
    omega
  · intro h
    have h := of_decide_eq_true h
    exact x_raise (m1 (if_pos h))
  intro h
  have h := of_decide_eq_false h
  have h0 : 0 ≤ g ∧ g ≤ S.n := by omega
  have eW : letW S g = if (g < S.n ∧ S.high.getD g.toNat true = false) ∨ (0 < g ∧ S.high.getD (g - 1).toNat false = true) then 2 else 0 := if_neg h
  refine x_nil ?_
  refine x_seq (x_ifI (b := decide ((g < S.n ∧ S.high.getD g.toNat true = false) ∨ (0 < g ∧ S.high.getD (g - 1).toNat false = true))) (et_or (a := decide (g < S.n) && !(S.high.getD g.toNat true)) (b := decide (0 < g) && S.high.getD (g - 1).toNat false) (et_and (et_test (ev_op (ev_var rfl) (ev_var rfl) rv_lt)) fun hg => et_not (et_val (ev_at (g := PyData.bool) (f_high fx (ev_var rfl) .one) (ev_var rfl) (fl_h .one) (high_at h0.1 (of_decide_eq_true hg))))) fun _ => et_and (et_test (ev_op (ev_var rfl) ev_int rv_gt)) fun hg => et_val (ev_at (g := PyData.bool) (f_high fx (ev_var rfl) .one) (ev_op (ev_var rfl) ev_int rv_minus) (fl_h .one) (high_at (by have := of_decide_eq_true hg; omega) (by omega)))) ?_ ?_ ?_)
  · rw [Bool.eq_iff_iff, Bool.or_eq_true, Bool.and_eq_true, Bool.and_eq_true, decide_eq_true_eq, decide_eq_true_eq, decide_eq_true_eq, Bool.not_eq_true']
  · intro hf
    have hf := of_decide_eq_true hf
    exact x_raise (m2 (by rw [eW, if_pos hf]))
  intro hf
  have hf := of_decide_eq_false hf
  have n := n (by rw [eW, if_neg hf])
  refine x_nil ?_
  let S1 : Fs := { S with taken := S.taken + (if g = S.n then 1 else 0), high := if g.toNat < S.high.length then S.high.set g.toNat false else S.high }
  have hS1 : S1.high.length = S.high.length := by show (if _ then _ else _ : List Bool).length = _; split <;> simp
  refine x_seqM (fun δ' R' => R' = flR A.C a S1 ∧ δ' = [some (.r a.f), some (.d (.int g)), some (.d (.int S.n))]) ?_ ?_
  · refine x_ifI (b := decide (g = S.n)) (et_test (ev_op (ev_var rfl) (ev_var rfl) (rv_eq (.d _) (.d _) (dep_l (Nat.zero_le 60))))) (eqv_int _ _) ?_ ?_
    · intro hg
      have hg := of_decide_eq_true hg
      refine xf_taken fx (ev_var rfl) (ev_op (f_taken fx (ev_var rfl) .one) ev_int rv_plusI) ⟨?_, rfl⟩
      have e : S1 = { S with taken := S.taken + 1 } := by
        show ({ S with taken := _, high := _ } : Fs) = _
        rw [if_pos hg, if_neg (by unfold Fs.n at hg; omega)]
      rw [e]
    · intro hg
      have hg := of_decide_eq_false hg
      have hlt : g.toNat < S.high.length := by unfold Fs.n at *; omega
      refine xf_high (j := g.toNat) ev_bl (f_high fx (ev_var rfl) .one) (ev_var rfl) (by have := ixN_nat hlt; rw [show ((g.toNat : Nat) : Int) = g by omega] at this; exact this) ⟨?_, rfl⟩
      have e : S1 = { S with high := S.high.set g.toNat false } := by
        show ({ S with taken := _, high := _ } : Fs) = _
        rw [if_neg hg, if_pos hlt, Int.add_zero]
      rw [e]
  rintro δ' R' ⟨rfl, rfl⟩
  refine x_seqM (fun δ' R' => R' = flR A.C a (letS S g) ∧ δ' = [some (.r a.f), some (.d (.int g)), some (.d (.int S.n))]) ?_ ?_
  · refine x_ifI (b := decide (g = 0)) (et_test (ev_op (ev_var rfl) ev_int (rv_eq (.d _) (.d _) (dep_l (Nat.zero_le 60))))) (eqv_int _ _) ?_ ?_
    · intro hg
      have hg := of_decide_eq_true hg
      refine xf_given fx (ev_var rfl) (ev_op (f_given fx (ev_var rfl) .one) ev_int rv_plusI) ⟨?_, rfl⟩
      have e : letS S g = { S1 with given := S1.given + 1 } := by
        unfold letS letL
        rw [if_pos hg, if_neg (by omega)]
      rw [e]
    · intro hg
      have hg := of_decide_eq_false hg
      have e1 : g - 1 = ((g.toNat - 1 : Nat) : Int) := by omega
      refine xf_high (j := g.toNat - 1) ev_bl (f_high fx (ev_var rfl) .one) (ev_op (ev_var rfl) ev_int rv_minus) (by rw [e1]; exact ixN_nat (by rw [hS1]; unfold Fs.n at *; omega)) ⟨?_, rfl⟩
      have e : letS S g = { S1 with high := S1.high.set (g.toNat - 1) true } := by
        unfold letS letL
        rw [if_neg hg, if_pos (by omega), Int.add_zero]
      rw [e]
  rintro δ' R' ⟨rfl, rfl⟩
  exact x_ret (f_taken fx (ev_var rfl) .one) n
theorem s_m_is_level (fx : Fx K A) : Sem K (Φ_m_is_level A) N_m_is_level (t_m_is_level K A) := by
  rintro E ds R N' M' ⟨a, S, g, rfl, rfl, h0, h1, n⟩
  refine x_seq (x_asg (d := .d (.int S.n)) (ev_is (ev_lenL (f_high fx (ev_var rfl) .one) (.mem (fl_h .one))) (by rw [List.length_map]; rfl)) ?_)
  refine x_retI (d := .d (.bool (levB S g))) (ev_and (a := decide (g = 0) || S.high.getD (g - 1).toNat true) (b := decide (g = S.n) || !(S.high.getD g.toNat false))
    (ev_or (ev_is (ev_op (ev_var rfl) ev_int (rv_eq (.d _) (.d _) (dep_l (Nat.zero_le 60)))) (by rw [eqv_int])) fun hg => ev_at (g := PyData.bool) (f_high fx (ev_var rfl) .one) (ev_op (ev_var rfl) ev_int rv_minus) (fl_h .one) (high_at (by have := of_decide_eq_false hg; omega) (by omega)))
    fun _ => ev_or (ev_is (ev_op (ev_var rfl) (ev_var rfl) (rv_eq (.d _) (.d _) (dep_l (Nat.zero_le 60)))) (by rw [eqv_int])) fun hg => ev_not (ev_at (g := PyData.bool) (f_high fx (ev_var rfl) .one) (ev_var rfl) (fl_h .one) (high_at h0 (by have := of_decide_eq_false hg; omega)))) rfl n
theorem s_m_sail (fx : Fx K A) : Sem K (Φ_m_sail A) N_m_sail (t_m_sail K A) := by
  rintro E ds R N' M' ⟨a, S, b, rfl, rfl, w, n, m3, m4, m5, m6⟩
  have pl := w.pl100
  have dl := w.dl100
  have nn : 0 ≤ S.n := by unfold Fs.n; omega
  refine x_seq ?_
  refine x_asgE (N := fun d R' => ∃ v, plc S.places b = some v ∧ d = .d (.int v) ∧ R' = flR A.C a S) (M := fun c R' => plc S.places b = none ∧ c = .ref A.nb ∧ R' = flR A.C a S) (ee_methN (ev_var rfl) .one rfl rfl (ea_cons (ev_var rfl) ea_nil) ⟨a, S, b, rfl, rfl, fun v hv => ⟨v, hv, rfl, rfl⟩, fun h => ⟨h, rfl, rfl⟩⟩ fun _ _ _ _ _ h => h) ?_ ?_
  case refine_2 =>
    rintro c R' ⟨h, rfl, rfl⟩
    exact m3 (if_pos h)
  rintro d R' ⟨v, hv, rfl, rfl⟩
  have hm := plc_mem hv
  have kb := w.kb _ hm
  dsimp only at kb
  have gt := w.gate hv
  have e3 : sailW S b = if notFirst S b = true then 4 else if levB S (gateM S b) = false then 5 else if (0 < thenM S b ∧ thenM S b ≤ S.n) ∧ occB S (thenM S b) = true then 6 else 0 := if_neg (by rw [hv]; simp)
  refine x_seq (x_asg (d := .d (sd (sideOf S b))) (ev_at (g := sd) (f_sides fx (ev_var rfl) .one) (ev_var rfl) (fl_s .one) (side_at kb.1 kb.2)) ?_)
  refine x_seq (x_asg (d := .d (.list ((waitM S (sideOf S b)).map .int))) (ev_frz (v_m_waiting w (ev_var rfl) (ev_var rfl) .one)) ?_)
  refine x_seq (x_ifI (b := notFirst S b) (et_and (a := decide (b ∈ waitM S (sideOf S b))) (b := decide ((waitM S (sideOf S b)).head? ≠ some b)) (et_is (et_test (ev_op (ev_var rfl) (ev_var rfl) (rv_in (.d _) (.l (.d _)) (Nat.le_trans (Nat.min_le_right _ _) (Nat.zero_le 60))))) ?q1) fun hin => ?q2) (row_first w hv) ?_ ?_)
  case q1 =>
    rw [List.any_map, Bool.eq_iff_iff, List.any_eq_true, decide_eq_true_eq]
    constructor
    · rintro ⟨x, hx, e⟩
      have e : PyData.eqv (.int x) (.int b) = true := e
      rw [eqv_int] at e
      obtain rfl : x = b := of_decide_eq_true e
      exact hx
    · intro h
      refine ⟨b, h, ?_⟩
      show PyData.eqv (.int b) (.int b) = true
      rw [eqv_int]; simp
  case q2 =>
    have hin := of_decide_eq_true hin
    cases q : waitM S (sideOf S b) with
    | nil => rw [q] at hin; simp at hin
    | cons x r =>
      refine et_is (et_test (ev_op (ev_op (ev_var rfl) ev_int (rv_ixLM (f := PyData.int) (xs := x :: r) (.d _) (atI_some (i := 0) rfl))) (ev_var rfl) (rv_ne (.d _) (.d _) (dep_l (Nat.zero_le 60))))) ?_
      rw [eqv_int, List.head?_cons]
      rw [Bool.eq_iff_iff, Bool.not_eq_true', decide_eq_false_iff_not, decide_eq_true_eq]
      exact ⟨fun h z => h (Option.some.inj z), fun h z => h (by rw [z])⟩
  · intro h
    exact x_raise (m4 (by rw [e3, if_pos h]))
  intro h4
  have e4 : sailW S b = if levB S (gateM S b) = false then 5 else if (0 < thenM S b ∧ thenM S b ≤ S.n) ∧ occB S (thenM S b) = true then 6 else 0 := by rw [e3, if_neg (by rw [h4]; simp)]
  refine x_nil ?_
  refine x_seq (x_asg ev_int ?_)
  refine x_seq (x_asg (ev_var rfl) ?_)
  refine x_seqM (fun δ' R' => R' = flR A.C a S ∧ δ' = [some (.r a.f), some (.d (.int b)), some (.d (.int v)), some (.d (sd (sideOf S b))), some (.d (.list ((waitM S (sideOf S b)).map .int))), some (.d (.int (if sideOf S b = true then 1 else -1))), some (.d (.int (gateM S b))), none]) ?_ ?_
  · refine x_ifI (b := !(sideOf S b)) (et_test (ev_op (ev_var rfl) ev_str (rv_eq (.d _) (.d _) (dep_l (Nat.zero_le 60))))) (eqv_down _) ?_ ?_
    · intro h
      have h : sideOf S b = false := by simpa using h
      refine x_seq (x_asg (ev_neg ev_int) (x_asg (ev_op (ev_var rfl) ev_int rv_minus) ⟨rfl, ?_⟩))
      rw [gate_eq hv, h]; rfl
    · intro h
      have h : sideOf S b = true := by simpa using h
      refine x_nil ⟨rfl, ?_⟩
      rw [gate_eq hv, h]; rfl
  rintro δ' R' ⟨rfl, rfl⟩
  refine x_seq (x_if (b := !(levB S (gateM S b))) (et_not (et_val (v_m_is_level ⟨gt.1, gt.2.1⟩ (ev_var rfl) (ev_var rfl) .one))) ?_ ?_)
  · intro h
    have h : levB S (gateM S b) = false := by simpa using h
    exact x_raise (m5 (by rw [e4, if_pos h]))
  intro h5
  have h5 : levB S (gateM S b) = true := by simpa using h5
  have e5 : sailW S b = if (0 < thenM S b ∧ thenM S b ≤ S.n) ∧ occB S (thenM S b) = true then 6 else 0 := by rw [e4, if_neg (by rw [h5]; simp)]
  refine x_nil ?_
  refine x_seq (x_asg (d := .d (.int (thenM S b))) (ev_is (ev_op (ev_var rfl) (ev_var rfl) rv_plusI) (by rw [then_eq hv])) ?_)
  refine x_seq (x_ifI (b := decide ((0 < thenM S b ∧ thenM S b ≤ S.n) ∧ occB S (thenM S b) = true)) (et_and (a := decide (0 < thenM S b ∧ thenM S b ≤ S.n)) (b := occB S (thenM S b)) (et_is (et_test (ev_chain ev_int (ev_var rfl) rv_lt fun _ => ⟨v_m_top (ev_var rfl) .one, rv_lt⟩)) ?q3) fun hin => ?q4) ?_ ?_ ?_)
  case q3 =>
    rw [Bool.eq_iff_iff, Bool.and_eq_true, decide_eq_true_eq, decide_eq_true_eq, decide_eq_true_eq]
    omega
  case q4 =>
    have hin := of_decide_eq_true hin
    obtain ⟨o, ho, hno⟩ := boats_occ hin.1 hin.2
    refine et_is (et_test (ev_op (x := .d (optD o)) (ev_op (x := .d (.list ((boatsM S).map optD))) (ev_frz (v_m_boats w (ev_var rfl) .one)) (ev_op (ev_var rfl) ev_int rv_minus) (rv_ixLM (f := optD) (.d _) ?_)) ev_non rv_notN)) (by rw [hno, Bool.not_not])
    have := atI_some ho
    rw [show (((thenM S b - 1).toNat : Nat) : Int) = thenM S b - 1 by omega] at this
    exact this
  · rw [Bool.eq_iff_iff, Bool.and_eq_true, decide_eq_true_eq, decide_eq_true_eq]
  · intro h
    have h := of_decide_eq_true h
    exact x_raise (m6 (by rw [e5, if_pos h]))
  intro h6
  have h6 := of_decide_eq_false h6
  have n := n (by rw [e5, if_neg h6])
  refine x_nil ?_
  refine x_seq (xf_put (f_places fx (ev_var rfl) .one) (ev_var rfl) (ev_var rfl) (by omega) ?_)
  refine x_seqM (fun δ' R' => R' = flR A.C a (sailS S b) ∧ δ'[7]? = some (some (.d (.int (thenM S b))))) ?_ ?_
  · refine x_ifI (b := decide (outB S b)) (et_or (et_test (ev_op (ev_var rfl) ev_int (rv_eq (.d _) (.d _) (dep_l (Nat.zero_le 60))))) fun _ => et_test (ev_op (ev_var rfl) (v_m_top (ev_var rfl) .one) (rv_eq (.d _) (.d _) (dep_l (Nat.zero_le 60))))) ?_ ?_ ?_
    · rw [eqv_int, eqv_int, Bool.eq_iff_iff, Bool.or_eq_true, decide_eq_true_eq, decide_eq_true_eq, decide_eq_true_eq]
      rfl
    · intro h
      have h := of_decide_eq_true h
      have hk : plc (pput S.places b (thenM S b)) b = some (thenM S b) := by
        have hb := key_mem hv
        have : (b, thenM S b) ∈ pput S.places b (thenM S b) := by
          unfold pput
          rw [if_pos (List.any_eq_true.mpr ⟨_, hm, by simp⟩)]
          refine List.mem_map.mpr ⟨_, hm, ?_⟩
          rw [if_pos rfl]
        have ks : (keysOf (pput S.places b (thenM S b))).Pairwise (· < ·) := by rw [pput_keys _ _ _ hb]; exact w.ks
        exact plc_of ks this
      refine x_seq (xf_pop (f_places fx (ev_var rfl) .one) (ev_var rfl) hk ?_)
      refine xf_done (f_done fx (ev_var rfl) .one) (ev_var rfl) (by show S.done.length < 50000; omega) ⟨?_, rfl⟩
      have e : sailS S b = { S with places := pdrop S.places b, done := S.done ++ [b] } := if_pos h
      rw [e]
      show flR A.C a { S with places := pdrop (pput S.places b (thenM S b)) b, done := S.done ++ [b] } = _
      rw [pdrop_put]
    · intro h
      have h := of_decide_eq_false h
      refine x_nil ⟨?_, rfl⟩
      have e : sailS S b = { S with places := pput S.places b (thenM S b) } := if_neg h
      rw [e]
  rintro δ' R' ⟨rfl, h7⟩
  exact x_ret (ev_var h7) n
theorem s_cost_of : Sem K (Φ_cost_of A) N_cost_of (t_cost_of K A) := by
  rintro E ds R N' M' ⟨bs, u, rfl, rfl, hne, n⟩
  refine x_seq ?_
  refine x_ifI (b := u) (by walk_at "et") (eqv_up u) ?_ ?_
  · intro hu
    refine' x_retI ?qa ?qb n
    case' qa => walk_at "ev"
    case qb =>
      have e := cutL_from bs 1
      rw [show cutL bs (some 1) none = bs.drop 1 from e, List.length_map]
      unfold costOf
      rw [if_pos hu]
  · intro hu
    refine x_nil ?_
    obtain ⟨b, hb⟩ : ∃ b, bs.getLast? = some b := ⟨_, List.getLast?_eq_some_getLast hne⟩
    refine' x_retI ?pa ?pb n
    case' pa => walk_at "ev"
    exact atI_back hb
    case pb =>
      unfold costOf
      rw [hu, hb]
      cases b <;> rfl
theorem s_behind : Sem K (Φ_behind A) N_behind (t_behind K A) := by
  rintro E ds R N' M' ⟨bs, u, rfl, rfl, n⟩
  refine' x_retFI ?qa ?qb n
  case' qa => walk_at "evf"
  case qb =>
    unfold behindOf
    rw [List.map_map]
    refine List.map_congr_left fun b _ => ?_
    show PyData.bool (PyData.eqv (sd u) (.str "up")) = .bool u
    rw [eqv_up]
theorem s_cost : Sem K (Φ_cost A) N_cost (t_cost K A) := by
  rintro E ds R N' M' ⟨bs, order, rfl, rfl, n, m⟩
  refine x_seq ?_
  refine x_dropE (N := fun _ R' => R' = [] ∧ 1 ≤ bs.length ∧ bs.length ≤ 8) (M := fun c R' => R' = [] ∧ c = .ref A.bf ∧ ¬ (1 ≤ bs.length ∧ bs.length ≤ 8)) (ee_callP (by walk_at "ea") ⟨_, rfl, rfl, fun h => ⟨rfl, by rw [List.length_map] at h; exact h⟩, fun h => ⟨rfl, rfl, by rw [List.length_map] at h; exact h⟩⟩ fun _ _ _ _ _ h => h) ?_ ?_
  · rintro d R' ⟨rfl, h⟩
    refine x_seq (x_asg ev_int ?_)
    refine x_seq ?_
    refine x_forI (xs := order) (enc := sd) (fun i δ' R' => R' = [] ∧ ∃ v, δ' = [some (.d (.list ((lvAt bs order i).map .bool))), some (.d (.list (order.map sd))), some (.d (.int (cAt bs order i))), v]) (by walk_at "ei") ⟨rfl, none, rfl⟩ ?_ ?_
    · rintro i u δ' R' hi ⟨rfl, v, rfl⟩
      refine ⟨_, eg_name, x_seq ?_⟩
      have hl := lvAt_len bs order i
      refine' x_asgI ?a1 ?a2 ?a3
      case' a1 => walk_at "ev"
      · intro z
        rw [z] at hl
        simp at hl
        omega
      case a2 => exact congrArg (fun z => D.d (.int z)) (cAt_step hi).symm
      case a3 =>
        refine' x_asgI (d := .d (.list ((lvAt bs order (i + 1)).map .bool))) ?b1 ?b2 ⟨rfl, _, rfl⟩
        case' b1 => walk_at "ev"
        case b2 => rw [lvAt_step hi]
    · rintro δ' R' ⟨rfl, v, rfl⟩
      refine' x_retI ?c1 ?c2 (n h)
      case' c1 => walk_at "ev"
      case c2 => rw [cAt_all]
  · rintro c R' ⟨rfl, rfl, h⟩
    exact m h
theorem s_filled : Sem K (Φ_filled A) N_filled (t_filled K A) := by
  rintro E ds R N' M' ⟨lv, c, rfl, rfl, hc, h8, n⟩
  refine x_seq (x_asg (ev_var rfl) ?_)
  refine x_seq ?_
  refine x_while (fun t δ' R' => ∃ k : Nat, k ≤ lv.length ∧ t = lv.length - k ∧ srcM lv k = srcM lv c ∧ R' = [] ∧ δ' = [some (.d (.list (lv.map .bool))), some (.d (.int c)), some (.d (.int k)), none]) (lv.length - c) ⟨c, hc, rfl, rfl, rfl, rfl⟩ ?_
  rintro t δ' R' ⟨k, hk, rfl, hs, rfl, rfl⟩
  by_cases hlt : k < lv.length
  · obtain ⟨b, hb⟩ : ∃ b, lv[k]? = some b := ⟨lv[k], List.getElem?_eq_getElem hlt⟩
    refine ⟨!b, et_is (et_and (a := true) (b := !b) (et_is (et_test (ev_op (ev_var rfl) (ev_lenL (ev_var rfl) (.d _)) rv_lt)) (by rw [List.length_map]; exact decide_eq_true (by omega))) fun _ => et_not (et_val (ev_op (ev_var rfl) (ev_var rfl) (rv_ixLM (.d _) (atI_some hb))))) rfl, fun hb' => ?_, fun hb' => ?_⟩
    · have e : b = false := by simpa using hb'
      subst e
      refine x_asg (d := .d (.int ((k + 1 : Nat) : Int))) (ev_is (ev_op (ev_var rfl) ev_int rv_plusI) (by rw [Int.natCast_add]; rfl)) ⟨lv.length - (k + 1), by omega, k + 1, by omega, rfl, by rw [← srcM_go hb]; exact hs, rfl, rfl⟩
    · have e : b = true := by simpa using hb'
      subst e
      have es := srcM_stop hb
      have q1 : k = srcM lv c := by rw [← hs, es]
      have q2 := srcM_ge lv c
      refine x_ret (ev_frz (evf_is (evf_lcI0 (xs := filledM lv c) (enc := fun g : Nat => .int g) (fun g => encDd (.lt g)) (ei_is (ei_revR (a := (c : Int)) (n := (k : Int) + 1) (ev_var rfl) (ev_op (ev_var rfl) ev_int rv_plusI) (by omega)) ?_) (by decide) fun g _ => ev_letP (ev_var rfl)) (by rw [List.map_map]; rfl))) n
      rw [show ((k : Int) + 1 - c).toNat = k + 1 - c by omega, rng_nat, ← List.map_reverse, q1]
      rfl
  · have ek : k = lv.length := by omega
    have es := srcM_end (lv := lv) (k := k) (by omega)
    have q1 : k = srcM lv c := by rw [← hs, es]
    have q2 := srcM_ge lv c
    refine ⟨false, et_is (et_and (a := false) (b := false) (et_is (et_test (ev_op (ev_var rfl) (ev_lenL (ev_var rfl) (.d _)) rv_lt)) (by rw [List.length_map]; exact decide_eq_false (by omega))) fun h => nomatch h) rfl, (fun h => nomatch h), fun _ => ?_⟩
    refine x_ret (ev_frz (evf_is (evf_lcI0 (xs := filledM lv c) (enc := fun g : Nat => .int g) (fun g => encDd (.lt g)) (ei_is (ei_revR (a := (c : Int)) (n := (k : Int) + 1) (ev_var rfl) (ev_op (ev_var rfl) ev_int rv_plusI) (by omega)) ?_) (by decide) fun g _ => ev_letP (ev_var rfl)) (by rw [List.map_map]; rfl))) n
    rw [show ((k : Int) + 1 - c).toNat = k + 1 - c by omega, rng_nat, ← List.map_reverse, q1]
    rfl
theorem s_emptied : Sem K (Φ_emptied A) N_emptied (t_emptied K A) := by
  rintro E ds R N' M' ⟨lv, c, rfl, rfl, h1, hc, h8, n⟩
  refine x_seq (x_asg (d := .d (.int ((c - 1 : Nat) : Int))) (ev_is (ev_op (ev_var rfl) ev_int rv_minus) (by rw [show ((c - 1 : Nat) : Int) = (c : Int) - 1 by omega])) ?_)
  refine x_seq ?_
  refine x_while (fun t δ' R' => ∃ k : Nat, k ≤ c - 1 ∧ t = k ∧ snkM lv k = snkM lv (c - 1) ∧ R' = [] ∧ δ' = [some (.d (.list (lv.map .bool))), some (.d (.int c)), some (.d (.int k)), none]) (c - 1) ⟨c - 1, Nat.le_refl _, rfl, rfl, rfl, rfl⟩ ?_
  rintro t δ' R' ⟨k, hk, rfl, hs, rfl, rfl⟩
  have fin : t = snkM lv (c - 1) → XS K (fun c d _ H => E c d H) [some (.d (.list (lv.map .bool))), some (.d (.int c)), some (.d (.int t)), none] [] (tRet (tLc (iRng2 (tCons (tVar 2) (tCons (tVar 1) tNil))) (gName 3) tYes (tTup (tCons (tC (.str "let")) (tCons (tVar 3) tNil))) [3])) (endsOf N' M') := by
    intro q1
    refine x_ret (ev_frz (evf_is (evf_lcI0 (xs := emptiedM lv c) (enc := fun g : Nat => .int g) (fun g => encDd (.lt g)) (ei_is (ei_rng2 (a := (t : Int)) (n := (c : Int)) (ev_var rfl) (ev_var rfl) (by omega)) ?_) (by decide) fun g _ => ev_letP (ev_var rfl)) (by rw [List.map_map]; rfl))) n
    rw [show ((c : Int) - t).toNat = c - t by omega, rng_nat, q1]
    rfl
  cases t with
  | zero =>
    refine ⟨false, et_is (et_and (a := false) (b := false) (et_test (ev_op (ev_var rfl) ev_int rv_gt)) fun h => nomatch h) rfl, (fun h => nomatch h), fun _ => fin ?_⟩
    rw [← hs]; rfl
  | succ k =>
    obtain ⟨b, hb⟩ : ∃ b, lv[k]? = some b := ⟨lv[k]'(by omega), List.getElem?_eq_getElem (by omega)⟩
    have hst : snkM lv (k + 1) = if lv[k]? = some true then snkM lv k else k + 1 := rfl
    refine ⟨b, et_is (et_and (a := true) (b := b) (et_is (et_test (ev_op (ev_var rfl) ev_int rv_gt)) (decide_eq_true (by omega))) fun _ => et_val (ev_op (ev_var rfl) (ev_op (ev_var rfl) ev_int rv_minus) (rv_ixLM (.d _) ?_))) rfl, fun hb' => ?_, fun hb' => ?_⟩
    · rw [show ((k + 1 : Nat) : Int) - 1 = (k : Nat) by omega]
      exact atI_some hb
    · subst hb'
      rw [if_pos hb] at hst
      refine x_asg (d := .d (.int (k : Nat))) (ev_is (ev_op (ev_var rfl) ev_int rv_minus) (by rw [show ((k + 1 : Nat) : Int) - 1 = (k : Nat) by omega])) ⟨k, by omega, k, by omega, rfl, by rw [← hs, hst], rfl, rfl⟩
    · subst hb'
      rw [if_neg (by rw [hb]; simp)] at hst
      exact fin (by rw [← hs, hst])
theorem s_let_all : Sem K (Φ_let_all A) N_let_all (t_let_all K A) := by
  rintro E ds R N' M' ⟨lv, gs, rfl, rfl, h8, hg, n⟩
  refine x_seq (x_asgF (evf_list (ev_var rfl) (.d _)) fun a => ?_)
  refine x_seq ?_
  refine x_forI (xs := gs) (enc := fun g => encDd (.lt g)) (fun i δ' R' => ∃ v, R' = [(a, .lst ((foldAt letL lv gs i).map .bool))] ∧ δ' = [some (.d (.list (lv.map .bool))), some (.d (.list ((gs.map Dd.lt).map encDd))), some (.r a), v]) (ei_is (ei_list (ev_var rfl)) (by rw [List.map_map]; rfl)) ⟨none, rfl, rfl⟩ ?_ ?_
  · rintro i g δ' R' hi ⟨v, rfl, rfl⟩
    refine ⟨_, eg_name, ?_⟩
    have st := foldAt_step (f := letL) (z := lv) hi
    have hl : (foldAt letL lv gs i).length = lv.length := letAll_len _ _
    generalize foldAt letL lv gs i = cur at *
    have hgl := hg g (List.mem_of_getElem? hi)
    have at1 : ∀ {δ : DEnv} {R : Res}, δ[3]? = some (some (.d (encDd (.lt g)))) → Ev K δ R (tOp (rIx K) (tVar 3) (tC (.int 1))) (.d (.int g)) := fun h => ev_op (ev_var h) ev_int (rv_ixT rfl)
    let mid : List Bool := if g < cur.length then cur.set g false else cur
    have hm : mid.length = cur.length := by show (if _ then _ else _ : List Bool).length = _; split <;> simp
    refine x_seqM (fun δ' R' => R' = [(a, .lst (mid.map .bool))] ∧ δ' = [some (.d (.list (lv.map .bool))), some (.d (.list ((gs.map Dd.lt).map encDd))), some (.r a), some (.d (encDd (.lt g)))]) ?_ ?_
    · refine x_ifI (b := decide (g < cur.length)) (et_test (ev_op (at1 rfl) (ev_lenL (ev_var rfl) (.own (i := 0) rfl)) rv_lt)) ?_ ?_ ?_
      · rw [List.length_map, Bool.eq_iff_iff, decide_eq_true_eq, decide_eq_true_eq]; omega
      · intro h
        have h := of_decide_eq_true h
        refine x_setL (i := 0) (j := g) (w := .bool false) ev_bl (ev_var rfl) (at1 rfl) rfl (by rw [List.length_map]; exact ixN_nat h) ⟨?_, rfl⟩
        show [(a, RO.lst ((cur.map PyData.bool).set g (.bool false)))] = [(a, .lst ((if g < cur.length then cur.set g false else cur).map .bool))]
        rw [if_pos h, List.map_set]
      · intro h
        have h := of_decide_eq_false h
        refine x_nil ⟨?_, rfl⟩
        show _ = [(a, RO.lst ((if g < cur.length then cur.set g false else cur).map .bool))]
        rw [if_neg h]
    · rintro δ' R' ⟨rfl, rfl⟩
      refine x_ifI (b := decide (0 < g)) (et_test (ev_op (at1 rfl) ev_int rv_gt)) ?_ ?_ ?_
      · rw [Bool.eq_iff_iff, decide_eq_true_eq, decide_eq_true_eq]; omega
      · intro h
        have h := of_decide_eq_true h
        refine x_setL (i := 0) (j := g - 1) (k := ((g - 1 : Nat) : Int)) (w := .bool true) ev_bl (ev_var rfl) (ev_is (ev_op (at1 rfl) ev_int rv_minus) (by rw [show ((g - 1 : Nat) : Int) = (g : Int) - 1 by omega])) rfl (by rw [List.length_map]; exact ixN_nat (by omega)) ⟨_, ?_, rfl⟩
        rw [st]
        show [(a, RO.lst ((mid.map PyData.bool).set (g - 1) (.bool true)))] = [(a, .lst ((letL cur g).map .bool))]
        unfold letL
        rw [if_pos h, List.map_set]
      · intro h
        have h := of_decide_eq_false h
        refine x_nil ⟨_, ?_, rfl⟩
        rw [st]
        show [(a, RO.lst (mid.map PyData.bool))] = [(a, .lst ((letL cur g).map .bool))]
        unfold letL
        rw [if_neg h]
  · rintro δ' R' ⟨v, rfl, rfl⟩
    rw [foldAt_all]
    exact x_frz (i := 2) rfl (x_ret (ev_var rfl) n)
theorem s_put : Sem K (Φ_put A) N_put (t_put K A) := by
  rintro E ds R N' M' ⟨st, gs, a, rfl, rfl, h8, hg, hgl, hd, n⟩
  refine x_seq (x_ext (i := 0) (ev_var rfl) rfl (ev_var rfl) (by rw [List.length_map, List.length_map, List.length_map]; omega) ?_)
  refine x_ret (ev_callP (ea_cons (ev_var rfl) (ea_cons (ev_var rfl) ea_nil)) ⟨st.1, gs, rfl, rfl, h8, hg, rfl, rfl⟩) ?_
  show N' _ [(a, RO.lst (st.2.map encDd ++ (gs.map Dd.lt).map encDd))]
  rw [← List.map_append]
  exact n
theorem s_passage_up : Sem K (Φ_passage_up A) N_passage_up (t_passage_up K A) := by
  rintro E ds R N' M' ⟨st, b, a, rfl, rfl, hl, hd, n⟩
  let st1 : LD := if st.1[0]? = some true then putM st (emptiedM st.1 1) else st
  obtain ⟨x, hx⟩ : ∃ x, st.1[0]? = some x := ⟨st.1[0], List.getElem?_eq_getElem (by omega)⟩
  have z0 : Sz st.1.length 30000 st := ⟨rfl, hd⟩
  have z1 : Sz st.1.length 30010 st1 := by
    show Sz _ _ (if _ then _ else _)
    split
    · exact (z0.put (gs := emptiedM st.1 1) (by have := emptied_len (lv := st.1) (c := 1) hl.1; omega)).mono (by omega)
    · exact z0.mono (by omega)
  refine x_seqM (fun δ' R' => R' = [(a, .lst (st1.2.map encDd))] ∧ δ' = [some (.d (.list (st1.1.map .bool))), some (.d (.int b)), some (.r a), none]) ?_ ?_
  · refine x_if (b := x) (et_val (ev_op (ev_var rfl) ev_int (rv_ixLM (.d _) (atI_some (i := 0) hx)))) ?_ ?_
    · intro hx'
      subst hx'
      have e : st1 = putM st (emptiedM st.1 1) := if_pos hx
      rw [e]
      exact x_puts rfl rfl (fun R => ev_callP (ea_cons (ev_var rfl) (ea_cons ev_int ea_nil)) (c_emptied (c := 1) (by omega) hl.1 hl.2 ⟨rfl, rfl⟩)) hl.2 (fun g hg => by have := emptied_le hg; omega) (by have := emptied_len (lv := st.1) (c := 1) hl.1; omega) (by omega) ⟨rfl, rfl⟩
    · intro hx'
      subst hx'
      have e : st1 = st := if_neg (by rw [hx]; simp)
      rw [e]
      exact x_nil ⟨rfl, rfl⟩
  rintro δ' R' ⟨rfl, rfl⟩
  refine x_seq (x_sails rfl rfl (by have := z1.d; omega) ?_)
  have z2 : Sz st.1.length 30011 (sailM b st1) := z1.sail
  have zi : ∀ i, i ≤ st.1.length → Sz st.1.length (30011 + i * 10) (foldAt (upStep b) (sailM b st1) (ups1 st.1.length) i) := by
    intro i hi
    have q := Sz.folds (b := b) (sz_up (b := b)) ((ups1 st.1.length).take i) _ _ (fun c hc => (mem_ups (List.mem_of_mem_take hc)).2) z2
    rw [List.length_take, ups1_len, Nat.min_eq_left hi] at q
    refine q.mono ?_
    have : i * (st.1.length + 2) ≤ i * 10 := Nat.mul_le_mul (Nat.le_refl _) (by omega)
    omega
  refine x_seq ?_
  refine x_forI (xs := ups1 st.1.length) (enc := fun g : Nat => .int g) (fun i δ' R' => ∃ v, R' = [(a, .lst ((foldAt (upStep b) (sailM b st1) (ups1 st.1.length) i).2.map encDd))] ∧ δ' = [some (.d (.list ((foldAt (upStep b) (sailM b st1) (ups1 st.1.length) i).1.map .bool))), some (.d (.int b)), some (.r a), v])
    (ei_is (ei_rng2 ev_int (ev_op (ev_lenL (ev_var rfl) (.d _)) ev_int rv_plusI) (by rw [List.length_map, z1.l]; omega)) (by rw [List.length_map, z1.l]; exact rng_ups _)) ⟨none, rfl, rfl⟩ ?_ ?_
  · rintro i c δ' R' hi ⟨v, rfl, rfl⟩
    refine ⟨_, eg_name, ?_⟩
    have il : i < st.1.length := by
      have := (List.getElem?_eq_some_iff.mp hi).1
      rw [ups1_len] at this; exact this
    have hcm := mem_ups (List.mem_of_getElem? hi)
    have stp := foldAt_step (f := upStep b) (z := sailM b st1) hi
    have z := zi i (by omega)
    generalize foldAt (upStep b) (sailM b st1) (ups1 st.1.length) i = cur at *
    have i8 : i * 10 ≤ 80 := by omega
    have zl := z.l
    have zd := z.d
    refine x_seq (x_puts (gs := filledM cur.1 c) rfl rfl (fun R => ev_callP (ea_cons (ev_var rfl) (ea_cons (ev_var rfl) ea_nil)) (c_filled (by omega) (by omega) ⟨rfl, rfl⟩)) (by omega) (fun g hg => (filled_le (by omega) hg).2) (by have := filled_len (lv := cur.1) (c := c) (by omega); omega) (by omega) ?_)
    refine x_sails (b := b) rfl rfl ?_ ⟨some (.d (.int (c : Nat))), ?_, ?_⟩
    · show (cur.2 ++ _).length < 50000
      rw [List.length_append, List.length_map]
      have := filled_len (lv := cur.1) (c := c) (by omega)
      omega
    · rw [stp]; rfl
    · rw [stp]; rfl
  · rintro δ' R' ⟨v, rfl, rfl⟩
    rw [foldAt_all]
    exact x_ret (ev_var rfl) n
theorem s_passage_down : Sem K (Φ_passage_down A) N_passage_down (t_passage_down K A) := by
  rintro E ds R N' M' ⟨st, b, a, rfl, rfl, hl, hd, n⟩
  let st1 : LD := if st.1.getLast? = some true then st else putM st (filledM st.1 st.1.length)
  have hne : st.1 ≠ [] := by intro z; rw [z] at hl; simp at hl
  obtain ⟨x, hx⟩ : ∃ x, st.1.getLast? = some x := ⟨_, List.getLast?_eq_some_getLast hne⟩
  have z0 : Sz st.1.length 30000 st := ⟨rfl, hd⟩
  have z1 : Sz st.1.length 30010 st1 := by
    show Sz _ _ (if _ then _ else _)
    split
    · exact z0.mono (by omega)
    · exact (z0.put (gs := filledM st.1 st.1.length) (filled_len (Nat.le_refl _))).mono (by omega)
  refine x_seqM (fun δ' R' => R' = [(a, .lst (st1.2.map encDd))] ∧ δ' = [some (.d (.list (st1.1.map .bool))), some (.d (.int b)), some (.r a), none]) ?_ ?_
  · refine x_if (b := !x) (et_not (et_val (ev_op (ev_var rfl) (ev_neg ev_int) (rv_ixLM (.d _) (atI_back hx))))) ?_ ?_
    · intro hx'
      have hx' : x = false := by simpa using hx'
      subst hx'
      have e : st1 = putM st (filledM st.1 st.1.length) := if_neg (by rw [hx]; simp)
      rw [e]
      exact x_puts rfl rfl (fun R => ev_callP (ds := [.d (.list (st.1.map .bool)), .d (.int (st.1.length : Nat))]) (ea_cons (ev_var rfl) (ea_cons (ev_is (ev_lenL (ev_var rfl) (.d _)) (by rw [List.length_map])) ea_nil)) (c_filled (Nat.le_refl _) hl.2 ⟨rfl, rfl⟩)) hl.2 (fun g hg => (filled_le (Nat.le_refl _) hg).2) (by have := filled_len (lv := st.1) (c := st.1.length) (Nat.le_refl _); omega) (by omega) ⟨rfl, rfl⟩
    · intro hx'
      have hx' : x = true := by simpa using hx'
      subst hx'
      have e : st1 = st := if_pos hx
      rw [e]
      exact x_nil ⟨rfl, rfl⟩
  rintro δ' R' ⟨rfl, rfl⟩
  refine x_seq (x_sails rfl rfl (by have := z1.d; omega) ?_)
  have z2 : Sz st.1.length 30011 (sailM b st1) := z1.sail
  have rl : (ups1 st.1.length).reverse.length = st.1.length := by rw [List.length_reverse, ups1_len]
  have zi : ∀ i, i ≤ st.1.length → Sz st.1.length (30011 + i * 10) (foldAt (downStep b) (sailM b st1) (ups1 st.1.length).reverse i) := by
    intro i hi
    have q := Sz.folds (b := b) (sz_down (b := b)) ((ups1 st.1.length).reverse.take i) _ _ (fun c hc => (mem_ups (List.mem_reverse.mp (List.mem_of_mem_take hc))).2) z2
    rw [List.length_take, rl, Nat.min_eq_left hi] at q
    refine q.mono ?_
    have : i * (st.1.length + 2) ≤ i * 10 := Nat.mul_le_mul (Nat.le_refl _) (by omega)
    omega
  refine x_seq ?_
  refine x_forI (xs := (ups1 st.1.length).reverse) (enc := fun g : Nat => .int g) (fun i δ' R' => ∃ v, R' = [(a, .lst ((foldAt (downStep b) (sailM b st1) (ups1 st.1.length).reverse i).2.map encDd))] ∧ δ' = [some (.d (.list ((foldAt (downStep b) (sailM b st1) (ups1 st.1.length).reverse i).1.map .bool))), some (.d (.int b)), some (.r a), v])
    (ei_is (ei_revR ev_int (ev_op (ev_lenL (ev_var rfl) (.d _)) ev_int rv_plusI) (by rw [List.length_map, z1.l]; omega)) (by rw [List.length_map, z1.l, rng_ups, List.map_reverse])) ⟨none, rfl, rfl⟩ ?_ ?_
  · rintro i c δ' R' hi ⟨v, rfl, rfl⟩
    refine ⟨_, eg_name, ?_⟩
    have il : i < st.1.length := by
      have := (List.getElem?_eq_some_iff.mp hi).1
      rw [rl] at this; exact this
    have hcm := mem_ups (List.mem_reverse.mp (List.mem_of_getElem? hi))
    have stp := foldAt_step (f := downStep b) (z := sailM b st1) hi
    have z := zi i (by omega)
    generalize foldAt (downStep b) (sailM b st1) (ups1 st.1.length).reverse i = cur at *
    have i8 : i * 10 ≤ 80 := by omega
    have zl := z.l
    have zd := z.d
    refine x_seq (x_puts (gs := emptiedM cur.1 c) rfl rfl (fun R => ev_callP (ea_cons (ev_var rfl) (ea_cons (ev_var rfl) ea_nil)) (c_emptied (by omega) (by omega) (by omega) ⟨rfl, rfl⟩)) (by omega) (fun g hg => by have := emptied_le hg; omega) (by have := emptied_len (lv := cur.1) (c := c) (by omega); omega) (by omega) ?_)
    refine x_sails (b := b) rfl rfl ?_ ⟨some (.d (.int (c : Nat))), ?_, ?_⟩
    · show (cur.2 ++ _).length < 50000
      rw [List.length_append, List.length_map]
      have := emptied_len (lv := cur.1) (c := c) (by omega)
      omega
    · rw [stp]; rfl
    · rw [stp]; rfl
  · rintro δ' R' ⟨v, rfl, rfl⟩
    rw [foldAt_all]
    exact x_ret (ev_var rfl) n
theorem s_plan : Sem K (Φ_plan A) N_plan (t_plan K A) := by
  rintro E ds R N' M' ⟨lv, order, rfl, rfl, ho, n, mm⟩
  refine x_seq ?_
  refine x_dropE (N := fun _ R' => R' = [] ∧ 1 ≤ lv.length ∧ lv.length ≤ 8) (M := fun c R' => R' = [] ∧ c = .ref A.bf ∧ ¬ (1 ≤ lv.length ∧ lv.length ≤ 8)) (ee_callP (by walk_at "ea") ⟨_, rfl, rfl, fun h => ⟨rfl, by rw [List.length_map] at h; exact h⟩, fun h => ⟨rfl, rfl, by rw [List.length_map] at h; exact h⟩⟩ fun _ _ _ _ _ h => h) ?_ ?_
  case refine_2 =>
    rintro c R' ⟨rfl, rfl, h⟩
    exact mm h
  rintro d R' ⟨rfl, h8⟩
  refine x_seq (x_asgF (evf_lst ex_nil (by decide)) fun a => ?_)
  refine x_seq ?_
  refine x_forI (xs := List.range order.length) (enc := fun g : Nat => .int g) (fun i δ' R' => ∃ v, R' = [(a, .lst ((planAt (lv, []) order i).2.map encDd))] ∧ δ' = [some (.d (.list ((planAt (lv, []) order i).1.map .bool))), some (.d (.list (order.map sd))), some (.r a), v])
    (ei_is (ei_rng1M (ev_lenL (ev_var rfl) (.d _)) (by rw [List.length_map]; omega)) (by rw [Int.toNat_natCast, List.length_map])) ⟨none, rfl, rfl⟩ ?_ ?_
  · rintro i k δ' R' hi ⟨v, rfl, rfl⟩
    refine ⟨_, eg_name, ?_⟩
    have il : i < order.length := by
      have := (List.getElem?_eq_some_iff.mp hi).1
      rw [List.length_range] at this; exact this
    have ek : k = i := by
      rw [List.getElem?_range il] at hi
      exact (Option.some.inj hi).symm
    subst ek
    obtain ⟨u, hu⟩ : ∃ u, order[k]? = some u := ⟨order[k], List.getElem?_eq_getElem il⟩
    have stp : planAt (lv, []) order (k + 1) = passM u (planAt (lv, []) order k) k := by
      show (match order[k]? with | some u => passM u (planAt (lv, []) order k) k | none => planAt (lv, []) order k) = _
      rw [hu]
    have z := sz_plan (order := order) (lv := lv) rfl h8 k (by omega)
    have zl := z.l
    have zd := z.d
    generalize planAt (lv, []) order k = cur at *
    refine x_ifI (b := u) (et_test (ev_op (ev_op (ev_var rfl) (ev_var rfl) (rv_ixLM (.d _) (atI_some hu))) ev_str (rv_eq (.d _) (.d _) (dep_l (Nat.zero_le 60))))) (eqv_up u) ?_ ?_
    · intro h
      subst h
      have e : passM true cur k = upM cur k := rfl
      refine x_asgE (M := fun _ _ => False) (N := fun d R' => d = .d (.list ((upM cur k).1.map .bool)) ∧ R' = [(a, .lst ((upM cur k).2.map encDd))]) (ee_call3 (ea_cons (ev_var rfl) (ea_cons (ev_var rfl) (ea_cons (ev_var rfl) ea_nil))) ⟨cur, k, a, rfl, rfl, ⟨by omega, by omega⟩, by omega, rfl, rfl⟩ fun _ _ _ _ h => h.elim) ?_ fun _ _ h => h.elim
      rintro d R' ⟨rfl, rfl⟩
      exact ⟨some (.d (.int (k : Nat))), by rw [stp, e], by rw [stp, e]; rfl⟩
    · intro h
      subst h
      have e : passM false cur k = downM cur k := rfl
      refine x_asgE (M := fun _ _ => False) (N := fun d R' => d = .d (.list ((downM cur k).1.map .bool)) ∧ R' = [(a, .lst ((downM cur k).2.map encDd))]) (ee_call3 (ea_cons (ev_var rfl) (ea_cons (ev_var rfl) (ea_cons (ev_var rfl) ea_nil))) ⟨cur, k, a, rfl, rfl, ⟨by omega, by omega⟩, by omega, rfl, rfl⟩ fun _ _ _ _ h => h.elim) ?_ fun _ _ h => h.elim
      rintro d R' ⟨rfl, rfl⟩
      exact ⟨some (.d (.int (k : Nat))), by rw [stp, e], by rw [stp, e]; rfl⟩
  · rintro δ' R' ⟨v, rfl, rfl⟩
    rw [List.length_range]
    exact x_ret (ev_var rfl) (n h8 a)
theorem s_law_cell_at : Sem K (Φ_law_cell_at A) N_law_cell_at (t_law_cell_at K A) := by
  rintro E ds R N' M' ⟨ns, k, rfl, rfl, h0, n⟩
  refine x_seq (x_if (b := decide (k < (ns.length : Int))) (by walk_at "et") (fun h => ?_) (fun h => x_nil ?_))
  · have h := of_decide_eq_true h
    have e : ns[k.toNat]? = some (cellI ns k) := by
      unfold cellI
      rw [List.getD_eq_getElem?_getD, List.getElem?_eq_getElem (by omega)]
      rfl
    have ek : ((k.toNat : Nat) : Int) = k := by omega
    refine' x_ret ?qa n
    refine' ev_op (x := .s ns) (y := .d (.int k)) ?qb ?qc (rv_ixs ?qd)
    case' qb => walk_at "ev"
    case' qc => walk_at "ev"
    case qd =>
      have q := atI_some e
      rw [ek] at q
      exact q
  · have h := of_decide_eq_false h
    have e : cellI ns k = 0 := by
      unfold cellI
      rw [List.getD_eq_getElem?_getD, List.getElem?_eq_none (by omega)]
      rfl
    refine x_ret ?_ n
    rw [e]
    exact ev_int
theorem s_law_whole : Sem K (Φ_law_whole A) N_law_whole (t_law_whole K A) := by
  rintro E ds R N' M' ⟨x, rfl, rfl, h, n⟩
  cases x with
  | dict _ => cases h
  | none =>
    refine x_ret (ev_is (ev_and (a := false) (b := false) (ev_isi (ev_var rfl) (.d _) rfl (by decide +kernel)) fun q => nomatch q) rfl) n
  | bool b =>
    refine x_ret (ev_is (ev_and (a := true) (b := false) (ev_isi (ev_var rfl) (.d _) rfl (by decide +kernel)) fun q => ev_not (b := true) (ev_isi (ev_var rfl) (.d _) rfl (by decide +kernel))) rfl) n
  | int i =>
    refine x_ret (ev_is (ev_and (a := true) (b := true) (ev_isi (ev_var rfl) (.d _) rfl (by decide +kernel)) fun q => ev_not (b := false) (ev_isi (ev_var rfl) (.d _) rfl (by decide +kernel))) rfl) n
  | str s =>
    refine x_ret (ev_is (ev_and (a := false) (b := false) (ev_isi (ev_var rfl) (.d _) rfl (by decide +kernel)) fun q => nomatch q) rfl) n
  | list s =>
    refine x_ret (ev_is (ev_and (a := false) (b := false) (ev_isi (ev_var rfl) (.d _) rfl (by decide +kernel)) fun q => nomatch q) rfl) n
  | tuple s =>
    refine x_ret (ev_is (ev_and (a := false) (b := false) (ev_isi (ev_var rfl) (.d _) rfl (by decide +kernel)) fun q => nomatch q) rfl) n
theorem s_law_levels : Sem K (Φ_law_levels A) N_law_levels (t_law_levels K A) := by
  rintro E ds R N' M' ⟨ns, k, rfl, rfl, h0, n⟩
  have hm := manyOf_le ns k
  refine x_seq ?_
  refine' x_asg (d := .d (.int (1 + cellI ns k % 4))) ?q1 ?q2
  case' q1 => walk_at "ev"
  refine x_seq ?_
  refine x_ifI (b := decide (cellI ns k / 4 % 5 = 1)) (by walk_at "et") (by rw [Bool.eq_iff_iff]; simp [PyData.eqv]) ?_ ?_
  all_goals intro hb
  · have hb' := of_decide_eq_true hb
    have em : 5 + cellI ns k / 20 % 4 = manyOf ns k := by unfold manyOf; rw [if_pos hb']
    refine' x_asgI (d := .d (.int (manyOf ns k))) ?q3 ?q3b ?q4
    case' q3 => walk_at "ev"
    case q3b => rw [em]
    refine x_seq ?_
    refine' x_asg ?q5 ?q6
    case' q5 => walk_at "ev"
    refine' x_retFI ?q7 ?q8 n
    case' q7 => walk_at "evf"
    · omega
    unfold lawLevels
    rw [List.map_map]
    refine List.map_congr_left fun i _ => ?_
    show PyData.bool (PyData.eqv _ _) = PyData.bool _
    rw [eqv_int, Int.toNat_natCast]
  · have hb' := of_decide_eq_false hb
    have em : 1 + cellI ns k % 4 = manyOf ns k := by unfold manyOf; rw [if_neg hb']
    rw [em]
    refine x_nil ?_
    refine x_seq ?_
    refine' x_asg ?q9 ?r1
    case' q9 => walk_at "ev"
    refine' x_retFI ?r2 ?r3 n
    case' r2 => walk_at "evf"
    · omega
    unfold lawLevels
    rw [List.map_map]
    refine List.map_congr_left fun i _ => ?_
    show PyData.bool (PyData.eqv _ _) = PyData.bool _
    rw [eqv_int, Int.toNat_natCast]
theorem s_law_order : Sem K (Φ_law_order A) N_law_order (t_law_order K A) := by
  rintro E ds R N' M' ⟨ns, k, m, rfl, rfl, h0, h1, h2, n⟩
  refine' x_retFI ?q1 ?q2 n
  case' q1 => walk_at "evf"
  · omega
  unfold lawOrder
  rw [List.map_map]
  rfl
theorem s_law_bools : Sem K (Φ_law_bools A) N_law_bools (t_law_bools K A) := by
  rintro E ds R N' M' ⟨xs, ys, rfl, rfl, n⟩
  refine x_seq (x_ifI (b := decide (xs.length ≠ ys.length)) (et_or (a := false) (b := decide (xs.length ≠ ys.length)) (et_not (b := true) (et_val (ev_isi (ev_var rfl) (.d _) rfl (by decide +kernel)))) fun _ => et_is (et_test (ev_op (ev_lenL (ev_var rfl) (.d _)) (ev_lenL (ev_var rfl) (.d _)) (rv_ne (.d _) (.d _) (dep_l (Nat.zero_le 60))))) ?_) rfl ?_ ?_)
  · rw [eqv_int, List.length_map, List.length_map, Bool.eq_iff_iff, Bool.not_eq_true', decide_eq_false_iff_not, decide_eq_true_eq]
    omega
  · intro h
    have h := of_decide_eq_true h
    refine x_retI ev_bl ?_ n
    rw [decide_eq_false (fun e : xs = ys => h (by rw [e]))]
  intro _
  refine x_nil ?_
  refine x_retI (ev_and (a := true) (b := decide (xs = ys)) (ev_is (ev_all (bs := xs.map fun _ => true) (ev_frz (evf_is (evf_lcI0 (xs := xs) (enc := PyData.bool) (fun _ => .bool true) (ei_list (ev_var rfl)) (by decide) fun x _ => ev_isi (ev_var rfl) (.d _) rfl (by decide +kernel)) (by rw [List.map_map]; rfl))) (.d _)) ?_) fun _ => ev_is (ev_op (ev_var rfl) (ev_var rfl) (rv_eq (.d _) (.d _) (dep_l (dep_map fun _ => Nat.zero_le 10)))) ?_) rfl n
  · rw [List.all_map]
    have e : (xs.all (id ∘ fun _ => true)) = true := List.all_eq_true.mpr fun _ _ => rfl
    rw [e]
  · rw [eqv_list, eqv_bools]
theorem s_law_numbers : Sem K (Φ_law_numbers A) N_law_numbers (t_law_numbers K A) := by
  rintro E ds R N' M' ⟨xs, ys, rfl, rfl, n⟩
  refine x_seq (x_ifI (b := decide (xs.length ≠ ys.length)) (et_or (a := false) (b := decide (xs.length ≠ ys.length)) (et_not (b := true) (et_val (ev_isi (ev_var rfl) (.d _) rfl (by decide +kernel)))) fun _ => et_is (et_test (ev_op (ev_lenL (ev_var rfl) (.d _)) (ev_lenL (ev_var rfl) (.d _)) (rv_ne (.d _) (.d _) (dep_l (Nat.zero_le 60))))) ?_) rfl ?_ ?_)
  · rw [eqv_int, List.length_map, List.length_map, Bool.eq_iff_iff, Bool.not_eq_true', decide_eq_false_iff_not, decide_eq_true_eq]
    omega
  · intro h
    have h := of_decide_eq_true h
    refine x_retI ev_bl ?_ n
    rw [decide_eq_false (fun e : xs = ys => h (by rw [e]))]
  intro _
  refine x_nil ?_
  refine x_retI (ev_and (a := true) (b := decide (xs = ys)) (ev_is (ev_all (bs := xs.map fun _ => true) (ev_frz (evf_is (evf_lcI0 (xs := xs) (enc := PyData.int) (fun _ => .bool true) (ei_list (ev_var rfl)) (by decide) fun x _ => ev_is (ev_callP (ea_cons (ev_var rfl) ea_nil) (c_law_whole rfl ⟨rfl, rfl⟩)) rfl) (by rw [List.map_map]; rfl))) (.d _)) ?_) fun _ => ev_is (ev_op (ev_var rfl) (ev_var rfl) (rv_eq (.d _) (.d _) (dep_l (dep_map fun _ => Nat.zero_le 10)))) ?_) rfl n
  · rw [List.all_map]
    have e : (xs.all (id ∘ fun _ => true)) = true := List.all_eq_true.mpr fun _ _ => rfl
    rw [e]
  · rw [eqv_list, eqv_ints]
theorem s_law_new : Sem K (Φ_law_new A) N_law_new (t_law_new K A) := by
  rintro E ds R N' M' ⟨lv, rfl, rfl, n⟩
  refine x_retE (M := fun _ _ => False) (N := fun d R' => ∃ a : Fa, d = .r a.f ∧ R' = stR a (newS lv)) (ee_new (lv := lv) (fun R => evf_list (ev_var rfl) (.d _)) fun a => ⟨a, rfl, List.append_nil _⟩) ?_ fun _ _ h => h.elim
  rintro d R' ⟨a, rfl, rfl⟩
  exact n a
theorem s_law_let_word : Sem K (Φ_law_let_word A) N_law_let_word (t_law_let_word K A) := by
  rintro E ds R N' M' ⟨a, S, g, rfl, rfl, h8, n⟩
  refine x_seq (x_asg (d := .d (.list (([false] ++ S.high ++ [true]).map .bool))) (ev_op (x := .d (.list (([false] ++ S.high).map .bool))) (y := .d (.list ([true].map .bool))) (ev_op (x := .d (.list ([false].map .bool))) (y := .r a.h) (ev_frz (evf_lst (ex_cons ev_bl ex_nil) (by decide))) (d_high (ev_var rfl) .one) (rv_of_F (rvf_plusM (.d _) (.mem (st_h .one)) (by show 1 + _ ≤ 50000; omega)))) (ev_frz (evf_lst (ex_cons ev_bl ex_nil) (by decide))) (rv_of_F (rvf_plusM (.d _) (.d _) (by rw [List.length_append]; show 1 + _ + 1 ≤ 50000; omega)))) ?_)
  refine x_seq (x_asg (d := .d (.int S.n)) (ev_is (ev_lenL (d_high (ev_var rfl) .one) (.mem (st_h .one))) (by rw [List.length_map]; rfl)) ?_)
  refine x_seq (x_ifI (b := decide (g < 0 ∨ S.n < g)) (et_or (et_test (ev_op (ev_var rfl) ev_int rv_lt)) fun _ => et_test (ev_op (ev_var rfl) (ev_var rfl) rv_gt)) ?_ ?_ ?_)
  · rw [Bool.eq_iff_iff, Bool.or_eq_true, decide_eq_true_eq, decide_eq_true_eq, decide_eq_true_eq]
  · intro h
    have h := of_decide_eq_true h
    have e : letW S g = 1 := if_pos h
    rw [e] at n
    exact x_ret ev_str n
  intro h
  have h := of_decide_eq_false h
  have h0 : 0 ≤ g ∧ g ≤ S.n := by omega
  have h1 : g ≤ (S.high.length : Int) := h0.2
  have eW : letW S g = if (g < S.n ∧ S.high.getD g.toNat true = false) ∨ (0 < g ∧ S.high.getD (g - 1).toNat false = true) then 2 else 0 := if_neg h
  refine x_nil ?_
  refine x_seq (x_ifI (b := decide ((g < S.n ∧ S.high.getD g.toNat true = false) ∨ (0 < g ∧ S.high.getD (g - 1).toNat false = true))) (et_or (a := !(S.high.getD g.toNat true)) (b := decide (0 < g) && S.high.getD (g - 1).toNat false) (et_not (et_val (ev_op (ev_var rfl) (ev_op (ev_var rfl) ev_int rv_plusI) (rv_ixLM (f := PyData.bool) (.d _) (ext_hi h0.1 h1))))) fun _ => et_and (et_test (ev_op (ev_var rfl) ev_int rv_gt)) fun hg => et_val (ev_op (ev_var rfl) (ev_var rfl) (rv_ixLM (f := PyData.bool) (.d _) (ext_lo (of_decide_eq_true hg) h1)))) ?_ ?_ ?_)
  · rw [Bool.eq_iff_iff, Bool.or_eq_true, Bool.and_eq_true, decide_eq_true_eq, decide_eq_true_eq, Bool.not_eq_true']
    constructor
    · rintro (q | q)
      · refine .inl ⟨?_, q⟩
        rcases Int.lt_or_le g S.n with z | z
        · exact z
        · rw [List.getD_eq_getElem?_getD, List.getElem?_eq_none (by unfold Fs.n at z; omega)] at q
          cases q
      · exact .inr q
    · rintro (q | q)
      · exact .inl q.2
      · exact .inr q
  · intro hf
    have e : letW S g = 2 := by rw [eW, if_pos (of_decide_eq_true hf)]
    rw [e] at n
    exact x_ret ev_str n
  · intro hf
    have e : letW S g = 0 := by rw [eW, if_neg (of_decide_eq_false hf)]
    rw [e] at n
    exact x_nil (x_ret ev_str n)
theorem s_law_let : Sem K (Φ_law_let A) N_law_let (t_law_let K A) := by
  rintro E ds R N' M' ⟨a, S, g, rfl, rfl, h0, h1, n⟩
  refine x_seq (x_asg (d := .d (.int S.n)) (ev_is (ev_lenL (d_high (ev_var rfl) .one) (.mem (st_h .one))) (by rw [List.length_map]; rfl)) ?_)
  let S1 : Fs := { S with high := if g.toNat < S.high.length then S.high.set g.toNat false else S.high }
  have hS1 : S1.high.length = S.high.length := by show (if _ then _ else _ : List Bool).length = _; split <;> simp
  refine x_seqM (fun δ' R' => R' = stR a S1 ∧ δ' = [some (.r a.f), some (.d (.int g)), some (.d (.int S.n))]) ?_ ?_
  · refine x_if (b := decide (g < S.n)) (et_test (ev_op (ev_var rfl) (ev_var rfl) rv_lt)) ?_ ?_
    · intro hg
      have hg := of_decide_eq_true hg
      have hlt : g.toNat < S.high.length := by unfold Fs.n at *; omega
      refine xs_high (j := g.toNat) ev_bl (d_high (ev_var rfl) .one) (ev_var rfl) (by have := ixN_nat hlt; rw [show ((g.toNat : Nat) : Int) = g by omega] at this; exact this) ⟨?_, rfl⟩
      have e : S1 = { S with high := S.high.set g.toNat false } := by
        show ({ S with high := _ } : Fs) = _
        rw [if_pos hlt]
      rw [e]
    · intro hg
      have hg := of_decide_eq_false hg
      refine x_nil ⟨?_, rfl⟩
      have e : S1 = S := by
        show ({ S with high := _ } : Fs) = _
        rw [if_neg (by unfold Fs.n at hg; omega)]
      rw [e]
  rintro δ' R' ⟨rfl, rfl⟩
  let S2 : Fs := { S with high := letL S.high g.toNat }
  refine x_seqM (fun δ' R' => R' = stR a S2 ∧ δ' = [some (.r a.f), some (.d (.int g)), some (.d (.int S.n))]) ?_ ?_
  · refine x_if (b := decide (0 < g)) (et_test (ev_op (ev_var rfl) ev_int rv_gt)) ?_ ?_
    · intro hg
      have hg := of_decide_eq_true hg
      have e1 : g - 1 = ((g.toNat - 1 : Nat) : Int) := by omega
      refine xs_high (j := g.toNat - 1) ev_bl (d_high (ev_var rfl) .one) (ev_op (ev_var rfl) ev_int rv_minus) (by rw [e1]; exact ixN_nat (by rw [hS1]; unfold Fs.n at *; omega)) ⟨?_, rfl⟩
      have e : S2 = { S1 with high := S1.high.set (g.toNat - 1) true } := by
        show ({ S with high := letL S.high g.toNat } : Fs) = _
        unfold letL
        rw [if_pos (by omega)]
      rw [e]
    · intro hg
      have hg := of_decide_eq_false hg
      refine x_nil ⟨?_, rfl⟩
      have e : S2 = S1 := by
        show ({ S with high := letL S.high g.toNat } : Fs) = _
        unfold letL
        rw [if_neg (by omega)]
      rw [e]
  rintro δ' R' ⟨rfl, rfl⟩
  refine x_seq (xs_drawn (t := S.taken + (if g = S.n then 1 else 0)) (ev_var rfl) (ev_is (ev_op (d_drawn (ev_var rfl) .one) (ev_int1 (ev_is (ev_op (ev_var rfl) (ev_var rfl) (rv_eq (.d _) (.d _) (dep_l (Nat.zero_le 60)))) (by rw [eqv_int]))) rv_plusI) ?_) ?_)
  · by_cases h : g = S.n
    · rw [decide_eq_true h, if_pos h]; rfl
    · rw [decide_eq_false h, if_neg h]; rfl
  refine xs_out (t := S.given + (if g = 0 then 1 else 0)) (ev_var rfl) (ev_is (ev_op (d_out (ev_var rfl) .one) (ev_int1 (ev_is (ev_op (ev_var rfl) ev_int (rv_eq (.d _) (.d _) (dep_l (Nat.zero_le 60)))) (by rw [eqv_int]))) rv_plusI) ?_) n
  · by_cases h : g = 0
    · rw [decide_eq_true h, if_pos h]; rfl
    · rw [decide_eq_false h, if_neg h]; rfl
theorem s_law_then : Sem K (Φ_law_then A) N_law_then (t_law_then K A) := by
  rintro E ds R N' M' ⟨a, S, b, v, rfl, rfl, hv, hb, n⟩
  refine x_retI (ev_op (d_plc (d_places (ev_var rfl) .one) (ev_var rfl) (st_p .one) hv) (ev_pairB (b := !(sideOf S b)) ev_int (ev_neg ev_int) (ev_is (ev_op (ev_at (g := sd) (d_sides (ev_var rfl) .one) (ev_var rfl) (st_s .one) (side_at hb.1 hb.2)) ev_str (rv_eq (.d _) (.d _) (dep_l (Nat.zero_le 60)))) (by rw [eqv_down]))) (z := .d (.int (thenM S b))) ?_) rfl n
  rw [then_eq hv]
  cases sideOf S b
  · exact rv_plusI
  · exact rv_plusI
theorem s_law_sail_word : Sem K (Φ_law_sail_word A) N_law_sail_word (t_law_sail_word K A) := by
  rintro E ds R N' M' ⟨a, S, b, rfl, rfl, w, n⟩
  have h8 := w.n8
  have nn : 0 ≤ S.n := by unfold Fs.n; omega
  refine x_seq (x_asg (d_places (ev_var rfl) .one) ?_)
  refine x_seq (x_if (et_val (d_nin (ev_var rfl) (ev_var rfl) (st_p .one))) ?_ ?_)
  · intro h
    have e : plc S.places b = none := by
      cases q : plc S.places b with
      | none => rfl
      | some v => rw [q] at h; cases h
    have e3 : sailW S b = 3 := if_pos e
    rw [e3] at n
    exact x_ret ev_str n
  intro h
  obtain ⟨v, hv⟩ : ∃ v, plc S.places b = some v := by
    cases q : plc S.places b with
    | none => rw [q] at h; cases h
    | some v => exact ⟨v, rfl⟩
  have hm := plc_mem hv
  have kb := w.kb _ hm
  dsimp only at kb
  have gt := w.gate hv
  have eh := here_of hv
  have e3 : sailW S b = if notFirst S b = true then 4 else if levB S (gateM S b) = false then 5 else if (0 < thenM S b ∧ thenM S b ≤ S.n) ∧ occB S (thenM S b) = true then 6 else 0 := if_neg (by rw [hv]; simp)
  refine x_nil ?_
  refine x_seq (x_asg (d_plc (ev_var rfl) (ev_var rfl) (st_p .one) hv) ?_)
  refine x_seq (x_asg (d := .d (.int S.n)) (ev_is (ev_lenL (d_high (ev_var rfl) .one) (.mem (st_h .one))) (by rw [List.length_map]; rfl)) ?_)
  refine x_seq (x_asg (ev_at (g := sd) (d_sides (ev_var rfl) .one) (ev_var rfl) (st_s .one) (side_at kb.1 kb.2)) ?_)
  refine x_seq (x_asg (d := .d (.list ((aheadM S b).map .int))) (ev_frz (evf_lcI (xs := keysOf S.places) (enc := PyData.int) (fun o => decide (plc S.places o = some (hereM S b)) && ((sideOf S o == sideOf S b) && decide (o < b))) PyData.int (ei_list (ev_frz (f_keys (ev_var rfl) (st_p .one)))) (by decide) (fun o ho => ?q1) fun o _ _ => ev_var rfl)) ?_)
  case q1 =>
    obtain ⟨x, hx, hmx⟩ := w.at_ ho
    have kx := w.kb _ hmx
    dsimp only at kx
    refine et_and (et_is (et_test (ev_op (d_plc (ev_var rfl) (ev_var rfl) (st_p .one) hx) (ev_var rfl) (rv_eq (.d _) (.d _) (dep_l (Nat.zero_le 60))))) ?_) fun _ => et_and (et_is (et_test (ev_op (ev_at (g := sd) (d_sides (ev_var rfl) .one) (ev_var rfl) (st_s .one) (side_at kx.1 kx.2)) (ev_var rfl) (rv_eq (.d _) (.d _) (dep_l (Nat.zero_le 60))))) (eqv_sd _ _)) fun _ => et_test (ev_op (ev_var rfl) (ev_var rfl) rv_lt)
    rw [eqv_int, hx, eh, Bool.eq_iff_iff, decide_eq_true_eq, decide_eq_true_eq]
    exact ⟨fun e => by rw [e], fun e => Option.some.inj e⟩
  refine x_seq (x_ifI (b := notFirst S b) (et_and (a := decide (v = 0) || decide (v = S.n + 1)) (b := !(aheadM S b).isEmpty) (et_is (et_test (ev_op (ev_var rfl) (ev_tup (xs := [.int 0, .int (S.n + 1)]) (ex_cons ev_int (ex_cons (ev_op (ev_var rfl) ev_int rv_plusI) ex_nil)) (by simp)) (rv_in (.d _) (.t _) (Nat.le_trans (Nat.min_le_right _ _) (Nat.zero_le 60))))) ?q2) fun _ => et_is (et_test (ev_op (ev_lenL (ev_var rfl) (.d _)) ev_int rv_gt)) ?q3) (by unfold notFirst; rw [eh]) ?_ ?_)
  case q2 =>
    show (PyData.eqv (.int 0) (.int v) || (PyData.eqv (.int (S.n + 1)) (.int v) || false)) = _
    rw [eqv_int, eqv_int, Bool.or_false]
    rw [Bool.eq_iff_iff, Bool.or_eq_true, Bool.or_eq_true, decide_eq_true_eq, decide_eq_true_eq, decide_eq_true_eq, decide_eq_true_eq]
    omega
  case q3 =>
    rw [List.length_map]
    cases aheadM S b with
    | nil => rfl
    | cons x r =>
      show decide ((0 : Int) < ((r.length + 1 : Nat) : Int)) = true
      rw [decide_eq_true_eq]; omega
  · intro h
    have e4 : sailW S b = 4 := by rw [e3, if_pos h]
    rw [e4] at n
    exact x_ret ev_str n
  intro h4
  have e4 : sailW S b = if levB S (gateM S b) = false then 5 else if (0 < thenM S b ∧ thenM S b ≤ S.n) ∧ occB S (thenM S b) = true then 6 else 0 := by rw [e3, if_neg (by rw [h4]; simp)]
  refine x_nil ?_
  refine x_seq (x_asg (d := .d (.int (gateM S b))) (ev_is (ev_min2 (ev_var rfl) (v_law_then hv kb (ev_var rfl) (ev_var rfl) .one)) ?q4) ?_)
  case q4 =>
    refine congrArg (fun i => D.d (.int i)) ?_
    rw [then_eq hv, gate_eq hv]
    cases sideOf S b with
    | true => rw [if_pos rfl, if_pos rfl, if_neg (by omega)]
    | false => rw [if_neg Bool.false_ne_true, if_neg Bool.false_ne_true, if_pos (by omega)]; omega
  refine x_seq (x_asg (d := .d (.list (([true] ++ S.high ++ [false]).map .bool))) (ev_op (x := .d (.list (([true] ++ S.high).map .bool))) (y := .d (.list ([false].map .bool))) (ev_op (x := .d (.list ([true].map .bool))) (y := .r a.h) (ev_frz (evf_lst (ex_cons ev_bl ex_nil) (by decide))) (d_high (ev_var rfl) .one) (rv_of_F (rvf_plusM (.d _) (.mem (st_h .one)) (by show 1 + _ ≤ 50000; omega)))) (ev_frz (evf_lst (ex_cons ev_bl ex_nil) (by decide))) (rv_of_F (rvf_plusM (.d _) (.d _) (by rw [List.length_append]; show 1 + _ + 1 ≤ 50000; omega)))) ?_)
  have gl : gateM S b ≤ (S.high.length : Int) := gt.2.1
  refine x_seq (x_ifI (b := !(levB S (gateM S b))) (et_or (a := !(decide (gateM S b = 0) || S.high.getD (gateM S b - 1).toNat true)) (b := S.high.getD (gateM S b).toNat false) (et_not (et_val (ev_op (ev_var rfl) (ev_var rfl) (rv_ixLM (f := PyData.bool) (.d _) ?q5)))) fun _ => et_val (ev_op (ev_var rfl) (ev_op (ev_var rfl) ev_int rv_plusI) (rv_ixLM (f := PyData.bool) (.d _) (ext_hi gt.1 gl)))) ?q6 ?_ ?_)
  case q5 =>
    by_cases h : gateM S b = 0
    · rw [h]
      show atI _ 0 = some true
      exact ext_0
    · rw [decide_eq_false h]
      exact ext_lo (by omega) gl
  case q6 =>
    unfold levB
    rw [Bool.not_and]
    congr 1
    by_cases h : gateM S b = S.n
    · rw [decide_eq_true h, List.getD_eq_getElem?_getD, List.getElem?_eq_none (by unfold Fs.n at h; omega)]; rfl
    · rw [decide_eq_false h, Bool.false_or, Bool.not_not]
  · intro h
    have h : levB S (gateM S b) = false := by simpa using h
    have e5 : sailW S b = 5 := by rw [e4, if_pos h]
    rw [e5] at n
    exact x_ret ev_str n
  intro h5
  have h5 : levB S (gateM S b) = true := by simpa using h5
  have e5 : sailW S b = if (0 < thenM S b ∧ thenM S b ≤ S.n) ∧ occB S (thenM S b) = true then 6 else 0 := by rw [e4, if_neg (by rw [h5]; simp)]
  refine x_nil ?_
  refine x_seq (x_asg (v_law_then hv kb (ev_var rfl) (ev_var rfl) .one) ?_)
  refine x_seq (x_ifI (b := decide ((0 < thenM S b ∧ thenM S b ≤ S.n) ∧ occB S (thenM S b) = true)) (et_and (a := decide (0 < thenM S b ∧ thenM S b ≤ S.n)) (b := occB S (thenM S b)) (et_is (et_test (ev_chain ev_int (ev_var rfl) rv_lt fun _ => ⟨ev_var rfl, rv_le⟩)) ?q7) fun _ => et_is (et_test (ev_op (y := .d (.list ((S.places.map (·.2)).map .int))) (ev_var rfl) (ev_frz (evf_is (evf_lcI0 (xs := S.places) (enc := fun q => .int q.1) (fun q => .int q.2) (ei_is (ei_list (ev_frz (f_keys (ev_var rfl) (st_p .one)))) (by rw [List.map_map]; rfl)) (by decide) fun q hq => d_plc (ev_var rfl) (ev_var rfl) (st_p .one) (plc_of w.ks hq)) (by rw [List.map_map]; rfl))) (rv_in (.d _) (.l (.d _)) (Nat.le_trans (Nat.min_le_right _ _) (Nat.zero_le 60))))) ?q8) ?_ ?_ ?_)
  case q7 =>
    rw [Bool.eq_iff_iff, Bool.and_eq_true, decide_eq_true_eq, decide_eq_true_eq, decide_eq_true_eq]
  case q8 =>
    unfold occB
    rw [List.any_map, List.any_map]
    congr 1
  · rw [Bool.eq_iff_iff, Bool.and_eq_true, decide_eq_true_eq, decide_eq_true_eq]
  · intro h
    have e6 : sailW S b = 6 := by rw [e5, if_pos (of_decide_eq_true h)]
    rw [e6] at n
    exact x_ret ev_str n
  · intro h
    have e6 : sailW S b = 0 := by rw [e5, if_neg (of_decide_eq_false h)]
    rw [e6] at n
    exact x_nil (x_ret ev_str n)
theorem s_law_sail : Sem K (Φ_law_sail A) N_law_sail (t_law_sail K A) := by
  rintro E ds R N' M' ⟨a, S, b, rfl, rfl, w, h0, n⟩
  obtain ⟨v, hv, _⟩ := sailW_zero h0
  have pl := w.pl100
  have dl := w.dl100
  have hm := plc_mem hv
  have kb := w.kb _ hm
  dsimp only at kb
  refine x_seq (x_asg (v_law_then hv kb (ev_var rfl) (ev_var rfl) .one) ?_)
  refine x_seq (xs_put (d_places (ev_var rfl) .one) (ev_var rfl) (ev_var rfl) (by omega) ?_)
  refine x_seqM (fun δ' R' => R' = stR a (sailS S b) ∧ δ' = [some (.r a.f), some (.d (.int b)), some (.d (.int (thenM S b)))]) ?_ ?_
  · refine x_ifI (b := decide (outB S b)) (et_or (et_test (ev_op (ev_var rfl) ev_int (rv_eq (.d _) (.d _) (dep_l (Nat.zero_le 60))))) fun _ => et_test (ev_op (y := .d (.int (S.n + 1))) (ev_var rfl) (ev_op (ev_is (ev_lenL (d_high (ev_var rfl) .one) (.mem (st_h .one))) (by rw [List.length_map]; rfl)) ev_int rv_plusI) (rv_eq (.d _) (.d _) (dep_l (Nat.zero_le 60))))) ?_ ?_ ?_
    · rw [eqv_int, eqv_int, Bool.eq_iff_iff, Bool.or_eq_true, decide_eq_true_eq, decide_eq_true_eq, decide_eq_true_eq]
      rfl
    · intro h
      have h := of_decide_eq_true h
      refine x_seq (xs_pop (d_places (ev_var rfl) .one) (ev_var rfl) (put_plc w hv) ?_)
      refine xs_done (d_through (ev_var rfl) .one) (ev_var rfl) (by show S.done.length < 50000; omega) ⟨?_, rfl⟩
      have e : sailS S b = { S with places := pdrop S.places b, done := S.done ++ [b] } := if_pos h
      rw [e]
      show stR a { S with places := pdrop (pput S.places b (thenM S b)) b, done := S.done ++ [b] } = _
      rw [pdrop_put]
    · intro h
      have h := of_decide_eq_false h
      refine x_nil ⟨?_, rfl⟩
      have e : sailS S b = { S with places := pput S.places b (thenM S b) } := if_neg h
      rw [e]
  rintro δ' R' ⟨rfl, rfl⟩
  exact x_ret (ev_var rfl) n
theorem s_law_come : Sem K (Φ_law_come A) N_law_come (t_law_come K A) := by
  rintro E ds R N' M' ⟨a, S, u, rfl, rfl, w, n⟩
  have pl := w.pl100
  have s100 := w.s100
  refine x_seq (x_asg (d := .d (.int S.sides.length)) (ev_is (ev_lenL (d_sides (ev_var rfl) .one) (.mem (st_s .one))) (by rw [List.length_map])) ?_)
  refine x_seq (xs_sides (d_sides (ev_var rfl) .one) (ev_var rfl) (by omega) ?_)
  refine x_seq (xs_put (S := { S with sides := S.sides ++ [u] }) (v := startOf S u) (d_places (ev_var rfl) .one) (ev_var rfl) (ev_is (ev_pairB (b := !u) (x := .int 0) (y := .int (S.n + 1)) ev_int (ev_op (ev_is (ev_lenL (d_high (ev_var rfl) .one) (.mem (st_h .one))) (by rw [List.length_map]; rfl)) ev_int rv_plusI) (ev_is (ev_op (ev_var rfl) ev_str (rv_eq (.d _) (.d _) (dep_l (Nat.zero_le 60)))) (by rw [eqv_down]))) (by unfold startOf; cases u <;> rfl)) (by show S.places.length < 50000; omega) ?_)
  show XS K _ _ (stR a { S with sides := S.sides ++ [u], places := pput S.places S.sides.length (startOf S u) }) _ _
  have e : pput S.places S.sides.length (startOf S u) = S.places ++ [((S.sides.length : Int), startOf S u)] := by
    unfold pput
    rw [if_neg]
    intro h
    obtain ⟨q, hq, e⟩ := List.any_eq_true.mp h
    have := of_decide_eq_true e
    have := w.kb q hq
    omega
  rw [e]
  exact x_ret (ev_var rfl) n
theorem s_law_stands : Sem K (Φ_law_stands A) N_law_stands (t_law_stands K A) := by
  rintro E ds R N' M' ⟨a, s, S, rfl, rfl, w, n⟩
  have i1 : Inn (flR A.C a S) (flR A.C a S ++ stR s S) _ := .here _
  have i2 : Inn (stR s S) (flR A.C a S ++ stR s S) _ := .there _ .one
  refine x_seq (x_if (b := false) (et_not (b := true) (et_is (et_val (v_law_bools (xs := S.high) (ys := S.high) (ev_frz (v_m_levels (ev_var rfl) i1)) (.d _) (d_high (ev_var rfl) i2) (.mem (st_h i2)))) (decide_eq_true rfl))) (fun h => nomatch h) fun _ => x_nil ?_)
  refine x_seq ?_
  refine x_forI (xs := [true, false]) (enc := sd) (fun i δ' R' => ∃ v1 v2 v3, R' = flR A.C a S ++ stR s S ∧ δ' = [some (.r a.f), some (.r s.f), v1, v2, v3, none, none]) (ei_list (ev_frz (evf_lst (ex_cons ev_str (ex_cons ev_str ex_nil)) (by decide)))) ⟨none, none, none, rfl, rfl⟩ ?_ ?_
  · rintro i u δ' R' hi ⟨v1, v2, v3, rfl, rfl⟩
    refine ⟨_, eg_name, ?_⟩
    refine x_seq (x_asg (d := .d (.int (startOf S u))) (ev_is (ev_pairB (b := !u) (x := .int 0) (y := .int (S.n + 1)) ev_int (ev_op (ev_is (ev_lenL (d_high (ev_var rfl) i2) (.mem (st_h i2))) (by rw [List.length_map]; rfl)) ev_int rv_plusI) (ev_is (ev_op (ev_var rfl) ev_str (rv_eq (.d _) (.d _) (dep_l (Nat.zero_le 60)))) (by rw [eqv_down]))) (by unfold startOf; cases u <;> rfl)) ?_)
    refine x_seq (x_asg (d := .d (.list (((keysOf S.places).filter fun b => decide (plc S.places b = some (startOf S u))).map .int))) (ev_frz (evf_lcI (xs := keysOf S.places) (enc := PyData.int) (fun b => decide (plc S.places b = some (startOf S u))) PyData.int (ei_list (ev_frz (evf_sorted (ev_frz (f_keys (d_places (ev_var rfl) i2) (st_p i2))) (.d _) (List.Perm.refl _) (w.ks.imp fun h => Int.le_of_lt h)))) (by decide) (fun b hb => ?q1) fun b hb _ => ev_var rfl)) ?_)
    case q1 =>
      obtain ⟨v, hv, hm⟩ := w.at_ hb
      refine et_is (et_test (ev_op (d_plc (d_places (ev_var rfl) i2) (ev_var rfl) (st_p i2) hv) (ev_var rfl) (rv_eq (.d _) (.d _) (dep_l (Nat.zero_le 60))))) ?_
      rw [eqv_int, hv, Bool.eq_iff_iff, decide_eq_true_eq, decide_eq_true_eq]
      exact ⟨fun e => by rw [e], fun e => Option.some.inj e⟩
    refine x_seq (x_asg (d := .d (.list ((waitM S u).map .int))) (ev_frz (evf_lcI (xs := (keysOf S.places).filter fun b => decide (plc S.places b = some (startOf S u))) (enc := PyData.int) (fun b => sideOf S b == u) PyData.int (ei_list (ev_var rfl)) (by decide) (fun b hb => ?q2) fun b hb _ => ev_var rfl)) ?_)
    case q2 =>
      obtain ⟨v, hv, hm⟩ := w.at_ (List.mem_filter.mp hb).1
      have kb := w.kb _ hm
      refine et_is (et_test (ev_op (ev_at (g := sd) (d_sides (ev_var rfl) i2) (ev_var rfl) (st_s i2) (side_at kb.1 kb.2)) (ev_var rfl) (rv_eq (.d _) (.d _) (dep_l (Nat.zero_le 60))))) ?_
      rw [eqv_sd]
    exact x_if (b := false) (et_not (b := true) (et_is (et_val (v_law_numbers (xs := waitM S u) (ys := waitM S u) (ev_frz (v_m_waiting w (ev_var rfl) (ev_var rfl) i1)) (.d _) (ev_var rfl) (.d _))) (decide_eq_true rfl))) (fun h => nomatch h) fun _ => x_nil ⟨_, _, _, rfl, rfl⟩
  rintro δ' R' ⟨v1, v2, v3, rfl, rfl⟩
  refine x_seq (x_asgF (evf_is (evf_lcR0 (i := 6) (d_high (ev_var rfl) i2) rfl (by decide) fun u => ev_non) (by rw [List.length_map])) fun b => ?_)
  refine x_seq ?_
  refine x_forI (xs := S.places) (enc := fun q => .int q.1) (fun i δ' R' => ∃ v v1 v2, R' = (b, .lst ((foldAt (boatStep S.high.length) (List.replicate S.high.length none) S.places i).map optD)) :: (flR A.C a S ++ stR s S) ∧ δ' = [some (.r a.f), some (.r s.f), v1, v2, some (.r b), v, none])
    (ei_is (ei_list (ev_frz (f_keys (d_places (ev_var rfl) (.cons _ i2)) (st_p (.cons _ i2))))) (by rw [List.map_map]; rfl)) ⟨none, _, _, by show (b, RO.lst (List.replicate _ PyData.none)) :: _ = (b, .lst ((List.replicate _ none).map optD)) :: _; rw [List.map_replicate]; rfl, rfl⟩ ?_ ?_
  · rintro i q δ' R' hi ⟨v, v1, v2, rfl, rfl⟩
    refine ⟨_, eg_name, ?_⟩
    have stp := foldAt_step (f := boatStep S.high.length) (z := List.replicate S.high.length none) hi
    have hl : (foldAt (boatStep S.high.length) (List.replicate S.high.length none) S.places i).length = S.high.length := by
      unfold foldAt
      rw [boats_len, List.length_replicate]
    generalize foldAt (boatStep S.high.length) (List.replicate S.high.length none) S.places i = cur at *
    have hq : plc S.places q.1 = some q.2 := plc_of w.ks (List.mem_of_getElem? hi)
    have inn : Inn (stR s S) ((b, RO.lst (cur.map optD)) :: (flR A.C a S ++ stR s S)) _ := .cons _ i2
    have at1 : ∀ {δ : DEnv}, δ[1]? = some (some (.r s.f)) → δ[5]? = some (some (.d (.int q.1))) → Ev K δ ((b, RO.lst (cur.map optD)) :: (flR A.C a S ++ stR s S)) (tDGet (tDGet (tVar 1) (tC (.str "places"))) (tVar 5)) (.d (.int q.2)) := fun h0 h2 => d_plc (d_places (ev_var h0) inn) (ev_var h2) (st_p inn) hq
    refine x_ifI (b := decide (0 < q.2 ∧ q.2 < S.n + 1)) (et_test (ev_chain ev_int (at1 rfl rfl) rv_lt fun _ => ⟨ev_lenL (ev_var rfl) (.mem List.mem_cons_self), rv_le⟩)) (by rw [List.length_map, hl, Bool.eq_iff_iff, Bool.and_eq_true, decide_eq_true_eq, decide_eq_true_eq, decide_eq_true_eq]; unfold Fs.n; omega) ?_ ?_
    · intro h
      have h := of_decide_eq_true h
      refine x_setL (i := 0) (j := (q.2 - 1).toNat) (w := optD (some q.1)) (ev_var rfl) (ev_var rfl) (ev_op (at1 rfl rfl) ev_int rv_minus) rfl ?_ ⟨_, _, _, ?_, rfl⟩
      · rw [List.length_map, hl]
        have e : q.2 - 1 = (((q.2 - 1).toNat : Nat) : Int) := by omega
        rw [e]
        refine ixN_nat ?_
        unfold Fs.n at h; omega
      · rw [stp]
        show (b, RO.lst ((cur.map optD).set _ (optD (some q.1)))) :: (flR A.C a S ++ stR s S) = (b, .lst ((if 0 < q.2 ∧ q.2 < (S.high.length : Int) + 1 then cur.set (q.2 - 1).toNat (some q.1) else cur).map optD)) :: (flR A.C a S ++ stR s S)
        rw [if_pos (show 0 < q.2 ∧ q.2 < (S.high.length : Int) + 1 from h), List.map_set]
    · intro h
      have h := of_decide_eq_false h
      refine x_nil ⟨_, _, _, ?_, rfl⟩
      rw [stp]
      show _ = (b, RO.lst ((if 0 < q.2 ∧ q.2 < (S.high.length : Int) + 1 then cur.set (q.2 - 1).toNat (some q.1) else cur).map optD)) :: (flR A.C a S ++ stR s S)
      rw [if_neg (show ¬ (0 < q.2 ∧ q.2 < (S.high.length : Int) + 1) from h)]
  rintro δ' R' ⟨v, v1, v2, rfl, rfl⟩
  rw [foldAt_all]
  have j1 : Inn (flR A.C a S) ((b, RO.lst ((boatsM S).map optD)) :: (flR A.C a S ++ stR s S)) _ := .cons _ i1
  have j2 : Inn (stR s S) ((b, RO.lst ((boatsM S).map optD)) :: (flR A.C a S ++ stR s S)) _ := .cons _ i2
  show XS K _ _ ((b, RO.lst ((boatsM S).map optD)) :: (flR A.C a S ++ stR s S)) _ _
  refine x_seq (x_if (b := false) ?q3 (fun h => nomatch h) fun _ => x_nil ?_)
  case q3 =>
    refine et_or (a := false) (b := false) ?w1 fun _ => ?w2
    case w1 =>
      refine et_is (et_test (ev_op (x := .d (.list ((boatsM S).map optD))) (ev_frz (v_m_boats w (ev_var rfl) j1)) (ev_var rfl) (rv_ne (.d _) (.mem List.mem_cons_self) (dep_l (dep_map fun x => by cases x <;> exact Nat.zero_le 10))))) ?_
      rw [eqv_optD]; simp
    case w2 => exact et_not (b := true) (et_is (et_val (v_law_numbers (xs := S.done) (ys := S.done) (ev_frz (v_m_through (ev_var rfl) j1)) (.d _) (d_through (ev_var rfl) j2) (.mem (st_d j2)))) (decide_eq_true rfl))
  refine x_retS (d := .d (.bool true)) (ev_and (a := true) (b := true) (ev_is (ev_op (v_m_drawn (ev_var rfl) j1) (d_drawn (ev_var rfl) j2) (rv_eq (.d _) (.d _) (dep_l (Nat.zero_le 60)))) ?_) fun _ => ev_is (ev_op (v_m_out (ev_var rfl) j1) (d_out (ev_var rfl) j2) (rv_eq (.d _) (.d _) (dep_l (Nat.zero_le 60)))) ?_) (List.sublist_cons_self _ _) n
  · rw [eqv_int]; simp
  · rw [eqv_int]; simp
theorem s_law_does : Sem K (Φ_law_does A) N_law_does (t_law_does K A) := by
  rintro E ds R N' M' ⟨a, s, S, d, rfl, rfl, w, w2, ok, n⟩
  have h8 := w.n8
  refine x_seq (x_asg ev_bl ?_)
  refine x_seqM (fun δ' R' => R' = flR A.C a (doD S d) ++ stR s S ∧ δ' = [some (.r a.f), some (.r s.f), some (.d (encDd d)), some (.d (.bool true))]) ?_ ?_
  · refine x_try fun W => ?_
    cases d with
    | lt g =>
      have ok : letW S (g : Nat) = 0 := ok
      have e0 : ∀ {x : Nat}, letW S (g : Nat) = x → x ≠ 0 → False := fun h z => z (h ▸ ok)
      refine x_if (b := true) (et_is (et_test (ev_op (ev_op (ev_var rfl) ev_int (rv_ixT rfl)) ev_str (rv_eq (.d _) (.d _) (dep_l (Nat.zero_le 60))))) (by decide)) (fun _ => ?_) fun z => nomatch z
      refine x_dropE (M := fun _ _ => False) (N := fun _ R' => R' = flR A.C a (letS S (g : Nat)) ++ stR s S) (ee_methN (R1 := flR A.C a S) (ev_var rfl) (.here _) rfl rfl (ea_cons (ev_op (ev_var rfl) ev_int (rv_ixT rfl)) ea_nil) ⟨a, S, (g : Nat), rfl, rfl, fun _ => rfl, fun h => (e0 h (by decide)).elim, fun h => (e0 h (by decide)).elim⟩ fun _ _ _ _ h => h.elim) ?_ fun _ _ h => h.elim
      rintro d R' rfl
      exact ⟨rfl, rfl⟩
    | sl b =>
      have ok : sailW S (b : Nat) = 0 := ok
      have e0 : ∀ {x : Nat}, sailW S (b : Nat) = x → x ≠ 0 → False := fun h z => z (h ▸ ok)
      refine x_if (b := false) (et_is (et_test (ev_op (ev_op (ev_var rfl) ev_int (rv_ixT rfl)) ev_str (rv_eq (.d _) (.d _) (dep_l (Nat.zero_le 60))))) (by decide)) (fun z => nomatch z) fun _ => ?_
      refine x_dropE (M := fun _ _ => False) (N := fun _ R' => R' = flR A.C a (sailS S (b : Nat)) ++ stR s S) (ee_methN (R1 := flR A.C a S) (ev_var rfl) (.here _) rfl rfl (ea_cons (ev_op (ev_var rfl) ev_int (rv_ixT rfl)) ea_nil) ⟨a, S, (b : Nat), rfl, rfl, w, fun _ => rfl, fun h => (e0 h (by decide)).elim, fun h => (e0 h (by decide)).elim, fun h => (e0 h (by decide)).elim, fun h => (e0 h (by decide)).elim⟩ fun _ _ _ _ h => h.elim) ?_ fun _ _ h => h.elim
      rintro d R' rfl
      exact ⟨rfl, rfl⟩
  rintro δ' R' ⟨rfl, rfl⟩
  have inn : Inn (stR s S) (flR A.C a (doD S d) ++ stR s S) fun Y => flR A.C a (doD S d) ++ Y := .there _ .one
  have fin : XS K (fun c d _ H => E c d H) [some (D.r a.f), some (.r s.f), some (.d (encDd d)), some (.d (.bool true))] (flR A.C a (doD S d) ++ stR s (doD S d)) (tRet (tCallS (spD K (Φ_law_stands A)) (fun _ => E) (tCons (tVar 0) (tCons (tVar 1) tNil)))) (endsOf N' M') := x_ret (v_law_stands w2 (ev_var rfl) (ev_var rfl) .one) n
  cases d with
  | lt g =>
    have ok : letW S (g : Nat) = 0 := ok
    have rg := letW_rng ok
    have isl : ∀ {δ : DEnv} {R : Res}, δ[2]? = some (some (.d (encDd (.lt g)))) → Ev K δ R (tOp (rEqP K) (tOp (rIx K) (tVar 2) (tC (.int 0))) (tC (.str "let"))) (.d (.bool true)) := fun h => ev_is (ev_op (ev_op (ev_var h) ev_int (rv_ixT rfl)) ev_str (rv_eq (.d _) (.d _) (dep_l (Nat.zero_le 60)))) (congrArg (fun z => D.d (.bool z)) (show PyData.eqv (.str "let") (.str "let") = true by decide))
    refine x_seq (x_if (b := false) (et_or (a := false) (b := false) (et_not (b := true) (et_val (ev_var rfl))) fun _ => et_and (a := true) (b := false) (et_test (isl rfl)) fun _ => et_is (et_test (ev_op (v_law_let_word h8 (ev_var rfl) (ev_op (ev_var rfl) ev_int (rv_ixT rfl)) inn) ev_str (rv_ne (.d _) (.d _) (dep_l (Nat.zero_le 60))))) (by rw [word_done, ok]; rfl)) (fun z => nomatch z) fun _ => x_nil ?_)
    refine x_seq (x_if (b := true) (et_test (isl rfl)) (fun _ => ?_) fun z => nomatch z)
    refine x_dropE (M := fun _ _ => False) (N := fun _ R' => R' = flR A.C a (letS S (g : Nat)) ++ stR s (letS S (g : Nat))) (ee_callN inn (ea_cons (ev_var rfl) (ea_cons (ev_op (ev_var rfl) ev_int (rv_ixT rfl)) ea_nil)) ⟨s, S, (g : Nat), rfl, rfl, rg.1, rg.2, rfl⟩ fun _ _ _ _ h => h.elim) ?_ fun _ _ h => h.elim
    rintro d R' rfl
    exact fin
  | sl b =>
    have ok : sailW S (b : Nat) = 0 := ok
    have isl : ∀ {δ : DEnv} {R : Res}, δ[2]? = some (some (.d (encDd (.sl b)))) → Ev K δ R (tOp (rEqP K) (tOp (rIx K) (tVar 2) (tC (.int 0))) (tC (.str "let"))) (.d (.bool false)) := fun h => ev_is (ev_op (ev_op (ev_var h) ev_int (rv_ixT rfl)) ev_str (rv_eq (.d _) (.d _) (dep_l (Nat.zero_le 60)))) (congrArg (fun z => D.d (.bool z)) (show PyData.eqv (.str "sail") (.str "let") = false by decide))
    refine x_seq (x_if (b := false) (et_or (a := false) (b := false) (et_not (b := true) (et_val (ev_var rfl))) fun _ => et_and (a := false) (b := false) (et_test (isl rfl)) fun z => nomatch z) (fun z => nomatch z) fun _ => x_nil ?_)
    refine x_seq (x_if (b := false) (et_test (isl rfl)) (fun z => nomatch z) fun _ => ?_)
    refine x_if (b := true) (et_is (et_test (ev_op (v_law_sail_word w (ev_var rfl) (ev_op (ev_var rfl) ev_int (rv_ixT rfl)) inn) ev_str (rv_eq (.d _) (.d _) (dep_l (Nat.zero_le 60))))) (by rw [word_done, ok]; rfl)) (fun _ => ?_) fun z => nomatch z
    refine x_dropE (M := fun _ _ => False) (N := fun _ R' => R' = flR A.C a (sailS S (b : Nat)) ++ stR s (sailS S (b : Nat))) (ee_callN inn (ea_cons (ev_var rfl) (ea_cons (ev_op (ev_var rfl) ev_int (rv_ixT rfl)) ea_nil)) ⟨s, S, (b : Nat), rfl, rfl, w, ok, rfl⟩ fun _ _ _ _ h => h.elim) ?_ fun _ _ h => h.elim
    rintro d R' rfl
    exact fin
theorem s_law : Sem K (Φ_law A) N_law (t_law K A) := by
  rintro E ds R N' M' ⟨ns, rfl, rfl, hl, n⟩
  have l1 := lawLevels_len ns 0
  have l2 : 1 ≤ (lawOrder ns 3 (1 + cellI ns 2 % 12)).length ∧ (lawOrder ns 3 (1 + cellI ns 2 % 12)).length ≤ 12 := by rw [lawOrder_len]; omega
  refine x_seq (x_asg (d := .d (.list ((lawLevels ns 0).map .bool))) ?q1 ?_)
  case q1 => walk_at "ev"
  refine x_seq (x_asg (d := .d (.list ((lawOrder ns 3 (1 + cellI ns 2 % 12)).map sd))) ?q2 ?_)
  case q2 => walk_at "ev"
  generalize lawLevels ns 0 = lv at *
  generalize lawOrder ns 3 (1 + cellI ns 2 % 12) = order at *
  obtain ⟨g, runs⟩ := plan_runs (lv := lv) (order := order) l1.1
  obtain ⟨u, hu⟩ : ∃ u, order.getLast? = some u := ⟨_, List.getLast?_eq_some_getLast (by intro z; rw [z] at l2; simp at l2)⟩
  refine x_seq (x_asgE (M := fun _ _ => False) (N := fun d R' => ∃ a : Fa, d = .r a.f ∧ R' = flR A.C a (newS lv)) (v_make (ev_frz (evf_list (ev_var rfl) (.d _))) (fun _ a => ⟨a, rfl, List.append_nil _⟩) (fun q => absurd l1 q) fun _ _ _ _ h => h.elim) ?_ fun _ _ h => h.elim)
  rintro d R' ⟨a, rfl, rfl⟩
  refine x_seq (x_asgE (M := fun _ _ => False) (N := fun d R' => ∃ s : Fa, d = .r s.f ∧ R' = stR s (newS lv) ++ flR A.C a (newS lv)) (ee_callP (ea_cons (ev_var rfl) ea_nil) ⟨lv, rfl, rfl, fun s => ⟨s, rfl, rfl⟩⟩ fun _ _ _ _ h => h.elim) ?_ fun _ _ h => h.elim)
  rintro d R' ⟨s, rfl, rfl⟩
  refine XS.perm (R0 := flR A.C a (newS lv) ++ stR s (newS lv)) ?_ List.perm_append_comm
  have i1 : ∀ S : Fs, Inn (flR A.C a S) (flR A.C a S ++ stR s S) fun Y => Y ++ stR s S := fun S => .here _
  refine x_seqM (fun δ' R' => ∃ v5, R' = flR A.C a (cameS lv order) ++ stR s (cameS lv order) ∧ δ' = [some (.s ns), some (.d (.list (lv.map .bool))), some (.d (.list (order.map sd))), some (.r a.f), some (.r s.f), v5, none, none]) ?_ ?_
  · refine x_forI (xs := order) (enc := sd) (fun i δ' R' => ∃ v5, R' = flR A.C a (foldAt comeS (newS lv) order i) ++ stR s (foldAt comeS (newS lv) order i) ∧ δ' = [some (.s ns), some (.d (.list (lv.map .bool))), some (.d (.list (order.map sd))), some (.r a.f), some (.r s.f), v5, none, none]) (ei_list (ev_var rfl)) ⟨none, rfl, rfl⟩ ?_ ?_
    · rintro i u δ' R' hi ⟨v5, rfl, rfl⟩
      refine ⟨_, eg_name, ?_⟩
      have il : i < order.length := (List.getElem?_eq_some_iff.mp hi).1
      have w := came_wf (lv := lv) (order := order) l1 (by omega) i (by omega)
      have stp := foldAt_step (f := comeS) (z := newS lv) hi
      generalize foldAt comeS (newS lv) order i = S at *
      refine x_ifE (M := fun _ _ => False) (N := fun d R' => d = .d (.bool false) ∧ R' = flR A.C a (comeS S u) ++ stR s (comeS S u))
        (ee_op2 (M := fun _ _ => False) (N1 := fun d R' => d = .d (.int S.sides.length) ∧ R' = flR A.C a (comeS S u) ++ stR s S) (ee_methN (ev_var rfl) (i1 S) rfl rfl (ea_cons (ev_var rfl) ea_nil) ⟨a, S, u, rfl, rfl, w, rfl, rfl⟩ fun _ _ _ _ h => h.elim) ?_) ?_ fun _ _ h => h.elim
      · rintro d R1 ⟨rfl, rfl⟩
        refine ⟨fun d R' => d = .d (.int S.sides.length) ∧ R' = flR A.C a (comeS S u) ++ stR s (comeS S u), ee_callN (R1 := stR s S) (.there _ .one) (ea_cons (ev_var rfl) (ea_cons (ev_var rfl) ea_nil)) ⟨s, S, u, rfl, rfl, w, rfl, rfl⟩ fun _ _ _ _ h => h.elim, ?_⟩
        rintro d2 R2 ⟨rfl, rfl⟩
        exact ⟨_, rv_ne (.d _) (.d _) (dep_l (Nat.zero_le 60)), by rw [eqv_int]; simp, rfl⟩
      · rintro d R' ⟨rfl, rfl⟩
        refine ⟨false, rfl, (fun z => nomatch z), fun _ => x_nil ⟨_, by rw [stp], rfl⟩⟩
    · rintro δ' R' ⟨v5, rfl, rfl⟩
      rw [comes_eq _ (Nat.le_refl _), List.take_length]
      exact ⟨_, rfl, rfl⟩
  rintro δ' R' ⟨v5, rfl, rfl⟩
  have w0 : WF (cameS lv order) := by
    have := came_wf (lv := lv) (order := order) l1 (by omega) order.length (Nat.le_refl _)
    rw [comes_eq _ (Nat.le_refl _), List.take_length] at this
    exact this
  let T : Fs := ⟨lvAt lv order order.length, order, [], doneL order.length, costs lv order, g⟩
  refine x_seqM (fun δ' R' => ∃ v6, R' = flR A.C a T ++ stR s T ∧ δ' = [some (.s ns), some (.d (.list (lv.map .bool))), some (.d (.list (order.map sd))), some (.r a.f), some (.r s.f), v5, v6, none]) ?_ ?_
  · refine x_forI (xs := planM lv order) (enc := encDd) (fun i δ' R' => ∃ v6, R' = flR A.C a (foldAt doD (cameS lv order) (planM lv order) i) ++ stR s (foldAt doD (cameS lv order) (planM lv order) i) ∧ δ' = [some (.s ns), some (.d (.list (lv.map .bool))), some (.d (.list (order.map sd))), some (.r a.f), some (.r s.f), v5, v6, none])
      (ei_list (ev_frz (evf_callP (ea_cons (ev_frz (evf_list (ev_var rfl) (.d _))) (ea_cons (ev_frz (evf_list (ev_var rfl) (.d _))) ea_nil)) (c_plan (by omega) l1 fun a => ⟨a, rfl, rfl⟩)))) ⟨none, rfl, rfl⟩ ?_ ?_
    · rintro i d δ' R' hi ⟨v6, rfl, rfl⟩
      refine ⟨_, eg_name, ?_⟩
      have stp := foldAt_step (f := doD) (z := cameS lv order) hi
      have ok := runs.at_ hi
      have w : WF (foldAt doD (cameS lv order) (planM lv order) i) := (runs.take i).wf w0
      have w2 : WF (foldAt doD (cameS lv order) (planM lv order) (i + 1)) := (runs.take (i + 1)).wf w0
      rw [stp] at w2
      generalize foldAt doD (cameS lv order) (planM lv order) i = S at *
      refine x_ifNE (M := fun _ _ => False) (N := fun x R' => x = .d (.bool true) ∧ R' = flR A.C a (doD S d) ++ stR s (doD S d)) (ee_call3 (ea_cons (ev_var rfl) (ea_cons (ev_var rfl) (ea_cons (ev_var rfl) ea_nil))) ⟨a, s, S, d, rfl, rfl, w, w2, ok, rfl, rfl⟩ fun _ _ _ _ h => h.elim) ?_ fun _ _ h => h.elim
      rintro x R' ⟨rfl, rfl⟩
      exact ⟨rfl, x_nil ⟨_, by rw [stp], rfl⟩⟩
    · rintro δ' R' ⟨v6, rfl, rfl⟩
      rw [foldAt_all, ← runs.after]
      exact ⟨_, rfl, rfl⟩
  rintro δ' R' ⟨v6, rfl, rfl⟩
  have hdl : ∀ {δ : DEnv} {R : Res}, δ[2]? = some (some (.d (.list (order.map sd)))) → Ev K δ R (tLstRg (tRg1 (tCB (rLen K) (tCons (tVar 2) tNil)))) (.d (.list ((doneL order.length).map .int))) := fun h => by
    refine ev_is (ev_frz (evf_listRg1 (n := (order.length : Int)) (ev_is (ev_lenL (ev_var h) (.d _)) (by rw [List.length_map])) (by omega))) ?_
    unfold doneL
    rw [List.map_map]
    show D.d (.list ((List.range ((order.length : Int)).toNat).map fun i => PyData.int (0 + (i : Nat)))) = _
    rw [Int.toNat_natCast]
    refine congrArg (fun z => D.d (.list z)) (List.map_congr_left fun k _ => ?_)
    show PyData.int (0 + (k : Int)) = .int (k : Int)
    rw [Int.zero_add]
  refine x_seq (x_if (b := false) (et_or (a := false) (b := false) (et_is (et_test (ev_op (x := .d (.list ((doneL order.length).map .int))) (ev_frz (v_m_through (ev_var rfl) (i1 T))) (hdl rfl) (rv_ne (.d _) (.d _) (dep_l (dep_map fun _ => Nat.zero_le 10))))) ?w1) fun _ => et_is (et_test (ev_op (v_m_drawn (ev_var rfl) (i1 T)) (ev_callP (ds := [.d (.list (lv.map .bool)), .d (.list (order.map sd))]) (ea_cons (ev_frz (evf_list (ev_var rfl) (.d _))) (ea_cons (ev_frz (evf_list (ev_var rfl) (.d _))) ea_nil)) (c_cost l1 ⟨rfl, rfl⟩)) (rv_ne (.d _) (.d _) (dep_l (Nat.zero_le 60))))) ?w2) (fun z => nomatch z) fun _ => x_nil ?_)
  case w1 => rw [eqv_intsL]; rfl
  case w2 =>
    show (!PyData.eqv (.int (costs lv order)) (.int (costs lv order))) = false
    rw [eqv_int]; simp
  have eT : T.high = behindOf lv u := lvAt_last hu
  refine x_ret (d := .d (.bool true)) (ev_is (ev_op (x := .d (.int (lv.length : Int))) (y := .d (.int (lv.length : Int))) (ev_is (ev_sum (ns := (behindOf lv u).map fun _ => 1) (ev_frz (evf_is (evf_lcI0 (xs := behindOf lv u) (enc := PyData.bool) (fun _ => .int 1) (ei_list (ev_is (ev_frz (v_m_levels (ev_var rfl) (i1 T))) (by rw [eT]))) (by decide) fun b hb => ?w3) (by rw [List.map_map]; rfl))) (.d _)) ?w4) (ev_is (ev_lenL (ev_var rfl) (.d _)) (by rw [List.length_map])) (rv_eq (.d _) (.d _) (dep_l (Nat.zero_le 60)))) ?w5) (n _)
  case w3 =>
    have eb : b = u := by
      obtain ⟨x, _, e⟩ := List.mem_map.mp hb
      exact e.symm
    subst eb
    refine ev_is (ev_int1 (b := true) (ev_is (ev_op (ev_var rfl) (ev_is (ev_op (ev_op (ev_var rfl) (ev_neg ev_int) (rv_ixLM (.d _) (atI_back hu))) ev_str (rv_eq (.d _) (.d _) (dep_l (Nat.zero_le 60)))) (by rw [eqv_up])) (rv_eq (.d _) (.d _) (dep_l (Nat.zero_le 60)))) (by cases b <;> rfl))) rfl
  case w4 => rw [sum_ones, behind_len]
  case w5 => rw [eqv_int]; simp
end
def top (i : Nat) : Stmt := PySem.Challenge.pw_lockflight_k10_whole_plans_on_the_flight.main.body.getD i (.Pass ⟨0, 0, 0, 0⟩)
abbrev st_ask_levels : Stmt := top 11
theorem sc_ask_levels : FnScope N_ask_levels ["levels"] (defScope st_ask_levels) := ⟨rfl, rfl, rfl, by decide +kernel, rfl, by decide +kernel, by decide +kernel⟩
abbrev st_m_init : Stmt := inClass (top 12) 0
theorem sc_m_init : FnScope N_m_init ["self", "levels"] (defScope st_m_init) := ⟨rfl, rfl, rfl, by decide +kernel, rfl, by decide +kernel, by decide +kernel⟩
abbrev st_m_levels : Stmt := inClass (top 12) 1
theorem sc_m_levels : FnScope N_m_levels ["self"] (defScope st_m_levels) := ⟨rfl, rfl, rfl, by decide +kernel, rfl, by decide +kernel, by decide +kernel⟩
abbrev st_m_top : Stmt := inClass (top 12) 2
theorem sc_m_top : FnScope N_m_top ["self"] (defScope st_m_top) := ⟨rfl, rfl, rfl, by decide +kernel, rfl, by decide +kernel, by decide +kernel⟩
abbrev st_m_boats : Stmt := inClass (top 12) 3
theorem sc_m_boats : FnScope N_m_boats ["self"] (defScope st_m_boats) := ⟨rfl, rfl, rfl, by decide +kernel, rfl, by decide +kernel, by decide +kernel⟩
abbrev st_m_waiting : Stmt := inClass (top 12) 4
theorem sc_m_waiting : FnScope N_m_waiting ["self", "side"] (defScope st_m_waiting) := ⟨rfl, rfl, rfl, by decide +kernel, rfl, by decide +kernel, by decide +kernel⟩
abbrev st_m_through : Stmt := inClass (top 12) 5
theorem sc_m_through : FnScope N_m_through ["self"] (defScope st_m_through) := ⟨rfl, rfl, rfl, by decide +kernel, rfl, by decide +kernel, by decide +kernel⟩
abbrev st_m_place : Stmt := inClass (top 12) 7
theorem sc_m_place : FnScope N_m_place ["self", "boat"] (defScope st_m_place) := ⟨rfl, rfl, rfl, by decide +kernel, rfl, by decide +kernel, by decide +kernel⟩
abbrev st_m_drawn : Stmt := inClass (top 12) 8
theorem sc_m_drawn : FnScope N_m_drawn ["self"] (defScope st_m_drawn) := ⟨rfl, rfl, rfl, by decide +kernel, rfl, by decide +kernel, by decide +kernel⟩
abbrev st_m_out : Stmt := inClass (top 12) 9
theorem sc_m_out : FnScope N_m_out ["self"] (defScope st_m_out) := ⟨rfl, rfl, rfl, by decide +kernel, rfl, by decide +kernel, by decide +kernel⟩
abbrev st_m_come : Stmt := inClass (top 12) 10
theorem sc_m_come : FnScope N_m_come ["self", "side"] (defScope st_m_come) := ⟨rfl, rfl, rfl, by decide +kernel, rfl, by decide +kernel, by decide +kernel⟩
abbrev st_m_let : Stmt := inClass (top 12) 11
theorem sc_m_let : FnScope N_m_let ["self", "gate"] (defScope st_m_let) := ⟨rfl, rfl, rfl, by decide +kernel, rfl, by decide +kernel, by decide +kernel⟩
abbrev st_m_is_level : Stmt := inClass (top 12) 12
theorem sc_m_is_level : FnScope N_m_is_level ["self", "gate"] (defScope st_m_is_level) := ⟨rfl, rfl, rfl, by decide +kernel, rfl, by decide +kernel, by decide +kernel⟩
abbrev st_m_sail : Stmt := inClass (top 12) 13
theorem sc_m_sail : FnScope N_m_sail ["self", "boat"] (defScope st_m_sail) := ⟨rfl, rfl, rfl, by decide +kernel, rfl, by decide +kernel, by decide +kernel⟩
abbrev st_cost_of : Stmt := top 14
theorem sc_cost_of : FnScope N_cost_of ["levels", "side"] (defScope st_cost_of) := ⟨rfl, rfl, rfl, by decide +kernel, rfl, by decide +kernel, by decide +kernel⟩
abbrev st_behind : Stmt := top 15
theorem sc_behind : FnScope N_behind ["levels", "side"] (defScope st_behind) := ⟨rfl, rfl, rfl, by decide +kernel, rfl, by decide +kernel, by decide +kernel⟩
abbrev st_cost : Stmt := top 16
theorem sc_cost : FnScope N_cost ["levels", "order"] (defScope st_cost) := ⟨rfl, rfl, rfl, by decide +kernel, rfl, by decide +kernel, by decide +kernel⟩
abbrev st_filled : Stmt := top 17
theorem sc_filled : FnScope N_filled ["levels", "chamber"] (defScope st_filled) := ⟨rfl, rfl, rfl, by decide +kernel, rfl, by decide +kernel, by decide +kernel⟩
abbrev st_emptied : Stmt := top 18
theorem sc_emptied : FnScope N_emptied ["levels", "chamber"] (defScope st_emptied) := ⟨rfl, rfl, rfl, by decide +kernel, rfl, by decide +kernel, by decide +kernel⟩
abbrev st_let_all : Stmt := top 19
theorem sc_let_all : FnScope N_let_all ["levels", "deeds"] (defScope st_let_all) := ⟨rfl, rfl, rfl, by decide +kernel, rfl, by decide +kernel, by decide +kernel⟩
abbrev st_put : Stmt := top 20
theorem sc_put : FnScope N_put ["levels", "deeds", "more"] (defScope st_put) := ⟨rfl, rfl, rfl, by decide +kernel, rfl, by decide +kernel, by decide +kernel⟩
abbrev st_passage_up : Stmt := top 21
theorem sc_passage_up : FnScope N_passage_up ["levels", "boat", "deeds"] (defScope st_passage_up) := ⟨rfl, rfl, rfl, by decide +kernel, rfl, by decide +kernel, by decide +kernel⟩
abbrev st_passage_down : Stmt := top 22
theorem sc_passage_down : FnScope N_passage_down ["levels", "boat", "deeds"] (defScope st_passage_down) := ⟨rfl, rfl, rfl, by decide +kernel, rfl, by decide +kernel, by decide +kernel⟩
abbrev st_plan : Stmt := top 23
theorem sc_plan : FnScope N_plan ["levels", "order"] (defScope st_plan) := ⟨rfl, rfl, rfl, by decide +kernel, rfl, by decide +kernel, by decide +kernel⟩
abbrev st_law_cell_at : Stmt := top 25
theorem sc_law_cell_at : FnScope N_law_cell_at ["script", "k"] (defScope st_law_cell_at) := ⟨rfl, rfl, rfl, by decide +kernel, rfl, by decide +kernel, by decide +kernel⟩
abbrev st_law_whole : Stmt := top 26
theorem sc_law_whole : FnScope N_law_whole ["found"] (defScope st_law_whole) := ⟨rfl, rfl, rfl, by decide +kernel, rfl, by decide +kernel, by decide +kernel⟩
abbrev st_law_levels : Stmt := top 27
theorem sc_law_levels : FnScope N_law_levels ["script", "start"] (defScope st_law_levels) := ⟨rfl, rfl, rfl, by decide +kernel, rfl, by decide +kernel, by decide +kernel⟩
abbrev st_law_order : Stmt := top 28
theorem sc_law_order : FnScope N_law_order ["script", "start", "size"] (defScope st_law_order) := ⟨rfl, rfl, rfl, by decide +kernel, rfl, by decide +kernel, by decide +kernel⟩
abbrev st_law_bools : Stmt := top 29
theorem sc_law_bools : FnScope N_law_bools ["found", "due"] (defScope st_law_bools) := ⟨rfl, rfl, rfl, by decide +kernel, rfl, by decide +kernel, by decide +kernel⟩
abbrev st_law_numbers : Stmt := top 30
theorem sc_law_numbers : FnScope N_law_numbers ["found", "due"] (defScope st_law_numbers) := ⟨rfl, rfl, rfl, by decide +kernel, rfl, by decide +kernel, by decide +kernel⟩
abbrev st_law_new : Stmt := top 31
theorem sc_law_new : FnScope N_law_new ["levels"] (defScope st_law_new) := ⟨rfl, rfl, rfl, by decide +kernel, rfl, by decide +kernel, by decide +kernel⟩
abbrev st_law_let_word : Stmt := top 32
theorem sc_law_let_word : FnScope N_law_let_word ["state", "gate"] (defScope st_law_let_word) := ⟨rfl, rfl, rfl, by decide +kernel, rfl, by decide +kernel, by decide +kernel⟩
abbrev st_law_let : Stmt := top 33
theorem sc_law_let : FnScope N_law_let ["state", "gate"] (defScope st_law_let) := ⟨rfl, rfl, rfl, by decide +kernel, rfl, by decide +kernel, by decide +kernel⟩
abbrev st_law_then : Stmt := top 34
theorem sc_law_then : FnScope N_law_then ["state", "boat"] (defScope st_law_then) := ⟨rfl, rfl, rfl, by decide +kernel, rfl, by decide +kernel, by decide +kernel⟩
abbrev st_law_sail_word : Stmt := top 35
theorem sc_law_sail_word : FnScope N_law_sail_word ["state", "boat"] (defScope st_law_sail_word) := ⟨rfl, rfl, rfl, by decide +kernel, rfl, by decide +kernel, by decide +kernel⟩
abbrev st_law_sail : Stmt := top 36
theorem sc_law_sail : FnScope N_law_sail ["state", "boat"] (defScope st_law_sail) := ⟨rfl, rfl, rfl, by decide +kernel, rfl, by decide +kernel, by decide +kernel⟩
abbrev st_law_come : Stmt := top 37
theorem sc_law_come : FnScope N_law_come ["state", "side"] (defScope st_law_come) := ⟨rfl, rfl, rfl, by decide +kernel, rfl, by decide +kernel, by decide +kernel⟩
abbrev st_law_stands : Stmt := top 38
theorem sc_law_stands : FnScope N_law_stands ["flight", "state"] (defScope st_law_stands) := ⟨rfl, rfl, rfl, by decide +kernel, rfl, by decide +kernel, by decide +kernel⟩
abbrev st_law_does : Stmt := top 39
theorem sc_law_does : FnScope N_law_does ["flight", "state", "deed"] (defScope st_law_does) := ⟨rfl, rfl, rfl, by decide +kernel, rfl, by decide +kernel, by decide +kernel⟩
abbrev st_law : Stmt := top 40
theorem sc_law : FnScope N_law ["script"] (defScope st_law) := ⟨rfl, rfl, rfl, by decide +kernel, rfl, by decide +kernel, by decide +kernel⟩
structure Tx (K : PySem.W.Frag) (mg : Str → Option Value) (A : Ad) : Prop where
  b_len : mg "len" = none
  c_MOST_CHAMBERS : ∃ u, mg "MOST_CHAMBERS" = some u ∧ RelV (.int 8) u
  x_bf : PySem.W.excIn K A.bf [.type "ValueError", .type "Exception", .type "BaseException", .type "object"] "ValueError.__new__" = true
  g_bf : mg "BadFlight" = some (.ref A.bf)
  k_bf : PySem.W.keepIn K (.ref A.bf) = true
  s_bf : PySem.W.subIn K (.ref A.bf) (.type "BaseException") = some true
  t_bf : PySem.W.typeIn K (.ref A.bf) = some (.type "type")
  b_list : mg "list" = none
  b_sorted : mg "sorted" = none
  x_nb : PySem.W.excIn K A.nb [.type "ValueError", .type "Exception", .type "BaseException", .type "object"] "ValueError.__new__" = true
  g_nb : mg "NoBoat" = some (.ref A.nb)
  k_nb : PySem.W.keepIn K (.ref A.nb) = true
  s_nb : PySem.W.subIn K (.ref A.nb) (.type "BaseException") = some true
  t_nb : PySem.W.typeIn K (.ref A.nb) = some (.type "type")
  x_ng : PySem.W.excIn K A.ng [.type "ValueError", .type "Exception", .type "BaseException", .type "object"] "ValueError.__new__" = true
  g_ng : mg "NoGate" = some (.ref A.ng)
  k_ng : PySem.W.keepIn K (.ref A.ng) = true
  s_ng : PySem.W.subIn K (.ref A.ng) (.type "BaseException") = some true
  t_ng : PySem.W.typeIn K (.ref A.ng) = some (.type "type")
  x_nf : PySem.W.excIn K A.nf [.type "ValueError", .type "Exception", .type "BaseException", .type "object"] "ValueError.__new__" = true
  g_nf : mg "NoFall" = some (.ref A.nf)
  k_nf : PySem.W.keepIn K (.ref A.nf) = true
  s_nf : PySem.W.subIn K (.ref A.nf) (.type "BaseException") = some true
  t_nf : PySem.W.typeIn K (.ref A.nf) = some (.type "type")
  x_ns : PySem.W.excIn K A.ns [.type "ValueError", .type "Exception", .type "BaseException", .type "object"] "ValueError.__new__" = true
  g_ns : mg "NotFirst" = some (.ref A.ns)
  k_ns : PySem.W.keepIn K (.ref A.ns) = true
  s_ns : PySem.W.subIn K (.ref A.ns) (.type "BaseException") = some true
  t_ns : PySem.W.typeIn K (.ref A.ns) = some (.type "type")
  x_sh : PySem.W.excIn K A.sh [.type "ValueError", .type "Exception", .type "BaseException", .type "object"] "ValueError.__new__" = true
  g_sh : mg "Shut" = some (.ref A.sh)
  k_sh : PySem.W.keepIn K (.ref A.sh) = true
  s_sh : PySem.W.subIn K (.ref A.sh) (.type "BaseException") = some true
  t_sh : PySem.W.typeIn K (.ref A.sh) = some (.type "type")
  x_oc : PySem.W.excIn K A.oc [.type "ValueError", .type "Exception", .type "BaseException", .type "object"] "ValueError.__new__" = true
  g_oc : mg "Occupied" = some (.ref A.oc)
  k_oc : PySem.W.keepIn K (.ref A.oc) = true
  s_oc : PySem.W.subIn K (.ref A.oc) (.type "BaseException") = some true
  t_oc : PySem.W.typeIn K (.ref A.oc) = some (.type "type")
  b_int : mg "int" = none
  b_reversed : mg "reversed" = none
  b_range : mg "range" = none
  b_isinstance : mg "isinstance" = none
  b_bool : mg "bool" = none
  b_all : mg "all" = none
  b_min : mg "min" = none
  g_le : mg "LockError" = some (.ref A.le)
  b_sum : mg "sum" = none
  cl : Cls K A.C
  fl : Fx K A
section
variable {P : Program} {w : World} {K : PySem.W.Frag} {mg : Str → Option Value} {base : Heap} {A : Ad}
theorem ok_ask_levels {f : Addr} {fd : FuncData} (F : Fun K "ask_levels" "ask_levels" st_ask_levels f fd) (T : Tx K mg A)  : FnOk P w K mg base (L2.CX P w) 2 f fd ["levels"] (spD K (Φ_ask_levels A)) :=
  cl_of (t_ask_levels K A) F sc_ask_levels (by intro ds R N M h; first | (obtain ⟨rfl, _⟩ := h; rfl) | (obtain ⟨_, rfl, _⟩ := h; rfl) | (obtain ⟨_, _, rfl, _⟩ := h; rfl) | (obtain ⟨_, _, _, rfl, _⟩ := h; rfl) | (obtain ⟨_, _, _, _, rfl, _⟩ := h; rfl) | (obtain ⟨_, _, _, _, _, rfl, _⟩ := h; rfl) | (obtain ⟨_, _, _, _, _, _, rfl, _⟩ := h; rfl) | (obtain ⟨_, _, _, _, _, _, _, rfl, _⟩ := h; rfl) | (obtain ⟨_, _, _, _, _, _, _, _, rfl, _⟩ := h; rfl) | (obtain ⟨_, _, _, _, _, _, _, _, _, rfl, _⟩ := h; rfl)) s_ask_levels fun cdv Ar outer s H E hr =>
  (pss_one (ps_if (pt_not (pt_chain op_le op_le pe_int (pe_callB call_len (by rfl) T.b_len (by decide +kernel) (pa_cons (pv 0) pa_nil)) (pe_gcn (by rfl) T.c_MOST_CHAMBERS))) (pss_one (ps_rz rfl (takes_of rfl rfl rfl rfl) (pmk_own PySem.F.excBase_ValueError T.x_bf T.g_bf T.k_bf (raises_own T.s_bf T.t_bf) (by exact rfl)))) pss_nil))
theorem ok_m_init {f : Addr} {fd : FuncData} (F : Fun K "__init__" "Flight.__init__" st_m_init f fd) (T : Tx K mg A) (q_ask_levels : Cl P w K mg base 2 "ask_levels" ["levels"] (spD K (Φ_ask_levels A))) : FnOk P w K mg base (L2.CX P w) 3 f fd ["self", "levels"] (spD K (Φ_m_init A)) :=
  cl_of (t_m_init K A) F sc_m_init (by intro ds R N M h; first | (obtain ⟨rfl, _⟩ := h; rfl) | (obtain ⟨_, rfl, _⟩ := h; rfl) | (obtain ⟨_, _, rfl, _⟩ := h; rfl) | (obtain ⟨_, _, _, rfl, _⟩ := h; rfl) | (obtain ⟨_, _, _, _, rfl, _⟩ := h; rfl) | (obtain ⟨_, _, _, _, _, rfl, _⟩ := h; rfl) | (obtain ⟨_, _, _, _, _, _, rfl, _⟩ := h; rfl) | (obtain ⟨_, _, _, _, _, _, _, rfl, _⟩ := h; rfl) | (obtain ⟨_, _, _, _, _, _, _, _, rfl, _⟩ := h; rfl) | (obtain ⟨_, _, _, _, _, _, _, _, _, rfl, _⟩ := h; rfl)) (s_m_init T.fl) fun cdv Ar outer s H E hr =>
  (pss_cons (ps_expr (pe_cl q_ask_levels hr (by decide) (by rfl) (pasX (takes_of rfl rfl rfl rfl)) (pa_cons (pv 1) pa_nil)))
  (pss_cons (ps_fld (pv 0) (pe_callTy call_list_of (by rfl) T.b_list (by decide +kernel) (pa_cons (pv 1) pa_nil)) rfl)
  (pss_cons (ps_fld (pv 0) (pe_lst pa_nil) rfl)
  (pss_cons (ps_fld (pv 0) pe_dnewK rfl)
  (pss_cons (ps_fld (pv 0) (pe_lst pa_nil) rfl)
  (pss_cons (ps_fld (pv 0) pe_int rfl)
  (pss_one (ps_fld (pv 0) pe_int rfl))))))))
theorem ok_m_levels {f : Addr} {fd : FuncData} (F : Fun K "levels" "Flight.levels" st_m_levels f fd) (T : Tx K mg A)  : FnOk P w K mg base (L2.CX P w) 2 f fd ["self"] (spD K (Φ_m_levels A)) :=
  cl_of (t_m_levels K A) F sc_m_levels (by intro ds R N M h; first | (obtain ⟨rfl, _⟩ := h; rfl) | (obtain ⟨_, rfl, _⟩ := h; rfl) | (obtain ⟨_, _, rfl, _⟩ := h; rfl) | (obtain ⟨_, _, _, rfl, _⟩ := h; rfl) | (obtain ⟨_, _, _, _, rfl, _⟩ := h; rfl) | (obtain ⟨_, _, _, _, _, rfl, _⟩ := h; rfl) | (obtain ⟨_, _, _, _, _, _, rfl, _⟩ := h; rfl) | (obtain ⟨_, _, _, _, _, _, _, rfl, _⟩ := h; rfl) | (obtain ⟨_, _, _, _, _, _, _, _, rfl, _⟩ := h; rfl) | (obtain ⟨_, _, _, _, _, _, _, _, _, rfl, _⟩ := h; rfl)) (s_m_levels T.fl) fun cdv Ar outer s H E hr =>
  (pss_one (ps_ret (pe_callTy call_list_of (by rfl) T.b_list (by decide +kernel) (pa_cons (pe_fld (pv 0) rfl) pa_nil))))
theorem ok_m_top {f : Addr} {fd : FuncData} (F : Fun K "top" "Flight.top" st_m_top f fd) (T : Tx K mg A)  : FnOk P w K mg base (L2.CX P w) 2 f fd ["self"] (spD K (Φ_m_top A)) :=
  cl_of (t_m_top K A) F sc_m_top (by intro ds R N M h; first | (obtain ⟨rfl, _⟩ := h; rfl) | (obtain ⟨_, rfl, _⟩ := h; rfl) | (obtain ⟨_, _, rfl, _⟩ := h; rfl) | (obtain ⟨_, _, _, rfl, _⟩ := h; rfl) | (obtain ⟨_, _, _, _, rfl, _⟩ := h; rfl) | (obtain ⟨_, _, _, _, _, rfl, _⟩ := h; rfl) | (obtain ⟨_, _, _, _, _, _, rfl, _⟩ := h; rfl) | (obtain ⟨_, _, _, _, _, _, _, rfl, _⟩ := h; rfl) | (obtain ⟨_, _, _, _, _, _, _, _, rfl, _⟩ := h; rfl) | (obtain ⟨_, _, _, _, _, _, _, _, _, rfl, _⟩ := h; rfl)) (s_m_top T.fl) fun cdv Ar outer s H E hr =>
  (pss_one (ps_ret (pe_op op_plus (pe_callB call_len (by rfl) T.b_len (by decide +kernel) (pa_cons (pe_fld (pv 0) rfl) pa_nil)) pe_int)))
theorem ok_m_boats {f : Addr} {fd : FuncData} (F : Fun K "boats" "Flight.boats" st_m_boats f fd) (T : Tx K mg A) (q_m_top : Mt P w K mg base 2 A.C "top" ["self"] (spD K (Φ_m_top A))) : FnOk P w K mg base (L2.CX P w) 3 f fd ["self"] (spD K (Φ_m_boats A)) :=
  cl_of (t_m_boats K A) F sc_m_boats (by intro ds R N M h; first | (obtain ⟨rfl, _⟩ := h; rfl) | (obtain ⟨_, rfl, _⟩ := h; rfl) | (obtain ⟨_, _, rfl, _⟩ := h; rfl) | (obtain ⟨_, _, _, rfl, _⟩ := h; rfl) | (obtain ⟨_, _, _, _, rfl, _⟩ := h; rfl) | (obtain ⟨_, _, _, _, _, rfl, _⟩ := h; rfl) | (obtain ⟨_, _, _, _, _, _, rfl, _⟩ := h; rfl) | (obtain ⟨_, _, _, _, _, _, _, rfl, _⟩ := h; rfl) | (obtain ⟨_, _, _, _, _, _, _, _, rfl, _⟩ := h; rfl) | (obtain ⟨_, _, _, _, _, _, _, _, _, rfl, _⟩ := h; rfl)) (s_m_boats T.fl) fun cdv Ar outer s H E hr =>
  (pss_cons (ps_setLc (i := 1) (own := [("level", 3)]) (g := gName 3) rfl sc_m_boats.nd rfl rfl (sw_true rfl rfl rfl (by decide +kernel)) (pi_list (pe_fld (pv 0) rfl)) (blkOk_by (own := [("level", 3)]) (N := N_m_boats) (sc := defScope st_m_boats) (by decide +kernel)) (fun _ _ _ _ _ => pg_name (i := 3) sc_m_boats.nd rfl (Or.inl rfl)) (fun _ _ _ _ _ => pts_nil) (fun _ _ _ _ _ => pe_non))
  (pss_cons (ps_for (passes_of rfl) rfl (pi_list (pe_callTy (call_list_dK rfl) (by rfl) T.b_list (by decide +kernel) (pa_cons (pe_fld (pv 0) rfl) pa_nil))) (pg_name (i := 2) sc_m_boats.nd rfl (Or.inl rfl)) (pss_one (ps_if (pt_chain op_lt op_lt pe_int (pe_dget (hu_of hr) (pe_fld (pv 0) rfl) (pv 2) (fun _ _ => rfl)) (pe_mtS0 q_m_top hr (by decide) (pasX (takes_of rfl rfl rfl rfl)) (pv 0))) (pss_one (ps_asg (pv 2) (pg_sub (pv 1) (pe_op op_sub (pe_dget (hu_of hr) (pe_fld (pv 0) rfl) (pv 2) (fun _ _ => rfl)) pe_int) set_list))) pss_nil)))
  (pss_one (ps_ret (pv 1)))))
theorem ok_m_waiting {f : Addr} {fd : FuncData} (F : Fun K "waiting" "Flight.waiting" st_m_waiting f fd) (T : Tx K mg A) (q_m_top : Mt P w K mg base 2 A.C "top" ["self"] (spD K (Φ_m_top A))) : FnOk P w K mg base (L2.CX P w) 3 f fd ["self", "side"] (spD K (Φ_m_waiting A)) :=
  cl_of (t_m_waiting K A) F sc_m_waiting (by intro ds R N M h; first | (obtain ⟨rfl, _⟩ := h; rfl) | (obtain ⟨_, rfl, _⟩ := h; rfl) | (obtain ⟨_, _, rfl, _⟩ := h; rfl) | (obtain ⟨_, _, _, rfl, _⟩ := h; rfl) | (obtain ⟨_, _, _, _, rfl, _⟩ := h; rfl) | (obtain ⟨_, _, _, _, _, rfl, _⟩ := h; rfl) | (obtain ⟨_, _, _, _, _, _, rfl, _⟩ := h; rfl) | (obtain ⟨_, _, _, _, _, _, _, rfl, _⟩ := h; rfl) | (obtain ⟨_, _, _, _, _, _, _, _, rfl, _⟩ := h; rfl) | (obtain ⟨_, _, _, _, _, _, _, _, _, rfl, _⟩ := h; rfl)) (s_m_waiting T.fl) fun cdv Ar outer s H E hr =>
  (pss_cons (ps_set (i := 2) sc_m_waiting.nd rfl (Or.inr rfl) pe_int)
  (pss_cons (ps_if (pt_cmpR (op_eqP hr.units) (pv 1) pe_str (nomark _)) (pss_one (ps_set (i := 2) sc_m_waiting.nd rfl (Or.inr rfl) (pe_mtS0 q_m_top hr (by decide) (pasX (takes_of rfl rfl rfl rfl)) (pv 0)))) pss_nil)
  (pss_cons (ps_setLc (i := 3) (own := [("boat", 4)]) (g := gName 4) rfl sc_m_waiting.nd rfl rfl (sw_true rfl rfl rfl (by decide +kernel)) (pi_list (pe_callB cr_sortedI (by rfl) T.b_sorted (by decide +kernel) (pa_cons (pe_callTy (call_list_dK rfl) (by rfl) T.b_list (by decide +kernel) (pa_cons (pe_fld (pv 0) rfl) pa_nil)) pa_nil))) (blkOk_by (own := [("boat", 4)]) (N := N_m_waiting) (sc := defScope st_m_waiting) (by decide +kernel)) (fun _ _ _ _ _ => pg_name (i := 4) sc_m_waiting.nd rfl (Or.inl rfl)) (fun _ _ _ _ _ => (pts_one (pt_cmpR (op_eqP hr.units) (pe_dget (hu_of hr) (pe_fld (pv 0) rfl) (pv 4) (fun _ _ => rfl)) (pv 2) (nomark _)))) (fun _ _ _ _ _ => (pv 4)))
  (pss_one (ps_ret (pe_lc (own := [("boat", 4)]) (g := gName 4) rfl sc_m_waiting.nd (pi_list (pv 3)) (blkOk_by (own := [("boat", 4)]) (N := N_m_waiting) (sc := defScope st_m_waiting) (by decide +kernel)) (fun _ _ _ _ _ => pg_name (i := 4) sc_m_waiting.nd rfl (Or.inl rfl)) (fun _ _ _ _ _ => (pts_one (pt_cmpR (op_eqP hr.units) (pe_ix ix_seq (pe_fld (pv 0) rfl) (pv 4) (fun _ _ => rfl)) (pv 1) (nomark _)))) (fun _ _ _ _ _ => (pv 4))))))))
theorem ok_m_through {f : Addr} {fd : FuncData} (F : Fun K "through" "Flight.through" st_m_through f fd) (T : Tx K mg A)  : FnOk P w K mg base (L2.CX P w) 2 f fd ["self"] (spD K (Φ_m_through A)) :=
  cl_of (t_m_through K A) F sc_m_through (by intro ds R N M h; first | (obtain ⟨rfl, _⟩ := h; rfl) | (obtain ⟨_, rfl, _⟩ := h; rfl) | (obtain ⟨_, _, rfl, _⟩ := h; rfl) | (obtain ⟨_, _, _, rfl, _⟩ := h; rfl) | (obtain ⟨_, _, _, _, rfl, _⟩ := h; rfl) | (obtain ⟨_, _, _, _, _, rfl, _⟩ := h; rfl) | (obtain ⟨_, _, _, _, _, _, rfl, _⟩ := h; rfl) | (obtain ⟨_, _, _, _, _, _, _, rfl, _⟩ := h; rfl) | (obtain ⟨_, _, _, _, _, _, _, _, rfl, _⟩ := h; rfl) | (obtain ⟨_, _, _, _, _, _, _, _, _, rfl, _⟩ := h; rfl)) (s_m_through T.fl) fun cdv Ar outer s H E hr =>
  (pss_one (ps_ret (pe_callTy call_list_of (by rfl) T.b_list (by decide +kernel) (pa_cons (pe_fld (pv 0) rfl) pa_nil))))
theorem ok_m_place {f : Addr} {fd : FuncData} (F : Fun K "place" "Flight.place" st_m_place f fd) (T : Tx K mg A)  : FnOk P w K mg base (L2.CX P w) 2 f fd ["self", "boat"] (spD K (Φ_m_place A)) :=
  cl_of (t_m_place K A) F sc_m_place (by intro ds R N M h; first | (obtain ⟨rfl, _⟩ := h; rfl) | (obtain ⟨_, rfl, _⟩ := h; rfl) | (obtain ⟨_, _, rfl, _⟩ := h; rfl) | (obtain ⟨_, _, _, rfl, _⟩ := h; rfl) | (obtain ⟨_, _, _, _, rfl, _⟩ := h; rfl) | (obtain ⟨_, _, _, _, _, rfl, _⟩ := h; rfl) | (obtain ⟨_, _, _, _, _, _, rfl, _⟩ := h; rfl) | (obtain ⟨_, _, _, _, _, _, _, rfl, _⟩ := h; rfl) | (obtain ⟨_, _, _, _, _, _, _, _, rfl, _⟩ := h; rfl) | (obtain ⟨_, _, _, _, _, _, _, _, _, rfl, _⟩ := h; rfl)) (s_m_place T.fl) fun cdv Ar outer s H E hr =>
  (pss_cons (ps_if (pt_cmp (pc_dnotin (hu_of hr) (pv 1) (pe_fld (pv 0) rfl))) (pss_one (ps_rz rfl (takes_of rfl rfl rfl rfl) (pmk_own PySem.F.excBase_ValueError T.x_nb T.g_nb T.k_nb (raises_own T.s_nb T.t_nb) (by exact rfl)))) pss_nil)
  (pss_one (ps_ret (pe_dget (hu_of hr) (pe_fld (pv 0) rfl) (pv 1) (fun _ _ => rfl)))))
theorem ok_m_drawn {f : Addr} {fd : FuncData} (F : Fun K "drawn" "Flight.drawn" st_m_drawn f fd) (T : Tx K mg A)  : FnOk P w K mg base (L2.CX P w) 2 f fd ["self"] (spD K (Φ_m_drawn A)) :=
  cl_of (t_m_drawn K A) F sc_m_drawn (by intro ds R N M h; first | (obtain ⟨rfl, _⟩ := h; rfl) | (obtain ⟨_, rfl, _⟩ := h; rfl) | (obtain ⟨_, _, rfl, _⟩ := h; rfl) | (obtain ⟨_, _, _, rfl, _⟩ := h; rfl) | (obtain ⟨_, _, _, _, rfl, _⟩ := h; rfl) | (obtain ⟨_, _, _, _, _, rfl, _⟩ := h; rfl) | (obtain ⟨_, _, _, _, _, _, rfl, _⟩ := h; rfl) | (obtain ⟨_, _, _, _, _, _, _, rfl, _⟩ := h; rfl) | (obtain ⟨_, _, _, _, _, _, _, _, rfl, _⟩ := h; rfl) | (obtain ⟨_, _, _, _, _, _, _, _, _, rfl, _⟩ := h; rfl)) (s_m_drawn T.fl) fun cdv Ar outer s H E hr =>
  (pss_one (ps_ret (pe_fld (pv 0) rfl)))
theorem ok_m_out {f : Addr} {fd : FuncData} (F : Fun K "out" "Flight.out" st_m_out f fd) (T : Tx K mg A)  : FnOk P w K mg base (L2.CX P w) 2 f fd ["self"] (spD K (Φ_m_out A)) :=
  cl_of (t_m_out K A) F sc_m_out (by intro ds R N M h; first | (obtain ⟨rfl, _⟩ := h; rfl) | (obtain ⟨_, rfl, _⟩ := h; rfl) | (obtain ⟨_, _, rfl, _⟩ := h; rfl) | (obtain ⟨_, _, _, rfl, _⟩ := h; rfl) | (obtain ⟨_, _, _, _, rfl, _⟩ := h; rfl) | (obtain ⟨_, _, _, _, _, rfl, _⟩ := h; rfl) | (obtain ⟨_, _, _, _, _, _, rfl, _⟩ := h; rfl) | (obtain ⟨_, _, _, _, _, _, _, rfl, _⟩ := h; rfl) | (obtain ⟨_, _, _, _, _, _, _, _, rfl, _⟩ := h; rfl) | (obtain ⟨_, _, _, _, _, _, _, _, _, rfl, _⟩ := h; rfl)) (s_m_out T.fl) fun cdv Ar outer s H E hr =>
  (pss_one (ps_ret (pe_fld (pv 0) rfl)))
theorem ok_m_come {f : Addr} {fd : FuncData} (F : Fun K "come" "Flight.come" st_m_come f fd) (T : Tx K mg A) (q_m_top : Mt P w K mg base 2 A.C "top" ["self"] (spD K (Φ_m_top A))) : FnOk P w K mg base (L2.CX P w) 3 f fd ["self", "side"] (spD K (Φ_m_come A)) :=
  cl_of (t_m_come K A) F sc_m_come (by intro ds R N M h; first | (obtain ⟨rfl, _⟩ := h; rfl) | (obtain ⟨_, rfl, _⟩ := h; rfl) | (obtain ⟨_, _, rfl, _⟩ := h; rfl) | (obtain ⟨_, _, _, rfl, _⟩ := h; rfl) | (obtain ⟨_, _, _, _, rfl, _⟩ := h; rfl) | (obtain ⟨_, _, _, _, _, rfl, _⟩ := h; rfl) | (obtain ⟨_, _, _, _, _, _, rfl, _⟩ := h; rfl) | (obtain ⟨_, _, _, _, _, _, _, rfl, _⟩ := h; rfl) | (obtain ⟨_, _, _, _, _, _, _, _, rfl, _⟩ := h; rfl) | (obtain ⟨_, _, _, _, _, _, _, _, _, rfl, _⟩ := h; rfl)) (s_m_come T.fl) fun cdv Ar outer s H E hr =>
  (pss_cons (ps_set (i := 2) sc_m_come.nd rfl (Or.inl rfl) (pe_callB call_len (by rfl) T.b_len (by decide +kernel) (pa_cons (pe_fld (pv 0) rfl) pa_nil)))
  (pss_cons (ps_expr (pe_bm PySem.F.plainAttrs_list PySem.F.slot_list_append PySem.F.type_list_append mt_append (pe_fld (pv 0) rfl) (pa_cons (pv 1) pa_nil)))
  (pss_cons (ps_dput (hu_of hr) (pe_fld (pv 0) rfl) (pv 2) pe_int rfl)
  (pss_cons (ps_if (pt_cmpR (op_eqP hr.units) (pv 1) pe_str (nomark _)) (pss_one (ps_dput (hu_of hr) (pe_fld (pv 0) rfl) (pv 2) (pe_mtS0 q_m_top hr (by decide) (pasX (takes_of rfl rfl rfl rfl)) (pv 0)) rfl)) pss_nil)
  (pss_one (ps_ret (pv 2)))))))
theorem ok_m_let {f : Addr} {fd : FuncData} (F : Fun K "let" "Flight.let" st_m_let f fd) (T : Tx K mg A)  : FnOk P w K mg base (L2.CX P w) 2 f fd ["self", "gate"] (spD K (Φ_m_let A)) :=
  cl_of (t_m_let K A) F sc_m_let (by intro ds R N M h; first | (obtain ⟨rfl, _⟩ := h; rfl) | (obtain ⟨_, rfl, _⟩ := h; rfl) | (obtain ⟨_, _, rfl, _⟩ := h; rfl) | (obtain ⟨_, _, _, rfl, _⟩ := h; rfl) | (obtain ⟨_, _, _, _, rfl, _⟩ := h; rfl) | (obtain ⟨_, _, _, _, _, rfl, _⟩ := h; rfl) | (obtain ⟨_, _, _, _, _, _, rfl, _⟩ := h; rfl) | (obtain ⟨_, _, _, _, _, _, _, rfl, _⟩ := h; rfl) | (obtain ⟨_, _, _, _, _, _, _, _, rfl, _⟩ := h; rfl) | (obtain ⟨_, _, _, _, _, _, _, _, _, rfl, _⟩ := h; rfl)) (s_m_let T.fl) fun cdv Ar outer s H E hr =>
  (pss_cons (ps_set (i := 2) sc_m_let.nd rfl (Or.inl rfl) (pe_callB call_len (by rfl) T.b_len (by decide +kernel) (pa_cons (pe_fld (pv 0) rfl) pa_nil)))
  (pss_cons (ps_if (pt_not (pt_chain op_le op_le pe_int (pv 1) (pv 2))) (pss_one (ps_rz rfl (takes_of rfl rfl rfl rfl) (pmk_own PySem.F.excBase_ValueError T.x_ng T.g_ng T.k_ng (raises_own T.s_ng T.t_ng) (by exact rfl)))) pss_nil)
  (pss_cons (ps_if (PW.pt (pw_or (PW.pt (pw_and (pt_cmpR op_lt (pv 1) (pv 2) (nomark _)) (pw_and1 (pt_not (pt_val (pe_ix ix_seq (pe_fld (pv 0) rfl) (pv 1) (fun _ _ => rfl))))))) (pw_or1 (PW.pt (pw_and (pt_cmpR op_gt (pv 1) pe_int (nomark _)) (pw_and1 (pt_val (pe_ix ix_seq (pe_fld (pv 0) rfl) (pe_op op_sub (pv 1) pe_int) (fun _ _ => rfl))))))))) (pss_one (ps_rz rfl (takes_of rfl rfl rfl rfl) (pmk_own PySem.F.excBase_ValueError T.x_nf T.g_nf T.k_nf (raises_own T.s_nf T.t_nf) (by exact rfl)))) pss_nil)
  (pss_cons (ps_if (pt_cmpR (op_eqP hr.units) (pv 1) (pv 2) (nomark _)) (pss_one (ps_fld (pv 0) (pe_op op_plus (pe_fld (pv 0) rfl) pe_int) rfl)) (pss_one (ps_asg pe_bl (pg_sub (pe_fld (pv 0) rfl) (pv 1) set_list))))
  (pss_cons (ps_if (pt_cmpR (op_eqP hr.units) (pv 1) pe_int (nomark _)) (pss_one (ps_fld (pv 0) (pe_op op_plus (pe_fld (pv 0) rfl) pe_int) rfl)) (pss_one (ps_asg pe_bl (pg_sub (pe_fld (pv 0) rfl) (pe_op op_sub (pv 1) pe_int) set_list))))
  (pss_one (ps_ret (pe_fld (pv 0) rfl))))))))
theorem ok_m_is_level {f : Addr} {fd : FuncData} (F : Fun K "is_level" "Flight.is_level" st_m_is_level f fd) (T : Tx K mg A)  : FnOk P w K mg base (L2.CX P w) 2 f fd ["self", "gate"] (spD K (Φ_m_is_level A)) :=
  cl_of (t_m_is_level K A) F sc_m_is_level (by intro ds R N M h; first | (obtain ⟨rfl, _⟩ := h; rfl) | (obtain ⟨_, rfl, _⟩ := h; rfl) | (obtain ⟨_, _, rfl, _⟩ := h; rfl) | (obtain ⟨_, _, _, rfl, _⟩ := h; rfl) | (obtain ⟨_, _, _, _, rfl, _⟩ := h; rfl) | (obtain ⟨_, _, _, _, _, rfl, _⟩ := h; rfl) | (obtain ⟨_, _, _, _, _, _, rfl, _⟩ := h; rfl) | (obtain ⟨_, _, _, _, _, _, _, rfl, _⟩ := h; rfl) | (obtain ⟨_, _, _, _, _, _, _, _, rfl, _⟩ := h; rfl) | (obtain ⟨_, _, _, _, _, _, _, _, _, rfl, _⟩ := h; rfl)) (s_m_is_level T.fl) fun cdv Ar outer s H E hr =>
  (pss_cons (ps_set (i := 2) sc_m_is_level.nd rfl (Or.inl rfl) (pe_callB call_len (by rfl) T.b_len (by decide +kernel) (pa_cons (pe_fld (pv 0) rfl) pa_nil)))
  (pss_one (ps_ret (pe_and (pe_or (pe_cmpR (op_eqP hr.units) (pv 1) pe_int (nomark _)) (pe_one (pe_ix ix_seq (pe_fld (pv 0) rfl) (pe_op op_sub (pv 1) pe_int) (fun _ _ => rfl)))) (pe_one (pe_or (pe_cmpR (op_eqP hr.units) (pv 1) (pv 2) (nomark _)) (pe_one (pe_not (pe_ix ix_seq (pe_fld (pv 0) rfl) (pv 1) (fun _ _ => rfl))))))))))
theorem ok_m_sail {f : Addr} {fd : FuncData} (F : Fun K "sail" "Flight.sail" st_m_sail f fd) (T : Tx K mg A) (q_m_place : Mt P w K mg base 2 A.C "place" ["self", "boat"] (spD K (Φ_m_place A))) (q_m_waiting : Mt P w K mg base 3 A.C "waiting" ["self", "side"] (spD K (Φ_m_waiting A))) (q_m_is_level : Mt P w K mg base 2 A.C "is_level" ["self", "gate"] (spD K (Φ_m_is_level A))) (q_m_top : Mt P w K mg base 2 A.C "top" ["self"] (spD K (Φ_m_top A))) (q_m_boats : Mt P w K mg base 3 A.C "boats" ["self"] (spD K (Φ_m_boats A))) : FnOk P w K mg base (L2.CX P w) 4 f fd ["self", "boat"] (spD K (Φ_m_sail A)) :=
  cl_of (t_m_sail K A) F sc_m_sail (by intro ds R N M h; first | (obtain ⟨rfl, _⟩ := h; rfl) | (obtain ⟨_, rfl, _⟩ := h; rfl) | (obtain ⟨_, _, rfl, _⟩ := h; rfl) | (obtain ⟨_, _, _, rfl, _⟩ := h; rfl) | (obtain ⟨_, _, _, _, rfl, _⟩ := h; rfl) | (obtain ⟨_, _, _, _, _, rfl, _⟩ := h; rfl) | (obtain ⟨_, _, _, _, _, _, rfl, _⟩ := h; rfl) | (obtain ⟨_, _, _, _, _, _, _, rfl, _⟩ := h; rfl) | (obtain ⟨_, _, _, _, _, _, _, _, rfl, _⟩ := h; rfl) | (obtain ⟨_, _, _, _, _, _, _, _, _, rfl, _⟩ := h; rfl)) (s_m_sail T.fl) fun cdv Ar outer s H E hr =>
  (pss_cons (ps_set (i := 2) sc_m_sail.nd rfl (Or.inl rfl) (pe_mtS q_m_place hr (by decide) (pasX (takes_of rfl rfl rfl rfl)) (pv 0) (pa_cons (pv 1) pa_nil)))
  (pss_cons (ps_set (i := 3) sc_m_sail.nd rfl (Or.inl rfl) (pe_ix ix_seq (pe_fld (pv 0) rfl) (pv 1) (fun _ _ => rfl)))
  (pss_cons (ps_set (i := 4) sc_m_sail.nd rfl (Or.inl rfl) (pe_mtS q_m_waiting hr (by decide) (pasX (takes_of rfl rfl rfl rfl)) (pv 0) (pa_cons (pv 3) pa_nil)))
  (pss_cons (ps_if (PW.pt (pw_and (pt_cmpR (op_inP hr.units) (pv 1) (pv 4) (by first | exact nomark _ | rfl | with_unfolding_all rfl)) (pw_and1 (pt_cmpR (op_neP hr.units) (pe_ix ix_seq (pv 4) pe_int (fun _ _ => rfl)) (pv 1) (nomark _))))) (pss_one (ps_rz rfl (takes_of rfl rfl rfl rfl) (pmk_own PySem.F.excBase_ValueError T.x_ns T.g_ns T.k_ns (raises_own T.s_ns T.t_ns) (by exact rfl)))) pss_nil)
  (pss_cons (ps_set (i := 5) sc_m_sail.nd rfl (Or.inl rfl) pe_int)
  (pss_cons (ps_set (i := 6) sc_m_sail.nd rfl (Or.inl rfl) (pv 2))
  (pss_cons (ps_if (pt_cmpR (op_eqP hr.units) (pv 3) pe_str (nomark _)) (pss_cons (ps_set (i := 5) sc_m_sail.nd rfl (Or.inl rfl) (pe_un un_neg' pe_int))
  (pss_one (ps_set (i := 6) sc_m_sail.nd rfl (Or.inl rfl) (pe_op op_sub (pv 2) pe_int)))) pss_nil)
  (pss_cons (ps_if (pt_not (pt_val (pe_mtS q_m_is_level hr (by decide) (pasX (takes_of rfl rfl rfl rfl)) (pv 0) (pa_cons (pv 6) pa_nil)))) (pss_one (ps_rz rfl (takes_of rfl rfl rfl rfl) (pmk_own PySem.F.excBase_ValueError T.x_sh T.g_sh T.k_sh (raises_own T.s_sh T.t_sh) (by exact rfl)))) pss_nil)
  (pss_cons (ps_set (i := 7) sc_m_sail.nd rfl (Or.inl rfl) (pe_op op_plus (pv 2) (pv 5)))
  (pss_cons (ps_if (PW.pt (pw_and (pt_chain op_lt op_lt pe_int (pv 7) (pe_mtS0 q_m_top hr (by decide) (pasX (takes_of rfl rfl rfl rfl)) (pv 0))) (pw_and1 (pt_cmpR op_notN' (pe_ix ix_seq (pe_mtS0 q_m_boats hr (by decide) (pasX (takes_of rfl rfl rfl rfl)) (pv 0)) (pe_op op_sub (pv 7) pe_int) (fun _ _ => rfl)) pe_non (nomark _))))) (pss_one (ps_rz rfl (takes_of rfl rfl rfl rfl) (pmk_own PySem.F.excBase_ValueError T.x_oc T.g_oc T.k_oc (raises_own T.s_oc T.t_oc) (by exact rfl)))) pss_nil)
  (pss_cons (ps_dput (hu_of hr) (pe_fld (pv 0) rfl) (pv 1) (pv 7) rfl)
  (pss_cons (ps_if (PW.pt (pw_or (pt_cmpR (op_eqP hr.units) (pv 7) pe_int (nomark _)) (pw_or1 (pt_cmpR (op_eqP hr.units) (pv 7) (pe_mtS0 q_m_top hr (by decide) (pasX (takes_of rfl rfl rfl rfl)) (pv 0)) (nomark _))))) (pss_cons (ps_expr (pe_dpop1 (pe_fld (pv 0) rfl) (pv 1) m1_of))
  (pss_one (ps_expr (pe_bm PySem.F.plainAttrs_list PySem.F.slot_list_append PySem.F.type_list_append mt_append (pe_fld (pv 0) rfl) (pa_cons (pv 1) pa_nil))))) pss_nil)
  (pss_one (ps_ret (pv 7)))))))))))))))
theorem ok_cost_of {f : Addr} {fd : FuncData} (F : Fun K "cost_of" "cost_of" st_cost_of f fd) (T : Tx K mg A)  : FnOk P w K mg base (L2.CX P w) 2 f fd ["levels", "side"] (spD K (Φ_cost_of A)) :=
  cl_of (t_cost_of K A) F sc_cost_of (by intro ds R N M h; first | (obtain ⟨rfl, _⟩ := h; rfl) | (obtain ⟨_, rfl, _⟩ := h; rfl) | (obtain ⟨_, _, rfl, _⟩ := h; rfl) | (obtain ⟨_, _, _, rfl, _⟩ := h; rfl) | (obtain ⟨_, _, _, _, rfl, _⟩ := h; rfl) | (obtain ⟨_, _, _, _, _, rfl, _⟩ := h; rfl) | (obtain ⟨_, _, _, _, _, _, rfl, _⟩ := h; rfl) | (obtain ⟨_, _, _, _, _, _, _, rfl, _⟩ := h; rfl) | (obtain ⟨_, _, _, _, _, _, _, _, rfl, _⟩ := h; rfl) | (obtain ⟨_, _, _, _, _, _, _, _, _, rfl, _⟩ := h; rfl)) s_cost_of fun cdv Ar outer s H E hr =>
  (pss_cons (ps_if (pt_cmpR (op_eqP hr.units) (pv 1) pe_str (nomark _)) (pss_one (ps_ret (pe_op op_plus pe_int (pe_callB call_len (by rfl) T.b_len (by decide +kernel) (pa_cons (pe_lc (own := [("level", 2)]) (g := gName 2) rfl sc_cost_of.nd (pi_list (pe_slice sl_list (pv 0) (po_some pe_int) po_none)) (blkOk_by (own := [("level", 2)]) (N := N_cost_of) (sc := defScope st_cost_of) (by decide +kernel)) (fun _ _ _ _ _ => pg_name (i := 2) sc_cost_of.nd rfl (Or.inl rfl)) (fun _ _ _ _ _ => (pts_one (pt_not (pt_val (pv 2))))) (fun _ _ _ _ _ => (pv 2))) pa_nil))))) pss_nil)
  (pss_one (ps_ret (pe_callTy call_int1 (by rfl) T.b_int (by decide +kernel) (pa_cons (pe_not (pe_ix ix_seq (pv 0) (pe_un un_neg' pe_int) (fun _ _ => rfl))) pa_nil)))))
theorem ok_behind {f : Addr} {fd : FuncData} (F : Fun K "behind" "behind" st_behind f fd) (T : Tx K mg A)  : FnOk P w K mg base (L2.CX P w) 2 f fd ["levels", "side"] (spD K (Φ_behind A)) :=
  cl_of (t_behind K A) F sc_behind (by intro ds R N M h; first | (obtain ⟨rfl, _⟩ := h; rfl) | (obtain ⟨_, rfl, _⟩ := h; rfl) | (obtain ⟨_, _, rfl, _⟩ := h; rfl) | (obtain ⟨_, _, _, rfl, _⟩ := h; rfl) | (obtain ⟨_, _, _, _, rfl, _⟩ := h; rfl) | (obtain ⟨_, _, _, _, _, rfl, _⟩ := h; rfl) | (obtain ⟨_, _, _, _, _, _, rfl, _⟩ := h; rfl) | (obtain ⟨_, _, _, _, _, _, _, rfl, _⟩ := h; rfl) | (obtain ⟨_, _, _, _, _, _, _, _, rfl, _⟩ := h; rfl) | (obtain ⟨_, _, _, _, _, _, _, _, _, rfl, _⟩ := h; rfl)) s_behind fun cdv Ar outer s H E hr =>
  (pss_one (ps_ret (pe_lc (own := [("level", 2)]) (g := gName 2) rfl sc_behind.nd (pi_list (pv 0)) (blkOk_by (own := [("level", 2)]) (N := N_behind) (sc := defScope st_behind) (by decide +kernel)) (fun _ _ _ _ _ => pg_name (i := 2) sc_behind.nd rfl (Or.inl rfl)) (fun _ _ _ _ _ => pts_nil) (fun _ _ _ _ _ => (pe_cmpR (op_eqP hr.units) (pv 1) pe_str (nomark _))))))
theorem ok_cost {f : Addr} {fd : FuncData} (F : Fun K "cost" "cost" st_cost f fd) (T : Tx K mg A) (q_ask_levels : Cl P w K mg base 2 "ask_levels" ["levels"] (spD K (Φ_ask_levels A))) (q_cost_of : Cl P w K mg base 2 "cost_of" ["levels", "side"] (spD K (Φ_cost_of A))) (q_behind : Cl P w K mg base 2 "behind" ["levels", "side"] (spD K (Φ_behind A))) : FnOk P w K mg base (L2.CX P w) 3 f fd ["levels", "order"] (spD K (Φ_cost A)) :=
  cl_of (t_cost K A) F sc_cost (by intro ds R N M h; first | (obtain ⟨rfl, _⟩ := h; rfl) | (obtain ⟨_, rfl, _⟩ := h; rfl) | (obtain ⟨_, _, rfl, _⟩ := h; rfl) | (obtain ⟨_, _, _, rfl, _⟩ := h; rfl) | (obtain ⟨_, _, _, _, rfl, _⟩ := h; rfl) | (obtain ⟨_, _, _, _, _, rfl, _⟩ := h; rfl) | (obtain ⟨_, _, _, _, _, _, rfl, _⟩ := h; rfl) | (obtain ⟨_, _, _, _, _, _, _, rfl, _⟩ := h; rfl) | (obtain ⟨_, _, _, _, _, _, _, _, rfl, _⟩ := h; rfl) | (obtain ⟨_, _, _, _, _, _, _, _, _, rfl, _⟩ := h; rfl)) s_cost fun cdv Ar outer s H E hr =>
  (pss_cons (ps_expr (pe_cl q_ask_levels hr (by decide) (by rfl) (pasX (takes_of rfl rfl rfl rfl)) (pa_cons (pv 0) pa_nil)))
  (pss_cons (ps_set (i := 2) sc_cost.nd rfl (Or.inl rfl) pe_int)
  (pss_cons (ps_for (passes_of rfl) rfl (pi_list (pv 1)) (pg_name (i := 3) sc_cost.nd rfl (Or.inl rfl)) (pss_cons (ps_set (i := 2) sc_cost.nd rfl (Or.inl rfl) (pe_op op_plus (pv 2) (pe_cl q_cost_of hr (by decide) (by rfl) (pasX (takes_of rfl rfl rfl rfl)) (pa_cons (pv 0) (pa_cons (pv 3) pa_nil)))))
  (pss_one (ps_set (i := 0) sc_cost.nd rfl (Or.inl rfl) (pe_cl q_behind hr (by decide) (by rfl) (pasX (takes_of rfl rfl rfl rfl)) (pa_cons (pv 0) (pa_cons (pv 3) pa_nil)))))))
  (pss_one (ps_ret (pv 2))))))
theorem ok_filled {f : Addr} {fd : FuncData} (F : Fun K "filled" "filled" st_filled f fd) (T : Tx K mg A)  : FnOk P w K mg base (L2.CX P w) 2 f fd ["levels", "chamber"] (spD K (Φ_filled A)) :=
  cl_of (t_filled K A) F sc_filled (by intro ds R N M h; first | (obtain ⟨rfl, _⟩ := h; rfl) | (obtain ⟨_, rfl, _⟩ := h; rfl) | (obtain ⟨_, _, rfl, _⟩ := h; rfl) | (obtain ⟨_, _, _, rfl, _⟩ := h; rfl) | (obtain ⟨_, _, _, _, rfl, _⟩ := h; rfl) | (obtain ⟨_, _, _, _, _, rfl, _⟩ := h; rfl) | (obtain ⟨_, _, _, _, _, _, rfl, _⟩ := h; rfl) | (obtain ⟨_, _, _, _, _, _, _, rfl, _⟩ := h; rfl) | (obtain ⟨_, _, _, _, _, _, _, _, rfl, _⟩ := h; rfl) | (obtain ⟨_, _, _, _, _, _, _, _, _, rfl, _⟩ := h; rfl)) s_filled fun cdv Ar outer s H E hr =>
  (pss_cons (ps_set (i := 2) sc_filled.nd rfl (Or.inl rfl) (pv 1))
  (pss_cons (ps_while (passes_of rfl) (PW.pt (pw_and (pt_cmpR op_lt (pv 2) (pe_callB call_len (by rfl) T.b_len (by decide +kernel) (pa_cons (pv 0) pa_nil)) (nomark _)) (pw_and1 (pt_not (pt_val (pe_ix ix_seq (pv 0) (pv 2) (fun _ _ => rfl))))))) (pss_one (ps_set (i := 2) sc_filled.nd rfl (Or.inl rfl) (pe_op op_plus (pv 2) pe_int))))
  (pss_one (ps_ret (pe_lc (own := [("gate", 3)]) (g := gName 3) rfl sc_filled.nd (pi_revR (by rfl) T.b_reversed (prg_2 (by rfl) T.b_range (pv 1) (pe_op op_plus (pv 2) pe_int))) (blkOk_by (own := [("gate", 3)]) (N := N_filled) (sc := defScope st_filled) (by decide +kernel)) (fun _ _ _ _ _ => pg_name (i := 3) sc_filled.nd rfl (Or.inl rfl)) (fun _ _ _ _ _ => pts_nil) (fun _ _ _ _ _ => (pe_tup (pa_cons pe_str (pa_cons (pv 3) pa_nil)))))))))
theorem ok_emptied {f : Addr} {fd : FuncData} (F : Fun K "emptied" "emptied" st_emptied f fd) (T : Tx K mg A)  : FnOk P w K mg base (L2.CX P w) 2 f fd ["levels", "chamber"] (spD K (Φ_emptied A)) :=
  cl_of (t_emptied K A) F sc_emptied (by intro ds R N M h; first | (obtain ⟨rfl, _⟩ := h; rfl) | (obtain ⟨_, rfl, _⟩ := h; rfl) | (obtain ⟨_, _, rfl, _⟩ := h; rfl) | (obtain ⟨_, _, _, rfl, _⟩ := h; rfl) | (obtain ⟨_, _, _, _, rfl, _⟩ := h; rfl) | (obtain ⟨_, _, _, _, _, rfl, _⟩ := h; rfl) | (obtain ⟨_, _, _, _, _, _, rfl, _⟩ := h; rfl) | (obtain ⟨_, _, _, _, _, _, _, rfl, _⟩ := h; rfl) | (obtain ⟨_, _, _, _, _, _, _, _, rfl, _⟩ := h; rfl) | (obtain ⟨_, _, _, _, _, _, _, _, _, rfl, _⟩ := h; rfl)) s_emptied fun cdv Ar outer s H E hr =>
  (pss_cons (ps_set (i := 2) sc_emptied.nd rfl (Or.inl rfl) (pe_op op_sub (pv 1) pe_int))
  (pss_cons (ps_while (passes_of rfl) (PW.pt (pw_and (pt_cmpR op_gt (pv 2) pe_int (nomark _)) (pw_and1 (pt_val (pe_ix ix_seq (pv 0) (pe_op op_sub (pv 2) pe_int) (fun _ _ => rfl)))))) (pss_one (ps_set (i := 2) sc_emptied.nd rfl (Or.inl rfl) (pe_op op_sub (pv 2) pe_int))))
  (pss_one (ps_ret (pe_lc (own := [("gate", 3)]) (g := gName 3) rfl sc_emptied.nd (pi_range2 (by rfl) T.b_range (pa_cons (pv 2) (pa_cons (pv 1) pa_nil))) (blkOk_by (own := [("gate", 3)]) (N := N_emptied) (sc := defScope st_emptied) (by decide +kernel)) (fun _ _ _ _ _ => pg_name (i := 3) sc_emptied.nd rfl (Or.inl rfl)) (fun _ _ _ _ _ => pts_nil) (fun _ _ _ _ _ => (pe_tup (pa_cons pe_str (pa_cons (pv 3) pa_nil)))))))))
theorem ok_let_all {f : Addr} {fd : FuncData} (F : Fun K "let_all" "let_all" st_let_all f fd) (T : Tx K mg A)  : FnOk P w K mg base (L2.CX P w) 2 f fd ["levels", "deeds"] (spD K (Φ_let_all A)) :=
  cl_of (t_let_all K A) F sc_let_all (by intro ds R N M h; first | (obtain ⟨rfl, _⟩ := h; rfl) | (obtain ⟨_, rfl, _⟩ := h; rfl) | (obtain ⟨_, _, rfl, _⟩ := h; rfl) | (obtain ⟨_, _, _, rfl, _⟩ := h; rfl) | (obtain ⟨_, _, _, _, rfl, _⟩ := h; rfl) | (obtain ⟨_, _, _, _, _, rfl, _⟩ := h; rfl) | (obtain ⟨_, _, _, _, _, _, rfl, _⟩ := h; rfl) | (obtain ⟨_, _, _, _, _, _, _, rfl, _⟩ := h; rfl) | (obtain ⟨_, _, _, _, _, _, _, _, rfl, _⟩ := h; rfl) | (obtain ⟨_, _, _, _, _, _, _, _, _, rfl, _⟩ := h; rfl)) s_let_all fun cdv Ar outer s H E hr =>
  (pss_cons (ps_set (i := 2) sc_let_all.nd rfl (Or.inl rfl) (pe_callTy call_list_of (by rfl) T.b_list (by decide +kernel) (pa_cons (pv 0) pa_nil)))
  (pss_cons (ps_for (passes_of rfl) rfl (pi_list (pv 1)) (pg_name (i := 3) sc_let_all.nd rfl (Or.inl rfl)) (pss_cons (ps_if (pt_cmpR op_lt (pe_ix ix_seq (pv 3) pe_int (fun _ _ => rfl)) (pe_callB call_len (by rfl) T.b_len (by decide +kernel) (pa_cons (pv 2) pa_nil)) (nomark _)) (pss_one (ps_asg pe_bl (pg_sub (pv 2) (pe_ix ix_seq (pv 3) pe_int (fun _ _ => rfl)) set_list))) pss_nil)
  (pss_one (ps_if (pt_cmpR op_gt (pe_ix ix_seq (pv 3) pe_int (fun _ _ => rfl)) pe_int (nomark _)) (pss_one (ps_asg pe_bl (pg_sub (pv 2) (pe_op op_sub (pe_ix ix_seq (pv 3) pe_int (fun _ _ => rfl)) pe_int) set_list))) pss_nil))))
  (pss_one (ps_ret (pv 2)))))
theorem ok_put {f : Addr} {fd : FuncData} (F : Fun K "put" "put" st_put f fd) (T : Tx K mg A) (q_let_all : Cl P w K mg base 2 "let_all" ["levels", "deeds"] (spD K (Φ_let_all A))) : FnOk P w K mg base (L2.CX P w) 3 f fd ["levels", "deeds", "more"] (spD K (Φ_put A)) :=
  cl_of (t_put K A) F sc_put (by intro ds R N M h; first | (obtain ⟨rfl, _⟩ := h; rfl) | (obtain ⟨_, rfl, _⟩ := h; rfl) | (obtain ⟨_, _, rfl, _⟩ := h; rfl) | (obtain ⟨_, _, _, rfl, _⟩ := h; rfl) | (obtain ⟨_, _, _, _, rfl, _⟩ := h; rfl) | (obtain ⟨_, _, _, _, _, rfl, _⟩ := h; rfl) | (obtain ⟨_, _, _, _, _, _, rfl, _⟩ := h; rfl) | (obtain ⟨_, _, _, _, _, _, _, rfl, _⟩ := h; rfl) | (obtain ⟨_, _, _, _, _, _, _, _, rfl, _⟩ := h; rfl) | (obtain ⟨_, _, _, _, _, _, _, _, _, rfl, _⟩ := h; rfl)) s_put fun cdv Ar outer s H E hr =>
  (pss_cons (ps_expr (pe_bm PySem.F.plainAttrs_list PySem.F.slot_list_extend PySem.F.type_list_extend mt_extend (pv 1) (pa_cons (pv 2) pa_nil)))
  (pss_one (ps_ret (pe_cl q_let_all hr (by decide) (by rfl) (pasX (takes_of rfl rfl rfl rfl)) (pa_cons (pv 0) (pa_cons (pv 2) pa_nil))))))
theorem ok_passage_up {f : Addr} {fd : FuncData} (F : Fun K "passage_up" "passage_up" st_passage_up f fd) (T : Tx K mg A) (q_emptied : Cl P w K mg base 2 "emptied" ["levels", "chamber"] (spD K (Φ_emptied A))) (q_put : Cl P w K mg base 3 "put" ["levels", "deeds", "more"] (spD K (Φ_put A))) (q_filled : Cl P w K mg base 2 "filled" ["levels", "chamber"] (spD K (Φ_filled A))) : FnOk P w K mg base (L2.CX P w) 4 f fd ["levels", "boat", "deeds"] (spD K (Φ_passage_up A)) :=
  cl_of (t_passage_up K A) F sc_passage_up (by intro ds R N M h; first | (obtain ⟨rfl, _⟩ := h; rfl) | (obtain ⟨_, rfl, _⟩ := h; rfl) | (obtain ⟨_, _, rfl, _⟩ := h; rfl) | (obtain ⟨_, _, _, rfl, _⟩ := h; rfl) | (obtain ⟨_, _, _, _, rfl, _⟩ := h; rfl) | (obtain ⟨_, _, _, _, _, rfl, _⟩ := h; rfl) | (obtain ⟨_, _, _, _, _, _, rfl, _⟩ := h; rfl) | (obtain ⟨_, _, _, _, _, _, _, rfl, _⟩ := h; rfl) | (obtain ⟨_, _, _, _, _, _, _, _, rfl, _⟩ := h; rfl) | (obtain ⟨_, _, _, _, _, _, _, _, _, rfl, _⟩ := h; rfl)) s_passage_up fun cdv Ar outer s H E hr =>
  (pss_cons (ps_if (pt_val (pe_ix ix_seq (pv 0) pe_int (fun _ _ => rfl))) (pss_one (ps_set (i := 0) sc_passage_up.nd rfl (Or.inl rfl) (pe_cl q_put hr (by decide) (by rfl) (pasX (takes_of rfl rfl rfl rfl)) (pa_cons (pv 0) (pa_cons (pv 2) (pa_cons (pe_cl q_emptied hr (by decide) (by rfl) (pasX (takes_of rfl rfl rfl rfl)) (pa_cons (pv 0) (pa_cons pe_int pa_nil))) pa_nil)))))) pss_nil)
  (pss_cons (ps_expr (pe_bm PySem.F.plainAttrs_list PySem.F.slot_list_append PySem.F.type_list_append mt_append (pv 2) (pa_cons (pe_tup (pa_cons pe_str (pa_cons (pv 1) pa_nil))) pa_nil)))
  (pss_cons (ps_for (passes_of rfl) rfl (pi_range2 (by rfl) T.b_range (pa_cons pe_int (pa_cons (pe_op op_plus (pe_callB call_len (by rfl) T.b_len (by decide +kernel) (pa_cons (pv 0) pa_nil)) pe_int) pa_nil))) (pg_name (i := 3) sc_passage_up.nd rfl (Or.inl rfl)) (pss_cons (ps_set (i := 0) sc_passage_up.nd rfl (Or.inl rfl) (pe_cl q_put hr (by decide) (by rfl) (pasX (takes_of rfl rfl rfl rfl)) (pa_cons (pv 0) (pa_cons (pv 2) (pa_cons (pe_cl q_filled hr (by decide) (by rfl) (pasX (takes_of rfl rfl rfl rfl)) (pa_cons (pv 0) (pa_cons (pv 3) pa_nil))) pa_nil)))))
  (pss_one (ps_expr (pe_bm PySem.F.plainAttrs_list PySem.F.slot_list_append PySem.F.type_list_append mt_append (pv 2) (pa_cons (pe_tup (pa_cons pe_str (pa_cons (pv 1) pa_nil))) pa_nil))))))
  (pss_one (ps_ret (pv 0))))))
theorem ok_passage_down {f : Addr} {fd : FuncData} (F : Fun K "passage_down" "passage_down" st_passage_down f fd) (T : Tx K mg A) (q_filled : Cl P w K mg base 2 "filled" ["levels", "chamber"] (spD K (Φ_filled A))) (q_put : Cl P w K mg base 3 "put" ["levels", "deeds", "more"] (spD K (Φ_put A))) (q_emptied : Cl P w K mg base 2 "emptied" ["levels", "chamber"] (spD K (Φ_emptied A))) : FnOk P w K mg base (L2.CX P w) 4 f fd ["levels", "boat", "deeds"] (spD K (Φ_passage_down A)) :=
  cl_of (t_passage_down K A) F sc_passage_down (by intro ds R N M h; first | (obtain ⟨rfl, _⟩ := h; rfl) | (obtain ⟨_, rfl, _⟩ := h; rfl) | (obtain ⟨_, _, rfl, _⟩ := h; rfl) | (obtain ⟨_, _, _, rfl, _⟩ := h; rfl) | (obtain ⟨_, _, _, _, rfl, _⟩ := h; rfl) | (obtain ⟨_, _, _, _, _, rfl, _⟩ := h; rfl) | (obtain ⟨_, _, _, _, _, _, rfl, _⟩ := h; rfl) | (obtain ⟨_, _, _, _, _, _, _, rfl, _⟩ := h; rfl) | (obtain ⟨_, _, _, _, _, _, _, _, rfl, _⟩ := h; rfl) | (obtain ⟨_, _, _, _, _, _, _, _, _, rfl, _⟩ := h; rfl)) s_passage_down fun cdv Ar outer s H E hr =>
  (pss_cons (ps_if (pt_not (pt_val (pe_ix ix_seq (pv 0) (pe_un un_neg' pe_int) (fun _ _ => rfl)))) (pss_one (ps_set (i := 0) sc_passage_down.nd rfl (Or.inl rfl) (pe_cl q_put hr (by decide) (by rfl) (pasX (takes_of rfl rfl rfl rfl)) (pa_cons (pv 0) (pa_cons (pv 2) (pa_cons (pe_cl q_filled hr (by decide) (by rfl) (pasX (takes_of rfl rfl rfl rfl)) (pa_cons (pv 0) (pa_cons (pe_callB call_len (by rfl) T.b_len (by decide +kernel) (pa_cons (pv 0) pa_nil)) pa_nil))) pa_nil)))))) pss_nil)
  (pss_cons (ps_expr (pe_bm PySem.F.plainAttrs_list PySem.F.slot_list_append PySem.F.type_list_append mt_append (pv 2) (pa_cons (pe_tup (pa_cons pe_str (pa_cons (pv 1) pa_nil))) pa_nil)))
  (pss_cons (ps_for (passes_of rfl) rfl (pi_revR (by rfl) T.b_reversed (prg_2 (by rfl) T.b_range pe_int (pe_op op_plus (pe_callB call_len (by rfl) T.b_len (by decide +kernel) (pa_cons (pv 0) pa_nil)) pe_int))) (pg_name (i := 3) sc_passage_down.nd rfl (Or.inl rfl)) (pss_cons (ps_set (i := 0) sc_passage_down.nd rfl (Or.inl rfl) (pe_cl q_put hr (by decide) (by rfl) (pasX (takes_of rfl rfl rfl rfl)) (pa_cons (pv 0) (pa_cons (pv 2) (pa_cons (pe_cl q_emptied hr (by decide) (by rfl) (pasX (takes_of rfl rfl rfl rfl)) (pa_cons (pv 0) (pa_cons (pv 3) pa_nil))) pa_nil)))))
  (pss_one (ps_expr (pe_bm PySem.F.plainAttrs_list PySem.F.slot_list_append PySem.F.type_list_append mt_append (pv 2) (pa_cons (pe_tup (pa_cons pe_str (pa_cons (pv 1) pa_nil))) pa_nil))))))
  (pss_one (ps_ret (pv 0))))))
theorem ok_plan {f : Addr} {fd : FuncData} (F : Fun K "plan" "plan" st_plan f fd) (T : Tx K mg A) (q_ask_levels : Cl P w K mg base 2 "ask_levels" ["levels"] (spD K (Φ_ask_levels A))) (q_passage_up : Cl P w K mg base 4 "passage_up" ["levels", "boat", "deeds"] (spD K (Φ_passage_up A))) (q_passage_down : Cl P w K mg base 4 "passage_down" ["levels", "boat", "deeds"] (spD K (Φ_passage_down A))) : FnOk P w K mg base (L2.CX P w) 5 f fd ["levels", "order"] (spD K (Φ_plan A)) :=
  cl_of (t_plan K A) F sc_plan (by intro ds R N M h; first | (obtain ⟨rfl, _⟩ := h; rfl) | (obtain ⟨_, rfl, _⟩ := h; rfl) | (obtain ⟨_, _, rfl, _⟩ := h; rfl) | (obtain ⟨_, _, _, rfl, _⟩ := h; rfl) | (obtain ⟨_, _, _, _, rfl, _⟩ := h; rfl) | (obtain ⟨_, _, _, _, _, rfl, _⟩ := h; rfl) | (obtain ⟨_, _, _, _, _, _, rfl, _⟩ := h; rfl) | (obtain ⟨_, _, _, _, _, _, _, rfl, _⟩ := h; rfl) | (obtain ⟨_, _, _, _, _, _, _, _, rfl, _⟩ := h; rfl) | (obtain ⟨_, _, _, _, _, _, _, _, _, rfl, _⟩ := h; rfl)) s_plan fun cdv Ar outer s H E hr =>
  (pss_cons (ps_expr (pe_cl q_ask_levels hr (by decide) (by rfl) (pasX (takes_of rfl rfl rfl rfl)) (pa_cons (pv 0) pa_nil)))
  (pss_cons (ps_set (i := 2) sc_plan.nd rfl (Or.inl rfl) (pe_lst pa_nil))
  (pss_cons (ps_for (passes_of rfl) rfl (pi_range1 (by rfl) T.b_range (pa_cons (pe_callB call_len (by rfl) T.b_len (by decide +kernel) (pa_cons (pv 1) pa_nil)) pa_nil)) (pg_name (i := 3) sc_plan.nd rfl (Or.inl rfl)) (pss_one (ps_if (pt_cmpR (op_eqP hr.units) (pe_ix ix_seq (pv 1) (pv 3) (fun _ _ => rfl)) pe_str (nomark _)) (pss_one (ps_set (i := 0) sc_plan.nd rfl (Or.inl rfl) (pe_cl q_passage_up hr (by decide) (by rfl) (pasX (takes_of rfl rfl rfl rfl)) (pa_cons (pv 0) (pa_cons (pv 3) (pa_cons (pv 2) pa_nil)))))) (pss_one (ps_set (i := 0) sc_plan.nd rfl (Or.inl rfl) (pe_cl q_passage_down hr (by decide) (by rfl) (pasX (takes_of rfl rfl rfl rfl)) (pa_cons (pv 0) (pa_cons (pv 3) (pa_cons (pv 2) pa_nil)))))))))
  (pss_one (ps_ret (pv 2))))))
theorem ok_law_cell_at {f : Addr} {fd : FuncData} (F : Fun K "_law_cell_at" "_law_cell_at" st_law_cell_at f fd) (T : Tx K mg A)  : FnOk P w K mg base (L2.CX P w) 2 f fd ["script", "k"] (spD K (Φ_law_cell_at A)) :=
  cl_of (t_law_cell_at K A) F sc_law_cell_at (by intro ds R N M h; first | (obtain ⟨rfl, _⟩ := h; rfl) | (obtain ⟨_, rfl, _⟩ := h; rfl) | (obtain ⟨_, _, rfl, _⟩ := h; rfl) | (obtain ⟨_, _, _, rfl, _⟩ := h; rfl) | (obtain ⟨_, _, _, _, rfl, _⟩ := h; rfl) | (obtain ⟨_, _, _, _, _, rfl, _⟩ := h; rfl) | (obtain ⟨_, _, _, _, _, _, rfl, _⟩ := h; rfl) | (obtain ⟨_, _, _, _, _, _, _, rfl, _⟩ := h; rfl) | (obtain ⟨_, _, _, _, _, _, _, _, rfl, _⟩ := h; rfl) | (obtain ⟨_, _, _, _, _, _, _, _, _, rfl, _⟩ := h; rfl)) s_law_cell_at fun cdv Ar outer s H E hr =>
  (pss_cons (ps_if (pt_cmpR op_lt (pv 1) (pe_callB call_len (by rfl) T.b_len (by decide +kernel) (pa_cons (pv 0) pa_nil)) (nomark _)) (pss_one (ps_ret (pe_ix ix_seq (pv 0) (pv 1) (fun _ _ => rfl)))) pss_nil)
  (pss_one (ps_ret pe_int)))
theorem ok_law_whole {f : Addr} {fd : FuncData} (F : Fun K "_law_whole" "_law_whole" st_law_whole f fd) (T : Tx K mg A)  : FnOk P w K mg base (L2.CX P w) 2 f fd ["found"] (spD K (Φ_law_whole A)) :=
  cl_of (t_law_whole K A) F sc_law_whole (by intro ds R N M h; first | (obtain ⟨rfl, _⟩ := h; rfl) | (obtain ⟨_, rfl, _⟩ := h; rfl) | (obtain ⟨_, _, rfl, _⟩ := h; rfl) | (obtain ⟨_, _, _, rfl, _⟩ := h; rfl) | (obtain ⟨_, _, _, _, rfl, _⟩ := h; rfl) | (obtain ⟨_, _, _, _, _, rfl, _⟩ := h; rfl) | (obtain ⟨_, _, _, _, _, _, rfl, _⟩ := h; rfl) | (obtain ⟨_, _, _, _, _, _, _, rfl, _⟩ := h; rfl) | (obtain ⟨_, _, _, _, _, _, _, _, rfl, _⟩ := h; rfl) | (obtain ⟨_, _, _, _, _, _, _, _, _, rfl, _⟩ := h; rfl)) s_law_whole fun cdv Ar outer s H E hr =>
  (pss_one (ps_ret (pe_and (pe_callB call_isi (by rfl) T.b_isinstance (by decide +kernel) (pa_cons (pv 0) (pa_cons (pe_bltn (v := .ty "int") (by rfl) T.b_int (by decide +kernel) rfl) pa_nil))) (pe_one (pe_not (pe_callB call_isi (by rfl) T.b_isinstance (by decide +kernel) (pa_cons (pv 0) (pa_cons (pe_bltn (v := .ty "bool") (by rfl) T.b_bool (by decide +kernel) rfl) pa_nil))))))))
theorem ok_law_levels {f : Addr} {fd : FuncData} (F : Fun K "_law_levels" "_law_levels" st_law_levels f fd) (T : Tx K mg A) (q_law_cell_at : Cl P w K mg base 2 "_law_cell_at" ["script", "k"] (spD K (Φ_law_cell_at A))) : FnOk P w K mg base (L2.CX P w) 3 f fd ["script", "start"] (spD K (Φ_law_levels A)) :=
  cl_of (t_law_levels K A) F sc_law_levels (by intro ds R N M h; first | (obtain ⟨rfl, _⟩ := h; rfl) | (obtain ⟨_, rfl, _⟩ := h; rfl) | (obtain ⟨_, _, rfl, _⟩ := h; rfl) | (obtain ⟨_, _, _, rfl, _⟩ := h; rfl) | (obtain ⟨_, _, _, _, rfl, _⟩ := h; rfl) | (obtain ⟨_, _, _, _, _, rfl, _⟩ := h; rfl) | (obtain ⟨_, _, _, _, _, _, rfl, _⟩ := h; rfl) | (obtain ⟨_, _, _, _, _, _, _, rfl, _⟩ := h; rfl) | (obtain ⟨_, _, _, _, _, _, _, _, rfl, _⟩ := h; rfl) | (obtain ⟨_, _, _, _, _, _, _, _, _, rfl, _⟩ := h; rfl)) s_law_levels fun cdv Ar outer s H E hr =>
  (pss_cons (ps_set (i := 2) sc_law_levels.nd rfl (Or.inl rfl) (pe_op op_plus pe_int (pe_op op_mod (pe_cl q_law_cell_at hr (by decide) (by rfl) (pasX (takes_of rfl rfl rfl rfl)) (pa_cons (pv 0) (pa_cons (pv 1) pa_nil))) pe_int)))
  (pss_cons (ps_if (pt_cmpR (op_eqP hr.units) (pe_op op_mod (pe_op op_fdiv (pe_cl q_law_cell_at hr (by decide) (by rfl) (pasX (takes_of rfl rfl rfl rfl)) (pa_cons (pv 0) (pa_cons (pv 1) pa_nil))) pe_int) pe_int) pe_int (nomark _)) (pss_one (ps_set (i := 2) sc_law_levels.nd rfl (Or.inl rfl) (pe_op op_plus pe_int (pe_op op_mod (pe_op op_fdiv (pe_cl q_law_cell_at hr (by decide) (by rfl) (pasX (takes_of rfl rfl rfl rfl)) (pa_cons (pv 0) (pa_cons (pv 1) pa_nil))) pe_int) pe_int)))) pss_nil)
  (pss_cons (ps_set (i := 3) sc_law_levels.nd rfl (Or.inr rfl) (pe_cl q_law_cell_at hr (by decide) (by rfl) (pasX (takes_of rfl rfl rfl rfl)) (pa_cons (pv 0) (pa_cons (pe_op op_plus (pv 1) pe_int) pa_nil))))
  (pss_one (ps_ret (pe_lc (own := [("k", 4)]) (g := gName 4) rfl sc_law_levels.nd (pi_range1 (by rfl) T.b_range (pa_cons (pv 2) pa_nil)) (blkOk_by (own := [("k", 4)]) (N := N_law_levels) (sc := defScope st_law_levels) (by decide +kernel)) (fun _ _ _ _ _ => pg_name (i := 4) sc_law_levels.nd rfl (Or.inl rfl)) (fun _ _ _ _ _ => pts_nil) (fun _ _ _ _ _ => (pe_cmpR (op_eqP hr.units) (pe_op op_mod (pe_op op_fdiv (pv 3) (pe_ix ix_seq (pe_lst (pa_cons pe_int (pa_cons pe_int (pa_cons pe_int (pa_cons pe_int (pa_cons pe_int (pa_cons pe_int (pa_cons pe_int (pa_cons pe_int pa_nil))))))))) (pv 4) (fun _ _ => rfl))) pe_int) pe_int (nomark _)))))))))
theorem ok_law_order {f : Addr} {fd : FuncData} (F : Fun K "_law_order" "_law_order" st_law_order f fd) (T : Tx K mg A) (q_law_cell_at : Cl P w K mg base 2 "_law_cell_at" ["script", "k"] (spD K (Φ_law_cell_at A))) : FnOk P w K mg base (L2.CX P w) 3 f fd ["script", "start", "size"] (spD K (Φ_law_order A)) :=
  cl_of (t_law_order K A) F sc_law_order (by intro ds R N M h; first | (obtain ⟨rfl, _⟩ := h; rfl) | (obtain ⟨_, rfl, _⟩ := h; rfl) | (obtain ⟨_, _, rfl, _⟩ := h; rfl) | (obtain ⟨_, _, _, rfl, _⟩ := h; rfl) | (obtain ⟨_, _, _, _, rfl, _⟩ := h; rfl) | (obtain ⟨_, _, _, _, _, rfl, _⟩ := h; rfl) | (obtain ⟨_, _, _, _, _, _, rfl, _⟩ := h; rfl) | (obtain ⟨_, _, _, _, _, _, _, rfl, _⟩ := h; rfl) | (obtain ⟨_, _, _, _, _, _, _, _, rfl, _⟩ := h; rfl) | (obtain ⟨_, _, _, _, _, _, _, _, _, rfl, _⟩ := h; rfl)) s_law_order fun cdv Ar outer s H E hr =>
  (pss_one (ps_ret (pe_lc (own := [("k", 3)]) (g := gName 3) rfl sc_law_order.nd (pi_range1 (by rfl) T.b_range (pa_cons (pv 2) pa_nil)) (blkOk_by (own := [("k", 3)]) (N := N_law_order) (sc := defScope st_law_order) (by decide +kernel)) (fun _ _ _ _ _ => pg_name (i := 3) sc_law_order.nd rfl (Or.inl rfl)) (fun _ _ _ _ _ => pts_nil) (fun _ _ _ _ _ => (pe_ix ix_seq (pe_lst (pa_cons pe_str (pa_cons pe_str pa_nil))) (pe_op op_mod (pe_op op_fdiv (pe_cl q_law_cell_at hr (by decide) (by rfl) pasN (pa_cons (pv 0) (pa_cons (pe_op op_plus (pv 1) (pv 3)) pa_nil))) pe_int) pe_int) (fun _ _ => rfl))))))
theorem ok_law_bools {f : Addr} {fd : FuncData} (F : Fun K "_law_bools" "_law_bools" st_law_bools f fd) (T : Tx K mg A)  : FnOk P w K mg base (L2.CX P w) 2 f fd ["found", "due"] (spD K (Φ_law_bools A)) :=
  cl_of (t_law_bools K A) F sc_law_bools (by intro ds R N M h; first | (obtain ⟨rfl, _⟩ := h; rfl) | (obtain ⟨_, rfl, _⟩ := h; rfl) | (obtain ⟨_, _, rfl, _⟩ := h; rfl) | (obtain ⟨_, _, _, rfl, _⟩ := h; rfl) | (obtain ⟨_, _, _, _, rfl, _⟩ := h; rfl) | (obtain ⟨_, _, _, _, _, rfl, _⟩ := h; rfl) | (obtain ⟨_, _, _, _, _, _, rfl, _⟩ := h; rfl) | (obtain ⟨_, _, _, _, _, _, _, rfl, _⟩ := h; rfl) | (obtain ⟨_, _, _, _, _, _, _, _, rfl, _⟩ := h; rfl) | (obtain ⟨_, _, _, _, _, _, _, _, _, rfl, _⟩ := h; rfl)) s_law_bools fun cdv Ar outer s H E hr =>
  (pss_cons (ps_if (PW.pt (pw_or (pt_not (pt_val (pe_callB call_isi (by rfl) T.b_isinstance (by decide +kernel) (pa_cons (pv 0) (pa_cons (pe_bltn (v := .ty "list") (by rfl) T.b_list (by decide +kernel) rfl) pa_nil))))) (pw_or1 (pt_cmpR (op_neP hr.units) (pe_callB call_len (by rfl) T.b_len (by decide +kernel) (pa_cons (pv 0) pa_nil)) (pe_callB call_len (by rfl) T.b_len (by decide +kernel) (pa_cons (pv 1) pa_nil)) (nomark _))))) (pss_one (ps_ret pe_bl)) pss_nil)
  (pss_one (ps_ret (pe_and (pe_callB (cr_all rfl) (by rfl) T.b_all (by decide +kernel) (pa_cons (pe_lc (own := [("one", 2)]) (g := gName 2) rfl sc_law_bools.nd (pi_list (pv 0)) (blkOk_by (own := [("one", 2)]) (N := N_law_bools) (sc := defScope st_law_bools) (by decide +kernel)) (fun _ _ _ _ _ => pg_name (i := 2) sc_law_bools.nd rfl (Or.inl rfl)) (fun _ _ _ _ _ => pts_nil) (fun _ _ _ _ _ => (pe_callB call_isi (by rfl) T.b_isinstance (by decide +kernel) (pa_cons (pv 2) (pa_cons (pe_bltn (v := .ty "bool") (by rfl) T.b_bool (by decide +kernel) rfl) pa_nil))))) pa_nil)) (pe_one (pe_cmpR (op_eqP hr.units) (pv 0) (pv 1) (nomark _)))))))
theorem ok_law_numbers {f : Addr} {fd : FuncData} (F : Fun K "_law_numbers" "_law_numbers" st_law_numbers f fd) (T : Tx K mg A) (q_law_whole : Cl P w K mg base 2 "_law_whole" ["found"] (spD K (Φ_law_whole A))) : FnOk P w K mg base (L2.CX P w) 3 f fd ["found", "due"] (spD K (Φ_law_numbers A)) :=
  cl_of (t_law_numbers K A) F sc_law_numbers (by intro ds R N M h; first | (obtain ⟨rfl, _⟩ := h; rfl) | (obtain ⟨_, rfl, _⟩ := h; rfl) | (obtain ⟨_, _, rfl, _⟩ := h; rfl) | (obtain ⟨_, _, _, rfl, _⟩ := h; rfl) | (obtain ⟨_, _, _, _, rfl, _⟩ := h; rfl) | (obtain ⟨_, _, _, _, _, rfl, _⟩ := h; rfl) | (obtain ⟨_, _, _, _, _, _, rfl, _⟩ := h; rfl) | (obtain ⟨_, _, _, _, _, _, _, rfl, _⟩ := h; rfl) | (obtain ⟨_, _, _, _, _, _, _, _, rfl, _⟩ := h; rfl) | (obtain ⟨_, _, _, _, _, _, _, _, _, rfl, _⟩ := h; rfl)) s_law_numbers fun cdv Ar outer s H E hr =>
  (pss_cons (ps_if (PW.pt (pw_or (pt_not (pt_val (pe_callB call_isi (by rfl) T.b_isinstance (by decide +kernel) (pa_cons (pv 0) (pa_cons (pe_bltn (v := .ty "list") (by rfl) T.b_list (by decide +kernel) rfl) pa_nil))))) (pw_or1 (pt_cmpR (op_neP hr.units) (pe_callB call_len (by rfl) T.b_len (by decide +kernel) (pa_cons (pv 0) pa_nil)) (pe_callB call_len (by rfl) T.b_len (by decide +kernel) (pa_cons (pv 1) pa_nil)) (nomark _))))) (pss_one (ps_ret pe_bl)) pss_nil)
  (pss_one (ps_ret (pe_and (pe_callB (cr_all rfl) (by rfl) T.b_all (by decide +kernel) (pa_cons (pe_lc (own := [("one", 2)]) (g := gName 2) rfl sc_law_numbers.nd (pi_list (pv 0)) (blkOk_by (own := [("one", 2)]) (N := N_law_numbers) (sc := defScope st_law_numbers) (by decide +kernel)) (fun _ _ _ _ _ => pg_name (i := 2) sc_law_numbers.nd rfl (Or.inl rfl)) (fun _ _ _ _ _ => pts_nil) (fun _ _ _ _ _ => (pe_cl q_law_whole hr (by decide) (by rfl) pasN (pa_cons (pv 2) pa_nil)))) pa_nil)) (pe_one (pe_cmpR (op_eqP hr.units) (pv 0) (pv 1) (nomark _)))))))
theorem ok_law_new {f : Addr} {fd : FuncData} (F : Fun K "_law_new" "_law_new" st_law_new f fd) (T : Tx K mg A)  : FnOk P w K mg base (L2.CX P w) 2 f fd ["levels"] (spD K (Φ_law_new A)) :=
  cl_of (t_law_new K A) F sc_law_new (by intro ds R N M h; first | (obtain ⟨rfl, _⟩ := h; rfl) | (obtain ⟨_, rfl, _⟩ := h; rfl) | (obtain ⟨_, _, rfl, _⟩ := h; rfl) | (obtain ⟨_, _, _, rfl, _⟩ := h; rfl) | (obtain ⟨_, _, _, _, rfl, _⟩ := h; rfl) | (obtain ⟨_, _, _, _, _, rfl, _⟩ := h; rfl) | (obtain ⟨_, _, _, _, _, _, rfl, _⟩ := h; rfl) | (obtain ⟨_, _, _, _, _, _, _, rfl, _⟩ := h; rfl) | (obtain ⟨_, _, _, _, _, _, _, _, rfl, _⟩ := h; rfl) | (obtain ⟨_, _, _, _, _, _, _, _, _, rfl, _⟩ := h; rfl)) s_law_new fun cdv Ar outer s H E hr =>
  (pss_one (ps_ret (pe_disp (pps_cons pe_str (pe_callTy call_list_of (by rfl) T.b_list (by decide +kernel) (pa_cons (pv 0) pa_nil)) (pps_cons pe_str (pe_lst pa_nil) (pps_cons pe_str pe_dnewK (pps_cons pe_str (pe_lst pa_nil) (pps_cons pe_str pe_int (pps_cons pe_str pe_int pps_nil)))))) (by rfl) (by rfl) (fun z => by cases z) (by decide))))
theorem ok_law_let_word {f : Addr} {fd : FuncData} (F : Fun K "_law_let_word" "_law_let_word" st_law_let_word f fd) (T : Tx K mg A)  : FnOk P w K mg base (L2.CX P w) 2 f fd ["state", "gate"] (spD K (Φ_law_let_word A)) :=
  cl_of (t_law_let_word K A) F sc_law_let_word (by intro ds R N M h; first | (obtain ⟨rfl, _⟩ := h; rfl) | (obtain ⟨_, rfl, _⟩ := h; rfl) | (obtain ⟨_, _, rfl, _⟩ := h; rfl) | (obtain ⟨_, _, _, rfl, _⟩ := h; rfl) | (obtain ⟨_, _, _, _, rfl, _⟩ := h; rfl) | (obtain ⟨_, _, _, _, _, rfl, _⟩ := h; rfl) | (obtain ⟨_, _, _, _, _, _, rfl, _⟩ := h; rfl) | (obtain ⟨_, _, _, _, _, _, _, rfl, _⟩ := h; rfl) | (obtain ⟨_, _, _, _, _, _, _, _, rfl, _⟩ := h; rfl) | (obtain ⟨_, _, _, _, _, _, _, _, _, rfl, _⟩ := h; rfl)) s_law_let_word fun cdv Ar outer s H E hr =>
  (pss_cons (ps_set (i := 2) sc_law_let_word.nd rfl (Or.inl rfl) (pe_op op_plus (pe_op op_plus (pe_lst (pa_cons pe_bl pa_nil)) (pe_dget (hu_of hr) (pv 0) pe_str (fun _ _ => rfl))) (pe_lst (pa_cons pe_bl pa_nil))))
  (pss_cons (ps_set (i := 3) sc_law_let_word.nd rfl (Or.inl rfl) (pe_callB call_len (by rfl) T.b_len (by decide +kernel) (pa_cons (pe_dget (hu_of hr) (pv 0) pe_str (fun _ _ => rfl)) pa_nil)))
  (pss_cons (ps_if (PW.pt (pw_or (pt_cmpR op_lt (pv 1) pe_int (nomark _)) (pw_or1 (pt_cmpR op_gt (pv 1) (pv 3) (nomark _))))) (pss_one (ps_ret pe_str)) pss_nil)
  (pss_cons (ps_if (PW.pt (pw_or (pt_not (pt_val (pe_ix ix_seq (pv 2) (pe_op op_plus (pv 1) pe_int) (fun _ _ => rfl)))) (pw_or1 (PW.pt (pw_and (pt_cmpR op_gt (pv 1) pe_int (nomark _)) (pw_and1 (pt_val (pe_ix ix_seq (pv 2) (pv 1) (fun _ _ => rfl))))))))) (pss_one (ps_ret pe_str)) pss_nil)
  (pss_one (ps_ret pe_str))))))
theorem ok_law_let {f : Addr} {fd : FuncData} (F : Fun K "_law_let" "_law_let" st_law_let f fd) (T : Tx K mg A)  : FnOk P w K mg base (L2.CX P w) 2 f fd ["state", "gate"] (spD K (Φ_law_let A)) :=
  cl_of (t_law_let K A) F sc_law_let (by intro ds R N M h; first | (obtain ⟨rfl, _⟩ := h; rfl) | (obtain ⟨_, rfl, _⟩ := h; rfl) | (obtain ⟨_, _, rfl, _⟩ := h; rfl) | (obtain ⟨_, _, _, rfl, _⟩ := h; rfl) | (obtain ⟨_, _, _, _, rfl, _⟩ := h; rfl) | (obtain ⟨_, _, _, _, _, rfl, _⟩ := h; rfl) | (obtain ⟨_, _, _, _, _, _, rfl, _⟩ := h; rfl) | (obtain ⟨_, _, _, _, _, _, _, rfl, _⟩ := h; rfl) | (obtain ⟨_, _, _, _, _, _, _, _, rfl, _⟩ := h; rfl) | (obtain ⟨_, _, _, _, _, _, _, _, _, rfl, _⟩ := h; rfl)) s_law_let fun cdv Ar outer s H E hr =>
  (pss_cons (ps_set (i := 2) sc_law_let.nd rfl (Or.inl rfl) (pe_callB call_len (by rfl) T.b_len (by decide +kernel) (pa_cons (pe_dget (hu_of hr) (pv 0) pe_str (fun _ _ => rfl)) pa_nil)))
  (pss_cons (ps_if (pt_cmpR op_lt (pv 1) (pv 2) (nomark _)) (pss_one (ps_asg pe_bl (pg_sub (pe_dget (hu_of hr) (pv 0) pe_str (fun _ _ => rfl)) (pv 1) set_list))) pss_nil)
  (pss_cons (ps_if (pt_cmpR op_gt (pv 1) pe_int (nomark _)) (pss_one (ps_asg pe_bl (pg_sub (pe_dget (hu_of hr) (pv 0) pe_str (fun _ _ => rfl)) (pe_op op_sub (pv 1) pe_int) set_list))) pss_nil)
  (pss_cons (ps_dput (hu_of hr) (pv 0) pe_str (pe_op op_plus (pe_dget (hu_of hr) (pv 0) pe_str (fun _ _ => rfl)) (pe_callTy call_int1 (by rfl) T.b_int (by decide +kernel) (pa_cons (pe_cmpR (op_eqP hr.units) (pv 1) (pv 2) (nomark _)) pa_nil))) rfl)
  (pss_one (ps_dput (hu_of hr) (pv 0) pe_str (pe_op op_plus (pe_dget (hu_of hr) (pv 0) pe_str (fun _ _ => rfl)) (pe_callTy call_int1 (by rfl) T.b_int (by decide +kernel) (pa_cons (pe_cmpR (op_eqP hr.units) (pv 1) pe_int (nomark _)) pa_nil))) rfl))))))
theorem ok_law_then {f : Addr} {fd : FuncData} (F : Fun K "_law_then" "_law_then" st_law_then f fd) (T : Tx K mg A)  : FnOk P w K mg base (L2.CX P w) 2 f fd ["state", "boat"] (spD K (Φ_law_then A)) :=
  cl_of (t_law_then K A) F sc_law_then (by intro ds R N M h; first | (obtain ⟨rfl, _⟩ := h; rfl) | (obtain ⟨_, rfl, _⟩ := h; rfl) | (obtain ⟨_, _, rfl, _⟩ := h; rfl) | (obtain ⟨_, _, _, rfl, _⟩ := h; rfl) | (obtain ⟨_, _, _, _, rfl, _⟩ := h; rfl) | (obtain ⟨_, _, _, _, _, rfl, _⟩ := h; rfl) | (obtain ⟨_, _, _, _, _, _, rfl, _⟩ := h; rfl) | (obtain ⟨_, _, _, _, _, _, _, rfl, _⟩ := h; rfl) | (obtain ⟨_, _, _, _, _, _, _, _, rfl, _⟩ := h; rfl) | (obtain ⟨_, _, _, _, _, _, _, _, _, rfl, _⟩ := h; rfl)) s_law_then fun cdv Ar outer s H E hr =>
  (pss_one (ps_ret (pe_op op_plus (pe_dget (hu_of hr) (pe_dget (hu_of hr) (pv 0) pe_str (fun _ _ => rfl)) (pv 1) (fun _ _ => rfl)) (pe_ix ix_seq (pe_lst (pa_cons pe_int (pa_cons (pe_un un_neg' pe_int) pa_nil))) (pe_callTy call_int1 (by rfl) T.b_int (by decide +kernel) (pa_cons (pe_cmpR (op_eqP hr.units) (pe_ix ix_seq (pe_dget (hu_of hr) (pv 0) pe_str (fun _ _ => rfl)) (pv 1) (fun _ _ => rfl)) pe_str (nomark _)) pa_nil)) (fun _ _ => rfl)))))
theorem ok_law_sail_word {f : Addr} {fd : FuncData} (F : Fun K "_law_sail_word" "_law_sail_word" st_law_sail_word f fd) (T : Tx K mg A) (q_law_then : Cl P w K mg base 2 "_law_then" ["state", "boat"] (spD K (Φ_law_then A))) : FnOk P w K mg base (L2.CX P w) 3 f fd ["state", "boat"] (spD K (Φ_law_sail_word A)) :=
  cl_of (t_law_sail_word K A) F sc_law_sail_word (by intro ds R N M h; first | (obtain ⟨rfl, _⟩ := h; rfl) | (obtain ⟨_, rfl, _⟩ := h; rfl) | (obtain ⟨_, _, rfl, _⟩ := h; rfl) | (obtain ⟨_, _, _, rfl, _⟩ := h; rfl) | (obtain ⟨_, _, _, _, rfl, _⟩ := h; rfl) | (obtain ⟨_, _, _, _, _, rfl, _⟩ := h; rfl) | (obtain ⟨_, _, _, _, _, _, rfl, _⟩ := h; rfl) | (obtain ⟨_, _, _, _, _, _, _, rfl, _⟩ := h; rfl) | (obtain ⟨_, _, _, _, _, _, _, _, rfl, _⟩ := h; rfl) | (obtain ⟨_, _, _, _, _, _, _, _, _, rfl, _⟩ := h; rfl)) s_law_sail_word fun cdv Ar outer s H E hr =>
  (pss_cons (ps_set (i := 2) sc_law_sail_word.nd rfl (Or.inr rfl) (pe_dget (hu_of hr) (pv 0) pe_str (fun _ _ => rfl)))
  (pss_cons (ps_if (pt_cmp (pc_dnotin (hu_of hr) (pv 1) (pv 2))) (pss_one (ps_ret pe_str)) pss_nil)
  (pss_cons (ps_set (i := 3) sc_law_sail_word.nd rfl (Or.inr rfl) (pe_dget (hu_of hr) (pv 2) (pv 1) (fun _ _ => rfl)))
  (pss_cons (ps_set (i := 4) sc_law_sail_word.nd rfl (Or.inl rfl) (pe_callB call_len (by rfl) T.b_len (by decide +kernel) (pa_cons (pe_dget (hu_of hr) (pv 0) pe_str (fun _ _ => rfl)) pa_nil)))
  (pss_cons (ps_set (i := 5) sc_law_sail_word.nd rfl (Or.inr rfl) (pe_ix ix_seq (pe_dget (hu_of hr) (pv 0) pe_str (fun _ _ => rfl)) (pv 1) (fun _ _ => rfl)))
  (pss_cons (ps_setLc (i := 6) (own := [("one", 10)]) (g := gName 10) rfl sc_law_sail_word.nd rfl rfl (sw_true rfl rfl rfl (by decide +kernel)) (pi_list (pe_callTy (call_list_dK rfl) (by rfl) T.b_list (by decide +kernel) (pa_cons (pv 2) pa_nil))) (blkOk_by (own := [("one", 10)]) (N := N_law_sail_word) (sc := defScope st_law_sail_word) (by decide +kernel)) (fun _ _ _ _ _ => pg_name (i := 10) sc_law_sail_word.nd rfl (Or.inl rfl)) (fun _ _ _ _ _ => (pts_one (PW.pt (pw_and (pt_cmpR (op_eqP hr.units) (pe_dget (hu_of hr) (pv 2) (pv 10) (fun _ _ => rfl)) (pv 3) (nomark _)) (pw_and (pt_cmpR (op_eqP hr.units) (pe_ix ix_seq (pe_dget (hu_of hr) (pv 0) pe_str (fun _ _ => rfl)) (pv 10) (fun _ _ => rfl)) (pv 5) (nomark _)) (pw_and1 (pt_cmpR op_lt (pv 10) (pv 1) (nomark _)))))))) (fun _ _ _ _ _ => (pv 10)))
  (pss_cons (ps_if (PW.pt (pw_and (pt_cmpR (op_inP hr.units) (pv 3) (pe_tup (pa_cons pe_int (pa_cons (pe_op op_plus (pv 4) pe_int) pa_nil))) (by first | exact nomark _ | rfl | with_unfolding_all rfl)) (pw_and1 (pt_cmpR op_gt (pe_callB call_len (by rfl) T.b_len (by decide +kernel) (pa_cons (pv 6) pa_nil)) pe_int (nomark _))))) (pss_one (ps_ret pe_str)) pss_nil)
  (pss_cons (ps_set (i := 7) sc_law_sail_word.nd rfl (Or.inl rfl) (pe_callB (call_min2 rfl) (by rfl) T.b_min (by decide +kernel) (pa_cons (pv 3) (pa_cons (pe_cl q_law_then hr (by decide) (by rfl) (pasX (takes_of rfl rfl rfl rfl)) (pa_cons (pv 0) (pa_cons (pv 1) pa_nil))) pa_nil))))
  (pss_cons (ps_set (i := 8) sc_law_sail_word.nd rfl (Or.inl rfl) (pe_op op_plus (pe_op op_plus (pe_lst (pa_cons pe_bl pa_nil)) (pe_dget (hu_of hr) (pv 0) pe_str (fun _ _ => rfl))) (pe_lst (pa_cons pe_bl pa_nil))))
  (pss_cons (ps_if (PW.pt (pw_or (pt_not (pt_val (pe_ix ix_seq (pv 8) (pv 7) (fun _ _ => rfl)))) (pw_or1 (pt_val (pe_ix ix_seq (pv 8) (pe_op op_plus (pv 7) pe_int) (fun _ _ => rfl)))))) (pss_one (ps_ret pe_str)) pss_nil)
  (pss_cons (ps_set (i := 9) sc_law_sail_word.nd rfl (Or.inl rfl) (pe_cl q_law_then hr (by decide) (by rfl) (pasX (takes_of rfl rfl rfl rfl)) (pa_cons (pv 0) (pa_cons (pv 1) pa_nil))))
  (pss_cons (ps_if (PW.pt (pw_and (pt_chain op_lt op_le pe_int (pv 9) (pv 4)) (pw_and1 (pt_cmpR (op_inP hr.units) (pv 9) (pe_lc (own := [("one", 10)]) (g := gName 10) rfl sc_law_sail_word.nd (pi_list (pe_callTy (call_list_dK rfl) (by rfl) T.b_list (by decide +kernel) (pa_cons (pv 2) pa_nil))) (blkOk_by (own := [("one", 10)]) (N := N_law_sail_word) (sc := defScope st_law_sail_word) (by decide +kernel)) (fun _ _ _ _ _ => pg_name (i := 10) sc_law_sail_word.nd rfl (Or.inl rfl)) (fun _ _ _ _ _ => pts_nil) (fun _ _ _ _ _ => (pe_dget (hu_of hr) (pv 2) (pv 10) (fun _ _ => rfl)))) (by first | exact nomark _ | rfl | with_unfolding_all rfl))))) (pss_one (ps_ret pe_str)) pss_nil)
  (pss_one (ps_ret pe_str))))))))))))))
theorem ok_law_sail {f : Addr} {fd : FuncData} (F : Fun K "_law_sail" "_law_sail" st_law_sail f fd) (T : Tx K mg A) (q_law_then : Cl P w K mg base 2 "_law_then" ["state", "boat"] (spD K (Φ_law_then A))) : FnOk P w K mg base (L2.CX P w) 3 f fd ["state", "boat"] (spD K (Φ_law_sail A)) :=
  cl_of (t_law_sail K A) F sc_law_sail (by intro ds R N M h; first | (obtain ⟨rfl, _⟩ := h; rfl) | (obtain ⟨_, rfl, _⟩ := h; rfl) | (obtain ⟨_, _, rfl, _⟩ := h; rfl) | (obtain ⟨_, _, _, rfl, _⟩ := h; rfl) | (obtain ⟨_, _, _, _, rfl, _⟩ := h; rfl) | (obtain ⟨_, _, _, _, _, rfl, _⟩ := h; rfl) | (obtain ⟨_, _, _, _, _, _, rfl, _⟩ := h; rfl) | (obtain ⟨_, _, _, _, _, _, _, rfl, _⟩ := h; rfl) | (obtain ⟨_, _, _, _, _, _, _, _, rfl, _⟩ := h; rfl) | (obtain ⟨_, _, _, _, _, _, _, _, _, rfl, _⟩ := h; rfl)) s_law_sail fun cdv Ar outer s H E hr =>
  (pss_cons (ps_set (i := 2) sc_law_sail.nd rfl (Or.inl rfl) (pe_cl q_law_then hr (by decide) (by rfl) (pasX (takes_of rfl rfl rfl rfl)) (pa_cons (pv 0) (pa_cons (pv 1) pa_nil))))
  (pss_cons (ps_dput (hu_of hr) (pe_dget (hu_of hr) (pv 0) pe_str (fun _ _ => rfl)) (pv 1) (pv 2) rfl)
  (pss_cons (ps_if (PW.pt (pw_or (pt_cmpR (op_eqP hr.units) (pv 2) pe_int (nomark _)) (pw_or1 (pt_cmpR (op_eqP hr.units) (pv 2) (pe_op op_plus (pe_callB call_len (by rfl) T.b_len (by decide +kernel) (pa_cons (pe_dget (hu_of hr) (pv 0) pe_str (fun _ _ => rfl)) pa_nil)) pe_int) (nomark _))))) (pss_cons (ps_expr (pe_dpop1 (pe_dget (hu_of hr) (pv 0) pe_str (fun _ _ => rfl)) (pv 1) m1_of))
  (pss_one (ps_expr (pe_bm PySem.F.plainAttrs_list PySem.F.slot_list_append PySem.F.type_list_append mt_append (pe_dget (hu_of hr) (pv 0) pe_str (fun _ _ => rfl)) (pa_cons (pv 1) pa_nil))))) pss_nil)
  (pss_one (ps_ret (pv 2))))))
theorem ok_law_come {f : Addr} {fd : FuncData} (F : Fun K "_law_come" "_law_come" st_law_come f fd) (T : Tx K mg A)  : FnOk P w K mg base (L2.CX P w) 2 f fd ["state", "side"] (spD K (Φ_law_come A)) :=
  cl_of (t_law_come K A) F sc_law_come (by intro ds R N M h; first | (obtain ⟨rfl, _⟩ := h; rfl) | (obtain ⟨_, rfl, _⟩ := h; rfl) | (obtain ⟨_, _, rfl, _⟩ := h; rfl) | (obtain ⟨_, _, _, rfl, _⟩ := h; rfl) | (obtain ⟨_, _, _, _, rfl, _⟩ := h; rfl) | (obtain ⟨_, _, _, _, _, rfl, _⟩ := h; rfl) | (obtain ⟨_, _, _, _, _, _, rfl, _⟩ := h; rfl) | (obtain ⟨_, _, _, _, _, _, _, rfl, _⟩ := h; rfl) | (obtain ⟨_, _, _, _, _, _, _, _, rfl, _⟩ := h; rfl) | (obtain ⟨_, _, _, _, _, _, _, _, _, rfl, _⟩ := h; rfl)) s_law_come fun cdv Ar outer s H E hr =>
  (pss_cons (ps_set (i := 2) sc_law_come.nd rfl (Or.inl rfl) (pe_callB call_len (by rfl) T.b_len (by decide +kernel) (pa_cons (pe_dget (hu_of hr) (pv 0) pe_str (fun _ _ => rfl)) pa_nil)))
  (pss_cons (ps_expr (pe_bm PySem.F.plainAttrs_list PySem.F.slot_list_append PySem.F.type_list_append mt_append (pe_dget (hu_of hr) (pv 0) pe_str (fun _ _ => rfl)) (pa_cons (pv 1) pa_nil)))
  (pss_cons (ps_dput (hu_of hr) (pe_dget (hu_of hr) (pv 0) pe_str (fun _ _ => rfl)) (pv 2) (pe_ix ix_seq (pe_lst (pa_cons pe_int (pa_cons (pe_op op_plus (pe_callB call_len (by rfl) T.b_len (by decide +kernel) (pa_cons (pe_dget (hu_of hr) (pv 0) pe_str (fun _ _ => rfl)) pa_nil)) pe_int) pa_nil))) (pe_callTy call_int1 (by rfl) T.b_int (by decide +kernel) (pa_cons (pe_cmpR (op_eqP hr.units) (pv 1) pe_str (nomark _)) pa_nil)) (fun _ _ => rfl)) rfl)
  (pss_one (ps_ret (pv 2))))))
theorem ok_law_stands {f : Addr} {fd : FuncData} (F : Fun K "_law_stands" "_law_stands" st_law_stands f fd) (T : Tx K mg A) (q_m_levels : Mt P w K mg base 2 A.C "levels" ["self"] (spD K (Φ_m_levels A))) (q_law_bools : Cl P w K mg base 2 "_law_bools" ["found", "due"] (spD K (Φ_law_bools A))) (q_m_waiting : Mt P w K mg base 3 A.C "waiting" ["self", "side"] (spD K (Φ_m_waiting A))) (q_law_numbers : Cl P w K mg base 3 "_law_numbers" ["found", "due"] (spD K (Φ_law_numbers A))) (q_m_boats : Mt P w K mg base 3 A.C "boats" ["self"] (spD K (Φ_m_boats A))) (q_m_through : Mt P w K mg base 2 A.C "through" ["self"] (spD K (Φ_m_through A))) (q_m_drawn : Mt P w K mg base 2 A.C "drawn" ["self"] (spD K (Φ_m_drawn A))) (q_m_out : Mt P w K mg base 2 A.C "out" ["self"] (spD K (Φ_m_out A))) : FnOk P w K mg base (L2.CX P w) 4 f fd ["flight", "state"] (spD K (Φ_law_stands A)) :=
  cl_of (t_law_stands K A) F sc_law_stands (by intro ds R N M h; first | (obtain ⟨rfl, _⟩ := h; rfl) | (obtain ⟨_, rfl, _⟩ := h; rfl) | (obtain ⟨_, _, rfl, _⟩ := h; rfl) | (obtain ⟨_, _, _, rfl, _⟩ := h; rfl) | (obtain ⟨_, _, _, _, rfl, _⟩ := h; rfl) | (obtain ⟨_, _, _, _, _, rfl, _⟩ := h; rfl) | (obtain ⟨_, _, _, _, _, _, rfl, _⟩ := h; rfl) | (obtain ⟨_, _, _, _, _, _, _, rfl, _⟩ := h; rfl) | (obtain ⟨_, _, _, _, _, _, _, _, rfl, _⟩ := h; rfl) | (obtain ⟨_, _, _, _, _, _, _, _, _, rfl, _⟩ := h; rfl)) s_law_stands fun cdv Ar outer s H E hr =>
  (pss_cons (ps_if (pt_not (pt_val (pe_cl q_law_bools hr (by decide) (by rfl) (pasX (takes_of rfl rfl rfl rfl)) (pa_cons (pe_mtS0 q_m_levels hr (by decide) (pasX (takes_of rfl rfl rfl rfl)) (pv 0)) (pa_cons (pe_dget (hu_of hr) (pv 1) pe_str (fun _ _ => rfl)) pa_nil))))) (pss_one (ps_ret pe_bl)) pss_nil)
  (pss_cons (ps_for (passes_of rfl) rfl (pi_list (pe_lst (pa_cons pe_str (pa_cons pe_str pa_nil)))) (pg_name (i := 2) sc_law_stands.nd rfl (Or.inr rfl)) (pss_cons (ps_set (i := 3) sc_law_stands.nd rfl (Or.inr rfl) (pe_ix ix_seq (pe_lst (pa_cons pe_int (pa_cons (pe_op op_plus (pe_callB call_len (by rfl) T.b_len (by decide +kernel) (pa_cons (pe_dget (hu_of hr) (pv 1) pe_str (fun _ _ => rfl)) pa_nil)) pe_int) pa_nil))) (pe_callTy call_int1 (by rfl) T.b_int (by decide +kernel) (pa_cons (pe_cmpR (op_eqP hr.units) (pv 2) pe_str (nomark _)) pa_nil)) (fun _ _ => rfl)))
  (pss_cons (ps_setLc (i := 4) (own := [("boat", 5)]) (g := gName 5) rfl sc_law_stands.nd rfl rfl (sw_true rfl rfl rfl (by decide +kernel)) (pi_list (pe_callB cr_sortedI (by rfl) T.b_sorted (by decide +kernel) (pa_cons (pe_callTy (call_list_dK rfl) (by rfl) T.b_list (by decide +kernel) (pa_cons (pe_dget (hu_of hr) (pv 1) pe_str (fun _ _ => rfl)) pa_nil)) pa_nil))) (blkOk_by (own := [("boat", 5)]) (N := N_law_stands) (sc := defScope st_law_stands) (by decide +kernel)) (fun _ _ _ _ _ => pg_name (i := 5) sc_law_stands.nd rfl (Or.inl rfl)) (fun _ _ _ _ _ => (pts_one (pt_cmpR (op_eqP hr.units) (pe_dget (hu_of hr) (pe_dget (hu_of hr) (pv 1) pe_str (fun _ _ => rfl)) (pv 5) (fun _ _ => rfl)) (pv 3) (nomark _)))) (fun _ _ _ _ _ => (pv 5)))
  (pss_cons (ps_setLc (i := 4) (own := [("boat", 5)]) (g := gName 5) rfl sc_law_stands.nd rfl rfl (sw_true rfl rfl rfl (by decide +kernel)) (pi_list (pv 4)) (blkOk_by (own := [("boat", 5)]) (N := N_law_stands) (sc := defScope st_law_stands) (by decide +kernel)) (fun _ _ _ _ _ => pg_name (i := 5) sc_law_stands.nd rfl (Or.inl rfl)) (fun _ _ _ _ _ => (pts_one (pt_cmpR (op_eqP hr.units) (pe_ix ix_seq (pe_dget (hu_of hr) (pv 1) pe_str (fun _ _ => rfl)) (pv 5) (fun _ _ => rfl)) (pv 2) (nomark _)))) (fun _ _ _ _ _ => (pv 5)))
  (pss_one (ps_if (pt_not (pt_val (pe_cl q_law_numbers hr (by decide) (by rfl) (pasX (takes_of rfl rfl rfl rfl)) (pa_cons (pe_mtS q_m_waiting hr (by decide) (pasX (takes_of rfl rfl rfl rfl)) (pv 0) (pa_cons (pv 2) pa_nil)) (pa_cons (pv 4) pa_nil))))) (pss_one (ps_ret pe_bl)) pss_nil))))))
  (pss_cons (ps_setLc (i := 4) (own := [("level", 6)]) (g := gName 6) rfl sc_law_stands.nd rfl rfl (sw_true rfl rfl rfl (by decide +kernel)) (pi_list (pe_dget (hu_of hr) (pv 1) pe_str (fun _ _ => rfl))) (blkOk_by (own := [("level", 6)]) (N := N_law_stands) (sc := defScope st_law_stands) (by decide +kernel)) (fun _ _ _ _ _ => pg_name (i := 6) sc_law_stands.nd rfl (Or.inl rfl)) (fun _ _ _ _ _ => pts_nil) (fun _ _ _ _ _ => pe_non))
  (pss_cons (ps_for (passes_of rfl) rfl (pi_list (pe_callTy (call_list_dK rfl) (by rfl) T.b_list (by decide +kernel) (pa_cons (pe_dget (hu_of hr) (pv 1) pe_str (fun _ _ => rfl)) pa_nil))) (pg_name (i := 5) sc_law_stands.nd rfl (Or.inl rfl)) (pss_one (ps_if (pt_chain op_lt op_le pe_int (pe_dget (hu_of hr) (pe_dget (hu_of hr) (pv 1) pe_str (fun _ _ => rfl)) (pv 5) (fun _ _ => rfl)) (pe_callB call_len (by rfl) T.b_len (by decide +kernel) (pa_cons (pv 4) pa_nil))) (pss_one (ps_asg (pv 5) (pg_sub (pv 4) (pe_op op_sub (pe_dget (hu_of hr) (pe_dget (hu_of hr) (pv 1) pe_str (fun _ _ => rfl)) (pv 5) (fun _ _ => rfl)) pe_int) set_list))) pss_nil)))
  (pss_cons (ps_if (PW.pt (pw_or (pt_cmpR (op_neP hr.units) (pe_mtS0 q_m_boats hr (by decide) (pasX (takes_of rfl rfl rfl rfl)) (pv 0)) (pv 4) (nomark _)) (pw_or1 (pt_not (pt_val (pe_cl q_law_numbers hr (by decide) (by rfl) (pasX (takes_of rfl rfl rfl rfl)) (pa_cons (pe_mtS0 q_m_through hr (by decide) (pasX (takes_of rfl rfl rfl rfl)) (pv 0)) (pa_cons (pe_dget (hu_of hr) (pv 1) pe_str (fun _ _ => rfl)) pa_nil)))))))) (pss_one (ps_ret pe_bl)) pss_nil)
  (pss_one (ps_ret (pe_and (pe_cmpR (op_eqP hr.units) (pe_mtS0 q_m_drawn hr (by decide) (pasX (takes_of rfl rfl rfl rfl)) (pv 0)) (pe_dget (hu_of hr) (pv 1) pe_str (fun _ _ => rfl)) (nomark _)) (pe_one (pe_cmpR (op_eqP hr.units) (pe_mtS0 q_m_out hr (by decide) (pasX (takes_of rfl rfl rfl rfl)) (pv 0)) (pe_dget (hu_of hr) (pv 1) pe_str (fun _ _ => rfl)) (nomark _)))))))))))
theorem ok_law_does {f : Addr} {fd : FuncData} (F : Fun K "_law_does" "_law_does" st_law_does f fd) (T : Tx K mg A) (q_m_let : Mt P w K mg base 2 A.C "let" ["self", "gate"] (spD K (Φ_m_let A))) (q_m_sail : Mt P w K mg base 4 A.C "sail" ["self", "boat"] (spD K (Φ_m_sail A))) (q_law_let_word : Cl P w K mg base 2 "_law_let_word" ["state", "gate"] (spD K (Φ_law_let_word A))) (q_law_let : Cl P w K mg base 2 "_law_let" ["state", "gate"] (spD K (Φ_law_let A))) (q_law_sail_word : Cl P w K mg base 3 "_law_sail_word" ["state", "boat"] (spD K (Φ_law_sail_word A))) (q_law_sail : Cl P w K mg base 3 "_law_sail" ["state", "boat"] (spD K (Φ_law_sail A))) (q_law_stands : Cl P w K mg base 4 "_law_stands" ["flight", "state"] (spD K (Φ_law_stands A))) : FnOk P w K mg base (L2.CX P w) 5 f fd ["flight", "state", "deed"] (spD K (Φ_law_does A)) :=
  cl_of (t_law_does K A) F sc_law_does (by intro ds R N M h; first | (obtain ⟨rfl, _⟩ := h; rfl) | (obtain ⟨_, rfl, _⟩ := h; rfl) | (obtain ⟨_, _, rfl, _⟩ := h; rfl) | (obtain ⟨_, _, _, rfl, _⟩ := h; rfl) | (obtain ⟨_, _, _, _, rfl, _⟩ := h; rfl) | (obtain ⟨_, _, _, _, _, rfl, _⟩ := h; rfl) | (obtain ⟨_, _, _, _, _, _, rfl, _⟩ := h; rfl) | (obtain ⟨_, _, _, _, _, _, _, rfl, _⟩ := h; rfl) | (obtain ⟨_, _, _, _, _, _, _, _, rfl, _⟩ := h; rfl) | (obtain ⟨_, _, _, _, _, _, _, _, _, rfl, _⟩ := h; rfl)) s_law_does fun cdv Ar outer s H E hr =>
  (pss_cons (ps_set (i := 3) sc_law_does.nd rfl (Or.inl rfl) pe_bl)
  (pss_cons (ps_try' (l := ((.ref A.le), fun _ _ _ => (tAsg (tC (.bl false)) (gName 3))) :: []) (tb := fun W => (tIfS (tTest (tOp (rEqP K) (tOp (rIx K) (tVar 2) (tC (.int 0))) (tC (.str "let")))) (tDrop (tMethS' A.C "let" (spD K (Φ_m_let A)) (WE W) (tVar 0) (tCons (tOp (rIx K) (tVar 2) (tC (.int 1))) tNil))) (tDrop (tMethS' A.C "sail" (spD K (Φ_m_sail A)) (WE W) (tVar 0) (tCons (tOp (rIx K) (tVar 2) (tC (.int 1))) tNil))))) (Wout := (fun cls d _ H => E cls d H)) rfl rfl (takes_of rfl rfl rfl rfl)
    (fun W pn xe0 tk xe => (pss_one (ps_if (pt_cmpR (op_eqP hr.units) (pe_ix ix_seq (pv 2) pe_int (fun _ _ => rfl)) pe_str (nomark _)) (pss_one (ps_expr (pe_mtS q_m_let hr (by decide) (pasT tk) (pv 0) (pa_cons (pe_ix ix_seq (pv 2) pe_int (fun _ _ => rfl)) pa_nil)))) (pss_one (ps_expr (pe_mtS q_m_sail hr (by decide) (pasT tk) (pv 0) (pa_cons (pe_ix ix_seq (pv 2) pe_int (fun _ _ => rfl)) pa_nil)))))))
    (.cons ⟨by rfl, by decide, Or.inl T.g_le⟩ (fun _ _ _ _ _ _ _ => (pss_one (ps_set (i := 3) sc_law_does.nd rfl (Or.inl rfl) pe_bl))) .nil))
  (pss_cons (ps_if (PW.pt (pw_or (pt_not (pt_val (pv 3))) (pw_or1 (PW.pt (pw_and (pt_cmpR (op_eqP hr.units) (pe_ix ix_seq (pv 2) pe_int (fun _ _ => rfl)) pe_str (nomark _)) (pw_and1 (pt_cmpR (op_neP hr.units) (pe_cl q_law_let_word hr (by decide) (by rfl) (pasX (takes_of rfl rfl rfl rfl)) (pa_cons (pv 1) (pa_cons (pe_ix ix_seq (pv 2) pe_int (fun _ _ => rfl)) pa_nil))) pe_str (nomark _)))))))) (pss_one (ps_ret pe_bl)) pss_nil)
  (pss_cons (ps_if (pt_cmpR (op_eqP hr.units) (pe_ix ix_seq (pv 2) pe_int (fun _ _ => rfl)) pe_str (nomark _)) (pss_one (ps_expr (pe_cl q_law_let hr (by decide) (by rfl) (pasX (takes_of rfl rfl rfl rfl)) (pa_cons (pv 1) (pa_cons (pe_ix ix_seq (pv 2) pe_int (fun _ _ => rfl)) pa_nil))))) (pss_one (ps_if (pt_cmpR (op_eqP hr.units) (pe_cl q_law_sail_word hr (by decide) (by rfl) (pasX (takes_of rfl rfl rfl rfl)) (pa_cons (pv 1) (pa_cons (pe_ix ix_seq (pv 2) pe_int (fun _ _ => rfl)) pa_nil))) pe_str (nomark _)) (pss_one (ps_expr (pe_cl q_law_sail hr (by decide) (by rfl) (pasX (takes_of rfl rfl rfl rfl)) (pa_cons (pv 1) (pa_cons (pe_ix ix_seq (pv 2) pe_int (fun _ _ => rfl)) pa_nil))))) (pss_one (ps_ret pe_bl)))))
  (pss_one (ps_ret (pe_cl q_law_stands hr (by decide) (by rfl) (pasX (takes_of rfl rfl rfl rfl)) (pa_cons (pv 0) (pa_cons (pv 1) pa_nil)))))))))
theorem ok_law {f : Addr} {fd : FuncData} (F : Fun K "law" "law" st_law f fd) (T : Tx K mg A) (q_law_levels : Cl P w K mg base 3 "_law_levels" ["script", "start"] (spD K (Φ_law_levels A))) (q_law_cell_at : Cl P w K mg base 2 "_law_cell_at" ["script", "k"] (spD K (Φ_law_cell_at A))) (q_law_order : Cl P w K mg base 3 "_law_order" ["script", "start", "size"] (spD K (Φ_law_order A))) (q_m_init : Mc P w K mg base 3 "Flight" A.C ["self", "levels"] (spD K (Φ_m_init A))) (q_law_new : Cl P w K mg base 2 "_law_new" ["levels"] (spD K (Φ_law_new A))) (q_m_come : Mt P w K mg base 3 A.C "come" ["self", "side"] (spD K (Φ_m_come A))) (q_law_come : Cl P w K mg base 2 "_law_come" ["state", "side"] (spD K (Φ_law_come A))) (q_plan : Cl P w K mg base 5 "plan" ["levels", "order"] (spD K (Φ_plan A))) (q_law_does : Cl P w K mg base 5 "_law_does" ["flight", "state", "deed"] (spD K (Φ_law_does A))) (q_m_through : Mt P w K mg base 2 A.C "through" ["self"] (spD K (Φ_m_through A))) (q_m_drawn : Mt P w K mg base 2 A.C "drawn" ["self"] (spD K (Φ_m_drawn A))) (q_cost : Cl P w K mg base 3 "cost" ["levels", "order"] (spD K (Φ_cost A))) (q_m_levels : Mt P w K mg base 2 A.C "levels" ["self"] (spD K (Φ_m_levels A))) : FnOk P w K mg base (L2.CX P w) 6 f fd ["script"] (spD K (Φ_law A)) :=
  cl_of (t_law K A) F sc_law (by intro ds R N M h; first | (obtain ⟨rfl, _⟩ := h; rfl) | (obtain ⟨_, rfl, _⟩ := h; rfl) | (obtain ⟨_, _, rfl, _⟩ := h; rfl) | (obtain ⟨_, _, _, rfl, _⟩ := h; rfl) | (obtain ⟨_, _, _, _, rfl, _⟩ := h; rfl) | (obtain ⟨_, _, _, _, _, rfl, _⟩ := h; rfl) | (obtain ⟨_, _, _, _, _, _, rfl, _⟩ := h; rfl) | (obtain ⟨_, _, _, _, _, _, _, rfl, _⟩ := h; rfl) | (obtain ⟨_, _, _, _, _, _, _, _, rfl, _⟩ := h; rfl) | (obtain ⟨_, _, _, _, _, _, _, _, _, rfl, _⟩ := h; rfl)) s_law fun cdv Ar outer s H E hr =>
  (pss_cons (ps_set (i := 1) sc_law.nd rfl (Or.inl rfl) (pe_cl q_law_levels hr (by decide) (by rfl) (pasX (takes_of rfl rfl rfl rfl)) (pa_cons (pv 0) (pa_cons pe_int pa_nil))))
  (pss_cons (ps_set (i := 2) sc_law.nd rfl (Or.inr rfl) (pe_cl q_law_order hr (by decide) (by rfl) (pasX (takes_of rfl rfl rfl rfl)) (pa_cons (pv 0) (pa_cons pe_int (pa_cons (pe_op op_plus pe_int (pe_op op_mod (pe_cl q_law_cell_at hr (by decide) (by rfl) (pasX (takes_of rfl rfl rfl rfl)) (pa_cons (pv 0) (pa_cons pe_int pa_nil))) pe_int)) pa_nil)))))
  (pss_cons (ps_set (i := 3) sc_law.nd rfl (Or.inl rfl) (pe_mkS q_m_init hr (by decide) (by rfl) (pasX (takes_of rfl rfl rfl rfl)) (pa_cons (pe_callTy call_list_of (by rfl) T.b_list (by decide +kernel) (pa_cons (pv 1) pa_nil)) pa_nil)))
  (pss_cons (ps_set (i := 4) sc_law.nd rfl (Or.inl rfl) (pe_cl q_law_new hr (by decide) (by rfl) (pasX (takes_of rfl rfl rfl rfl)) (pa_cons (pv 1) pa_nil)))
  (pss_cons (ps_for (passes_of rfl) rfl (pi_list (pv 2)) (pg_name (i := 5) sc_law.nd rfl (Or.inl rfl)) (pss_one (ps_if (pt_cmpR (op_neP hr.units) (pe_mtS q_m_come hr (by decide) (pasX (takes_of rfl rfl rfl rfl)) (pv 3) (pa_cons (pv 5) pa_nil)) (pe_cl q_law_come hr (by decide) (by rfl) (pasX (takes_of rfl rfl rfl rfl)) (pa_cons (pv 4) (pa_cons (pv 5) pa_nil))) (nomark _)) (pss_one (ps_ret pe_bl)) pss_nil)))
  (pss_cons (ps_for (passes_of rfl) rfl (pi_list (pe_cl q_plan hr (by decide) (by rfl) (pasX (takes_of rfl rfl rfl rfl)) (pa_cons (pe_callTy call_list_of (by rfl) T.b_list (by decide +kernel) (pa_cons (pv 1) pa_nil)) (pa_cons (pe_callTy call_list_of (by rfl) T.b_list (by decide +kernel) (pa_cons (pv 2) pa_nil)) pa_nil)))) (pg_name (i := 6) sc_law.nd rfl (Or.inl rfl)) (pss_one (ps_if (pt_not (pt_val (pe_cl q_law_does hr (by decide) (by rfl) (pasX (takes_of rfl rfl rfl rfl)) (pa_cons (pv 3) (pa_cons (pv 4) (pa_cons (pv 6) pa_nil)))))) (pss_one (ps_ret pe_bl)) pss_nil)))
  (pss_cons (ps_if (PW.pt (pw_or (pt_cmpR (op_neP hr.units) (pe_mtS0 q_m_through hr (by decide) (pasX (takes_of rfl rfl rfl rfl)) (pv 3)) (pe_listRg rfl (by rfl) T.b_list (prg_1 (by rfl) T.b_range (pe_callB call_len (by rfl) T.b_len (by decide +kernel) (pa_cons (pv 2) pa_nil)))) (nomark _)) (pw_or1 (pt_cmpR (op_neP hr.units) (pe_mtS0 q_m_drawn hr (by decide) (pasX (takes_of rfl rfl rfl rfl)) (pv 3)) (pe_cl q_cost hr (by decide) (by rfl) (pasX (takes_of rfl rfl rfl rfl)) (pa_cons (pe_callTy call_list_of (by rfl) T.b_list (by decide +kernel) (pa_cons (pv 1) pa_nil)) (pa_cons (pe_callTy call_list_of (by rfl) T.b_list (by decide +kernel) (pa_cons (pv 2) pa_nil)) pa_nil))) (nomark _))))) (pss_one (ps_ret pe_bl)) pss_nil)
  (pss_one (ps_ret (pe_cmpR (op_eqP hr.units) (pe_callB (cr_sum rfl) (by rfl) T.b_sum (by decide +kernel) (pa_cons (pe_lc (own := [("level", 7)]) (g := gName 7) rfl sc_law.nd (pi_list (pe_mtS0 q_m_levels hr (by decide) (pasX (takes_of rfl rfl rfl rfl)) (pv 3))) (blkOk_by (own := [("level", 7)]) (N := N_law) (sc := defScope st_law) (by decide +kernel)) (fun _ _ _ _ _ => pg_name (i := 7) sc_law.nd rfl (Or.inl rfl)) (fun _ _ _ _ _ => pts_nil) (fun _ _ _ _ _ => (pe_callTy call_int1 (by rfl) T.b_int (by decide +kernel) (pa_cons (pe_cmpR (op_eqP hr.units) (pv 7) (pe_cmpR (op_eqP hr.units) (pe_ix ix_seq (pv 2) (pe_un un_neg' pe_int) (fun _ _ => rfl)) pe_str (nomark _)) (nomark _)) pa_nil)))) pa_nil)) (pe_callB call_len (by rfl) T.b_len (by decide +kernel) (pa_cons (pv 1) pa_nil)) (nomark _)))))))))))
end
theorem all_mk {l : PySem.W.OpenLaw} {w : World} {K : PySem.W.Frag} {h : Heap} {mg : Str → Option Value} {fa : Addr} (X : K.In h) (G : h.Ns mainGlobals mg) (hfa : mg "law" = some (.ref fa))
    {t_MOST_CHAMBERS : Tok} {cC : Addr} {c_bf : Addr} {c_nb : Addr} {c_ng : Addr} {c_nf : Addr} {c_ns : Addr} {c_sh : Addr} {c_oc : Addr} {c_le : Addr}
    {f0 : Addr} {od0 an0 : Option Addr} {sl0 : Array (Option Value)} {oc0 kV0 dc0 pm0 cd0 ct0 : Value}
    {f1 : Addr} {od1 an1 : Option Addr} {sl1 : Array (Option Value)} {oc1 kV1 dc1 pm1 cd1 ct1 : Value}
    {f2 : Addr} {od2 an2 : Option Addr} {sl2 : Array (Option Value)} {oc2 kV2 dc2 pm2 cd2 ct2 : Value}
    {f3 : Addr} {od3 an3 : Option Addr} {sl3 : Array (Option Value)} {oc3 kV3 dc3 pm3 cd3 ct3 : Value}
    {f4 : Addr} {od4 an4 : Option Addr} {sl4 : Array (Option Value)} {oc4 kV4 dc4 pm4 cd4 ct4 : Value}
    {f5 : Addr} {od5 an5 : Option Addr} {sl5 : Array (Option Value)} {oc5 kV5 dc5 pm5 cd5 ct5 : Value}
    {f6 : Addr} {od6 an6 : Option Addr} {sl6 : Array (Option Value)} {oc6 kV6 dc6 pm6 cd6 ct6 : Value}
    {f7 : Addr} {od7 an7 : Option Addr} {sl7 : Array (Option Value)} {oc7 kV7 dc7 pm7 cd7 ct7 : Value}
    {f8 : Addr} {od8 an8 : Option Addr} {sl8 : Array (Option Value)} {oc8 kV8 dc8 pm8 cd8 ct8 : Value}
    {f9 : Addr} {od9 an9 : Option Addr} {sl9 : Array (Option Value)} {oc9 kV9 dc9 pm9 cd9 ct9 : Value}
    {f10 : Addr} {od10 an10 : Option Addr} {sl10 : Array (Option Value)} {oc10 kV10 dc10 pm10 cd10 ct10 : Value}
    {f11 : Addr} {od11 an11 : Option Addr} {sl11 : Array (Option Value)} {oc11 kV11 dc11 pm11 cd11 ct11 : Value}
    {f12 : Addr} {od12 an12 : Option Addr} {sl12 : Array (Option Value)} {oc12 kV12 dc12 pm12 cd12 ct12 : Value}
    {f13 : Addr} {od13 an13 : Option Addr} {sl13 : Array (Option Value)} {oc13 kV13 dc13 pm13 cd13 ct13 : Value}
    {f14 : Addr} {od14 an14 : Option Addr} {sl14 : Array (Option Value)} {oc14 kV14 dc14 pm14 cd14 ct14 : Value}
    {f15 : Addr} {od15 an15 : Option Addr} {sl15 : Array (Option Value)} {oc15 kV15 dc15 pm15 cd15 ct15 : Value}
    {f16 : Addr} {od16 an16 : Option Addr} {sl16 : Array (Option Value)} {oc16 kV16 dc16 pm16 cd16 ct16 : Value}
    {f17 : Addr} {od17 an17 : Option Addr} {sl17 : Array (Option Value)} {oc17 kV17 dc17 pm17 cd17 ct17 : Value}
    {f18 : Addr} {od18 an18 : Option Addr} {sl18 : Array (Option Value)} {oc18 kV18 dc18 pm18 cd18 ct18 : Value}
    {f19 : Addr} {od19 an19 : Option Addr} {sl19 : Array (Option Value)} {oc19 kV19 dc19 pm19 cd19 ct19 : Value}
    {f20 : Addr} {od20 an20 : Option Addr} {sl20 : Array (Option Value)} {oc20 kV20 dc20 pm20 cd20 ct20 : Value}
    {f21 : Addr} {od21 an21 : Option Addr} {sl21 : Array (Option Value)} {oc21 kV21 dc21 pm21 cd21 ct21 : Value}
    {f22 : Addr} {od22 an22 : Option Addr} {sl22 : Array (Option Value)} {oc22 kV22 dc22 pm22 cd22 ct22 : Value}
    {f23 : Addr} {od23 an23 : Option Addr} {sl23 : Array (Option Value)} {oc23 kV23 dc23 pm23 cd23 ct23 : Value}
    {f24 : Addr} {od24 an24 : Option Addr} {sl24 : Array (Option Value)} {oc24 kV24 dc24 pm24 cd24 ct24 : Value}
    {f25 : Addr} {od25 an25 : Option Addr} {sl25 : Array (Option Value)} {oc25 kV25 dc25 pm25 cd25 ct25 : Value}
    {f26 : Addr} {od26 an26 : Option Addr} {sl26 : Array (Option Value)} {oc26 kV26 dc26 pm26 cd26 ct26 : Value}
    {f27 : Addr} {od27 an27 : Option Addr} {sl27 : Array (Option Value)} {oc27 kV27 dc27 pm27 cd27 ct27 : Value}
    {f28 : Addr} {od28 an28 : Option Addr} {sl28 : Array (Option Value)} {oc28 kV28 dc28 pm28 cd28 ct28 : Value}
    {f29 : Addr} {od29 an29 : Option Addr} {sl29 : Array (Option Value)} {oc29 kV29 dc29 pm29 cd29 ct29 : Value}
    {f30 : Addr} {od30 an30 : Option Addr} {sl30 : Array (Option Value)} {oc30 kV30 dc30 pm30 cd30 ct30 : Value}
    {f31 : Addr} {od31 an31 : Option Addr} {sl31 : Array (Option Value)} {oc31 kV31 dc31 pm31 cd31 ct31 : Value}
    {f32 : Addr} {od32 an32 : Option Addr} {sl32 : Array (Option Value)} {oc32 kV32 dc32 pm32 cd32 ct32 : Value}
    {f33 : Addr} {od33 an33 : Option Addr} {sl33 : Array (Option Value)} {oc33 kV33 dc33 pm33 cd33 ct33 : Value}
    {f34 : Addr} {od34 an34 : Option Addr} {sl34 : Array (Option Value)} {oc34 kV34 dc34 pm34 cd34 ct34 : Value}
    {f35 : Addr} {od35 an35 : Option Addr} {sl35 : Array (Option Value)} {oc35 kV35 dc35 pm35 cd35 ct35 : Value}
    {f36 : Addr} {od36 an36 : Option Addr} {sl36 : Array (Option Value)} {oc36 kV36 dc36 pm36 cd36 ct36 : Value}
    {f37 : Addr} {od37 an37 : Option Addr} {sl37 : Array (Option Value)} {oc37 kV37 dc37 pm37 cd37 ct37 : Value}
    {f38 : Addr} {od38 an38 : Option Addr} {sl38 : Array (Option Value)} {oc38 kV38 dc38 pm38 cd38 ct38 : Value}
    {f39 : Addr} {od39 an39 : Option Addr} {sl39 : Array (Option Value)} {oc39 kV39 dc39 pm39 cd39 ct39 : Value}
    (x_aC : PySem.W.nsIn K mainGlobals "Flight" = some (some (.ref cC)))
    (x_b_len : PySem.W.nsIn K mainGlobals "len" = some none)
    (x_c_MOST_CHAMBERS : PySem.W.nsIn K mainGlobals "MOST_CHAMBERS" = some (some (.int 8 t_MOST_CHAMBERS)))
    (x_g_bf : PySem.W.nsIn K mainGlobals "BadFlight" = some (some (.ref c_bf)))
    (x_x_bf : PySem.W.excIn K c_bf [.type "ValueError", .type "Exception", .type "BaseException", .type "object"] "ValueError.__new__" = true)
    (x_k_bf : PySem.W.keepIn K (.ref c_bf) = true)
    (x_s_bf : PySem.W.subIn K (.ref c_bf) (.type "BaseException") = some true)
    (x_t_bf : PySem.W.typeIn K (.ref c_bf) = some (.type "type"))
    (x_b_list : PySem.W.nsIn K mainGlobals "list" = some none)
    (x_b_sorted : PySem.W.nsIn K mainGlobals "sorted" = some none)
    (x_g_nb : PySem.W.nsIn K mainGlobals "NoBoat" = some (some (.ref c_nb)))
    (x_x_nb : PySem.W.excIn K c_nb [.type "ValueError", .type "Exception", .type "BaseException", .type "object"] "ValueError.__new__" = true)
    (x_k_nb : PySem.W.keepIn K (.ref c_nb) = true)
    (x_s_nb : PySem.W.subIn K (.ref c_nb) (.type "BaseException") = some true)
    (x_t_nb : PySem.W.typeIn K (.ref c_nb) = some (.type "type"))
    (x_g_ng : PySem.W.nsIn K mainGlobals "NoGate" = some (some (.ref c_ng)))
    (x_x_ng : PySem.W.excIn K c_ng [.type "ValueError", .type "Exception", .type "BaseException", .type "object"] "ValueError.__new__" = true)
    (x_k_ng : PySem.W.keepIn K (.ref c_ng) = true)
    (x_s_ng : PySem.W.subIn K (.ref c_ng) (.type "BaseException") = some true)
    (x_t_ng : PySem.W.typeIn K (.ref c_ng) = some (.type "type"))
    (x_g_nf : PySem.W.nsIn K mainGlobals "NoFall" = some (some (.ref c_nf)))
    (x_x_nf : PySem.W.excIn K c_nf [.type "ValueError", .type "Exception", .type "BaseException", .type "object"] "ValueError.__new__" = true)
    (x_k_nf : PySem.W.keepIn K (.ref c_nf) = true)
    (x_s_nf : PySem.W.subIn K (.ref c_nf) (.type "BaseException") = some true)
    (x_t_nf : PySem.W.typeIn K (.ref c_nf) = some (.type "type"))
    (x_g_ns : PySem.W.nsIn K mainGlobals "NotFirst" = some (some (.ref c_ns)))
    (x_x_ns : PySem.W.excIn K c_ns [.type "ValueError", .type "Exception", .type "BaseException", .type "object"] "ValueError.__new__" = true)
    (x_k_ns : PySem.W.keepIn K (.ref c_ns) = true)
    (x_s_ns : PySem.W.subIn K (.ref c_ns) (.type "BaseException") = some true)
    (x_t_ns : PySem.W.typeIn K (.ref c_ns) = some (.type "type"))
    (x_g_sh : PySem.W.nsIn K mainGlobals "Shut" = some (some (.ref c_sh)))
    (x_x_sh : PySem.W.excIn K c_sh [.type "ValueError", .type "Exception", .type "BaseException", .type "object"] "ValueError.__new__" = true)
    (x_k_sh : PySem.W.keepIn K (.ref c_sh) = true)
    (x_s_sh : PySem.W.subIn K (.ref c_sh) (.type "BaseException") = some true)
    (x_t_sh : PySem.W.typeIn K (.ref c_sh) = some (.type "type"))
    (x_g_oc : PySem.W.nsIn K mainGlobals "Occupied" = some (some (.ref c_oc)))
    (x_x_oc : PySem.W.excIn K c_oc [.type "ValueError", .type "Exception", .type "BaseException", .type "object"] "ValueError.__new__" = true)
    (x_k_oc : PySem.W.keepIn K (.ref c_oc) = true)
    (x_s_oc : PySem.W.subIn K (.ref c_oc) (.type "BaseException") = some true)
    (x_t_oc : PySem.W.typeIn K (.ref c_oc) = some (.type "type"))
    (x_b_int : PySem.W.nsIn K mainGlobals "int" = some none)
    (x_b_reversed : PySem.W.nsIn K mainGlobals "reversed" = some none)
    (x_b_range : PySem.W.nsIn K mainGlobals "range" = some none)
    (x_b_isinstance : PySem.W.nsIn K mainGlobals "isinstance" = some none)
    (x_b_bool : PySem.W.nsIn K mainGlobals "bool" = some none)
    (x_b_all : PySem.W.nsIn K mainGlobals "all" = some none)
    (x_b_min : PySem.W.nsIn K mainGlobals "min" = some none)
    (x_g_le : PySem.W.nsIn K mainGlobals "LockError" = some (some (.ref c_le)))
    (x_b_sum : PySem.W.nsIn K mainGlobals "sum" = some none)
    (x_pg : PySem.W.plainGet K cC Str.empty = true)
    (x_hd : PySem.W.hasDictIn K cC = true)
    (x_po : PySem.W.plainOver K cC = true)
    (x_sa : PySem.W.findIn K (.ref cC) "__setattr__" = some (some (.builtin "object.__setattr__")))
    (x_n_high : PySem.W.findIn K (.ref cC) "high" = some none)
    (x_n_sides : PySem.W.findIn K (.ref cC) "sides" = some none)
    (x_n_places : PySem.W.findIn K (.ref cC) "places" = some none)
    (x_n_done : PySem.W.findIn K (.ref cC) "done" = some none)
    (x_n_taken : PySem.W.findIn K (.ref cC) "taken" = some none)
    (x_n_given : PySem.W.findIn K (.ref cC) "given" = some none)
    (x_mk : PySem.W.makesIn K cC = true)
    (x_kc : PySem.W.keepIn K (.ref cC) = true)
    (a0 : PySem.W.nsIn K mainGlobals "ask_levels" = some (some (.ref f0)))
    (l0 : K.lookup f0 = some ⟨oc0, od0, .func (PySem.W.fnOf "ask_levels" "ask_levels" (defArgs st_ask_levels) (defBody st_ask_levels) (defScope st_ask_levels) .none kV0 dc0 pm0 an0 cd0 ct0), sl0⟩)
    (c0 : PySem.W.codeIn K cd0 "ask_levels" = true)
    (k0 : PySem.W.keepIn K (.ref f0) = true)
    (a1 : PySem.W.findIn K (.ref cC) "__init__" = some (some (.ref f1)))
    (i1 : PySem.W.isFn K (.ref f1) = true)
    (l1 : K.lookup f1 = some ⟨oc1, od1, .func (PySem.W.fnOf "__init__" "Flight.__init__" (defArgs st_m_init) (defBody st_m_init) (defScope st_m_init) .none kV1 dc1 pm1 an1 cd1 ct1), sl1⟩)
    (c1 : PySem.W.codeIn K cd1 "Flight.__init__" = true)
    (k1 : PySem.W.keepIn K (.ref f1) = true)
    (a2 : PySem.W.findIn K (.ref cC) "levels" = some (some (.ref f2)))
    (i2 : PySem.W.isFn K (.ref f2) = true)
    (l2 : K.lookup f2 = some ⟨oc2, od2, .func (PySem.W.fnOf "levels" "Flight.levels" (defArgs st_m_levels) (defBody st_m_levels) (defScope st_m_levels) .none kV2 dc2 pm2 an2 cd2 ct2), sl2⟩)
    (c2 : PySem.W.codeIn K cd2 "Flight.levels" = true)
    (k2 : PySem.W.keepIn K (.ref f2) = true)
    (a3 : PySem.W.findIn K (.ref cC) "top" = some (some (.ref f3)))
    (i3 : PySem.W.isFn K (.ref f3) = true)
    (l3 : K.lookup f3 = some ⟨oc3, od3, .func (PySem.W.fnOf "top" "Flight.top" (defArgs st_m_top) (defBody st_m_top) (defScope st_m_top) .none kV3 dc3 pm3 an3 cd3 ct3), sl3⟩)
    (c3 : PySem.W.codeIn K cd3 "Flight.top" = true)
    (k3 : PySem.W.keepIn K (.ref f3) = true)
    (a4 : PySem.W.findIn K (.ref cC) "boats" = some (some (.ref f4)))
    (i4 : PySem.W.isFn K (.ref f4) = true)
    (l4 : K.lookup f4 = some ⟨oc4, od4, .func (PySem.W.fnOf "boats" "Flight.boats" (defArgs st_m_boats) (defBody st_m_boats) (defScope st_m_boats) .none kV4 dc4 pm4 an4 cd4 ct4), sl4⟩)
    (c4 : PySem.W.codeIn K cd4 "Flight.boats" = true)
    (k4 : PySem.W.keepIn K (.ref f4) = true)
    (a5 : PySem.W.findIn K (.ref cC) "waiting" = some (some (.ref f5)))
    (i5 : PySem.W.isFn K (.ref f5) = true)
    (l5 : K.lookup f5 = some ⟨oc5, od5, .func (PySem.W.fnOf "waiting" "Flight.waiting" (defArgs st_m_waiting) (defBody st_m_waiting) (defScope st_m_waiting) .none kV5 dc5 pm5 an5 cd5 ct5), sl5⟩)
    (c5 : PySem.W.codeIn K cd5 "Flight.waiting" = true)
    (k5 : PySem.W.keepIn K (.ref f5) = true)
    (a6 : PySem.W.findIn K (.ref cC) "through" = some (some (.ref f6)))
    (i6 : PySem.W.isFn K (.ref f6) = true)
    (l6 : K.lookup f6 = some ⟨oc6, od6, .func (PySem.W.fnOf "through" "Flight.through" (defArgs st_m_through) (defBody st_m_through) (defScope st_m_through) .none kV6 dc6 pm6 an6 cd6 ct6), sl6⟩)
    (c6 : PySem.W.codeIn K cd6 "Flight.through" = true)
    (k6 : PySem.W.keepIn K (.ref f6) = true)
    (a7 : PySem.W.findIn K (.ref cC) "place" = some (some (.ref f7)))
    (i7 : PySem.W.isFn K (.ref f7) = true)
    (l7 : K.lookup f7 = some ⟨oc7, od7, .func (PySem.W.fnOf "place" "Flight.place" (defArgs st_m_place) (defBody st_m_place) (defScope st_m_place) .none kV7 dc7 pm7 an7 cd7 ct7), sl7⟩)
    (c7 : PySem.W.codeIn K cd7 "Flight.place" = true)
    (k7 : PySem.W.keepIn K (.ref f7) = true)
    (a8 : PySem.W.findIn K (.ref cC) "drawn" = some (some (.ref f8)))
    (i8 : PySem.W.isFn K (.ref f8) = true)
    (l8 : K.lookup f8 = some ⟨oc8, od8, .func (PySem.W.fnOf "drawn" "Flight.drawn" (defArgs st_m_drawn) (defBody st_m_drawn) (defScope st_m_drawn) .none kV8 dc8 pm8 an8 cd8 ct8), sl8⟩)
    (c8 : PySem.W.codeIn K cd8 "Flight.drawn" = true)
    (k8 : PySem.W.keepIn K (.ref f8) = true)
    (a9 : PySem.W.findIn K (.ref cC) "out" = some (some (.ref f9)))
    (i9 : PySem.W.isFn K (.ref f9) = true)
    (l9 : K.lookup f9 = some ⟨oc9, od9, .func (PySem.W.fnOf "out" "Flight.out" (defArgs st_m_out) (defBody st_m_out) (defScope st_m_out) .none kV9 dc9 pm9 an9 cd9 ct9), sl9⟩)
    (c9 : PySem.W.codeIn K cd9 "Flight.out" = true)
    (k9 : PySem.W.keepIn K (.ref f9) = true)
    (a10 : PySem.W.findIn K (.ref cC) "come" = some (some (.ref f10)))
    (i10 : PySem.W.isFn K (.ref f10) = true)
    (l10 : K.lookup f10 = some ⟨oc10, od10, .func (PySem.W.fnOf "come" "Flight.come" (defArgs st_m_come) (defBody st_m_come) (defScope st_m_come) .none kV10 dc10 pm10 an10 cd10 ct10), sl10⟩)
    (c10 : PySem.W.codeIn K cd10 "Flight.come" = true)
    (k10 : PySem.W.keepIn K (.ref f10) = true)
    (a11 : PySem.W.findIn K (.ref cC) "let" = some (some (.ref f11)))
    (i11 : PySem.W.isFn K (.ref f11) = true)
    (l11 : K.lookup f11 = some ⟨oc11, od11, .func (PySem.W.fnOf "let" "Flight.let" (defArgs st_m_let) (defBody st_m_let) (defScope st_m_let) .none kV11 dc11 pm11 an11 cd11 ct11), sl11⟩)
    (c11 : PySem.W.codeIn K cd11 "Flight.let" = true)
    (k11 : PySem.W.keepIn K (.ref f11) = true)
    (a12 : PySem.W.findIn K (.ref cC) "is_level" = some (some (.ref f12)))
    (i12 : PySem.W.isFn K (.ref f12) = true)
    (l12 : K.lookup f12 = some ⟨oc12, od12, .func (PySem.W.fnOf "is_level" "Flight.is_level" (defArgs st_m_is_level) (defBody st_m_is_level) (defScope st_m_is_level) .none kV12 dc12 pm12 an12 cd12 ct12), sl12⟩)
    (c12 : PySem.W.codeIn K cd12 "Flight.is_level" = true)
    (k12 : PySem.W.keepIn K (.ref f12) = true)
    (a13 : PySem.W.findIn K (.ref cC) "sail" = some (some (.ref f13)))
    (i13 : PySem.W.isFn K (.ref f13) = true)
    (l13 : K.lookup f13 = some ⟨oc13, od13, .func (PySem.W.fnOf "sail" "Flight.sail" (defArgs st_m_sail) (defBody st_m_sail) (defScope st_m_sail) .none kV13 dc13 pm13 an13 cd13 ct13), sl13⟩)
    (c13 : PySem.W.codeIn K cd13 "Flight.sail" = true)
    (k13 : PySem.W.keepIn K (.ref f13) = true)
    (a14 : PySem.W.nsIn K mainGlobals "cost_of" = some (some (.ref f14)))
    (l14 : K.lookup f14 = some ⟨oc14, od14, .func (PySem.W.fnOf "cost_of" "cost_of" (defArgs st_cost_of) (defBody st_cost_of) (defScope st_cost_of) .none kV14 dc14 pm14 an14 cd14 ct14), sl14⟩)
    (c14 : PySem.W.codeIn K cd14 "cost_of" = true)
    (k14 : PySem.W.keepIn K (.ref f14) = true)
    (a15 : PySem.W.nsIn K mainGlobals "behind" = some (some (.ref f15)))
    (l15 : K.lookup f15 = some ⟨oc15, od15, .func (PySem.W.fnOf "behind" "behind" (defArgs st_behind) (defBody st_behind) (defScope st_behind) .none kV15 dc15 pm15 an15 cd15 ct15), sl15⟩)
    (c15 : PySem.W.codeIn K cd15 "behind" = true)
    (k15 : PySem.W.keepIn K (.ref f15) = true)
    (a16 : PySem.W.nsIn K mainGlobals "cost" = some (some (.ref f16)))
    (l16 : K.lookup f16 = some ⟨oc16, od16, .func (PySem.W.fnOf "cost" "cost" (defArgs st_cost) (defBody st_cost) (defScope st_cost) .none kV16 dc16 pm16 an16 cd16 ct16), sl16⟩)
    (c16 : PySem.W.codeIn K cd16 "cost" = true)
    (k16 : PySem.W.keepIn K (.ref f16) = true)
    (a17 : PySem.W.nsIn K mainGlobals "filled" = some (some (.ref f17)))
    (l17 : K.lookup f17 = some ⟨oc17, od17, .func (PySem.W.fnOf "filled" "filled" (defArgs st_filled) (defBody st_filled) (defScope st_filled) .none kV17 dc17 pm17 an17 cd17 ct17), sl17⟩)
    (c17 : PySem.W.codeIn K cd17 "filled" = true)
    (k17 : PySem.W.keepIn K (.ref f17) = true)
    (a18 : PySem.W.nsIn K mainGlobals "emptied" = some (some (.ref f18)))
    (l18 : K.lookup f18 = some ⟨oc18, od18, .func (PySem.W.fnOf "emptied" "emptied" (defArgs st_emptied) (defBody st_emptied) (defScope st_emptied) .none kV18 dc18 pm18 an18 cd18 ct18), sl18⟩)
    (c18 : PySem.W.codeIn K cd18 "emptied" = true)
    (k18 : PySem.W.keepIn K (.ref f18) = true)
    (a19 : PySem.W.nsIn K mainGlobals "let_all" = some (some (.ref f19)))
    (l19 : K.lookup f19 = some ⟨oc19, od19, .func (PySem.W.fnOf "let_all" "let_all" (defArgs st_let_all) (defBody st_let_all) (defScope st_let_all) .none kV19 dc19 pm19 an19 cd19 ct19), sl19⟩)
    (c19 : PySem.W.codeIn K cd19 "let_all" = true)
    (k19 : PySem.W.keepIn K (.ref f19) = true)
    (a20 : PySem.W.nsIn K mainGlobals "put" = some (some (.ref f20)))
    (l20 : K.lookup f20 = some ⟨oc20, od20, .func (PySem.W.fnOf "put" "put" (defArgs st_put) (defBody st_put) (defScope st_put) .none kV20 dc20 pm20 an20 cd20 ct20), sl20⟩)
    (c20 : PySem.W.codeIn K cd20 "put" = true)
    (k20 : PySem.W.keepIn K (.ref f20) = true)
    (a21 : PySem.W.nsIn K mainGlobals "passage_up" = some (some (.ref f21)))
    (l21 : K.lookup f21 = some ⟨oc21, od21, .func (PySem.W.fnOf "passage_up" "passage_up" (defArgs st_passage_up) (defBody st_passage_up) (defScope st_passage_up) .none kV21 dc21 pm21 an21 cd21 ct21), sl21⟩)
    (c21 : PySem.W.codeIn K cd21 "passage_up" = true)
    (k21 : PySem.W.keepIn K (.ref f21) = true)
    (a22 : PySem.W.nsIn K mainGlobals "passage_down" = some (some (.ref f22)))
    (l22 : K.lookup f22 = some ⟨oc22, od22, .func (PySem.W.fnOf "passage_down" "passage_down" (defArgs st_passage_down) (defBody st_passage_down) (defScope st_passage_down) .none kV22 dc22 pm22 an22 cd22 ct22), sl22⟩)
    (c22 : PySem.W.codeIn K cd22 "passage_down" = true)
    (k22 : PySem.W.keepIn K (.ref f22) = true)
    (a23 : PySem.W.nsIn K mainGlobals "plan" = some (some (.ref f23)))
    (l23 : K.lookup f23 = some ⟨oc23, od23, .func (PySem.W.fnOf "plan" "plan" (defArgs st_plan) (defBody st_plan) (defScope st_plan) .none kV23 dc23 pm23 an23 cd23 ct23), sl23⟩)
    (c23 : PySem.W.codeIn K cd23 "plan" = true)
    (k23 : PySem.W.keepIn K (.ref f23) = true)
    (a24 : PySem.W.nsIn K mainGlobals "_law_cell_at" = some (some (.ref f24)))
    (l24 : K.lookup f24 = some ⟨oc24, od24, .func (PySem.W.fnOf "_law_cell_at" "_law_cell_at" (defArgs st_law_cell_at) (defBody st_law_cell_at) (defScope st_law_cell_at) .none kV24 dc24 pm24 an24 cd24 ct24), sl24⟩)
    (c24 : PySem.W.codeIn K cd24 "_law_cell_at" = true)
    (k24 : PySem.W.keepIn K (.ref f24) = true)
    (a25 : PySem.W.nsIn K mainGlobals "_law_whole" = some (some (.ref f25)))
    (l25 : K.lookup f25 = some ⟨oc25, od25, .func (PySem.W.fnOf "_law_whole" "_law_whole" (defArgs st_law_whole) (defBody st_law_whole) (defScope st_law_whole) .none kV25 dc25 pm25 an25 cd25 ct25), sl25⟩)
    (c25 : PySem.W.codeIn K cd25 "_law_whole" = true)
    (k25 : PySem.W.keepIn K (.ref f25) = true)
    (a26 : PySem.W.nsIn K mainGlobals "_law_levels" = some (some (.ref f26)))
    (l26 : K.lookup f26 = some ⟨oc26, od26, .func (PySem.W.fnOf "_law_levels" "_law_levels" (defArgs st_law_levels) (defBody st_law_levels) (defScope st_law_levels) .none kV26 dc26 pm26 an26 cd26 ct26), sl26⟩)
    (c26 : PySem.W.codeIn K cd26 "_law_levels" = true)
    (k26 : PySem.W.keepIn K (.ref f26) = true)
    (a27 : PySem.W.nsIn K mainGlobals "_law_order" = some (some (.ref f27)))
    (l27 : K.lookup f27 = some ⟨oc27, od27, .func (PySem.W.fnOf "_law_order" "_law_order" (defArgs st_law_order) (defBody st_law_order) (defScope st_law_order) .none kV27 dc27 pm27 an27 cd27 ct27), sl27⟩)
    (c27 : PySem.W.codeIn K cd27 "_law_order" = true)
    (k27 : PySem.W.keepIn K (.ref f27) = true)
    (a28 : PySem.W.nsIn K mainGlobals "_law_bools" = some (some (.ref f28)))
    (l28 : K.lookup f28 = some ⟨oc28, od28, .func (PySem.W.fnOf "_law_bools" "_law_bools" (defArgs st_law_bools) (defBody st_law_bools) (defScope st_law_bools) .none kV28 dc28 pm28 an28 cd28 ct28), sl28⟩)
    (c28 : PySem.W.codeIn K cd28 "_law_bools" = true)
    (k28 : PySem.W.keepIn K (.ref f28) = true)
    (a29 : PySem.W.nsIn K mainGlobals "_law_numbers" = some (some (.ref f29)))
    (l29 : K.lookup f29 = some ⟨oc29, od29, .func (PySem.W.fnOf "_law_numbers" "_law_numbers" (defArgs st_law_numbers) (defBody st_law_numbers) (defScope st_law_numbers) .none kV29 dc29 pm29 an29 cd29 ct29), sl29⟩)
    (c29 : PySem.W.codeIn K cd29 "_law_numbers" = true)
    (k29 : PySem.W.keepIn K (.ref f29) = true)
    (a30 : PySem.W.nsIn K mainGlobals "_law_new" = some (some (.ref f30)))
    (l30 : K.lookup f30 = some ⟨oc30, od30, .func (PySem.W.fnOf "_law_new" "_law_new" (defArgs st_law_new) (defBody st_law_new) (defScope st_law_new) .none kV30 dc30 pm30 an30 cd30 ct30), sl30⟩)
    (c30 : PySem.W.codeIn K cd30 "_law_new" = true)
    (k30 : PySem.W.keepIn K (.ref f30) = true)
    (a31 : PySem.W.nsIn K mainGlobals "_law_let_word" = some (some (.ref f31)))
    (l31 : K.lookup f31 = some ⟨oc31, od31, .func (PySem.W.fnOf "_law_let_word" "_law_let_word" (defArgs st_law_let_word) (defBody st_law_let_word) (defScope st_law_let_word) .none kV31 dc31 pm31 an31 cd31 ct31), sl31⟩)
    (c31 : PySem.W.codeIn K cd31 "_law_let_word" = true)
    (k31 : PySem.W.keepIn K (.ref f31) = true)
    (a32 : PySem.W.nsIn K mainGlobals "_law_let" = some (some (.ref f32)))
    (l32 : K.lookup f32 = some ⟨oc32, od32, .func (PySem.W.fnOf "_law_let" "_law_let" (defArgs st_law_let) (defBody st_law_let) (defScope st_law_let) .none kV32 dc32 pm32 an32 cd32 ct32), sl32⟩)
    (c32 : PySem.W.codeIn K cd32 "_law_let" = true)
    (k32 : PySem.W.keepIn K (.ref f32) = true)
    (a33 : PySem.W.nsIn K mainGlobals "_law_then" = some (some (.ref f33)))
    (l33 : K.lookup f33 = some ⟨oc33, od33, .func (PySem.W.fnOf "_law_then" "_law_then" (defArgs st_law_then) (defBody st_law_then) (defScope st_law_then) .none kV33 dc33 pm33 an33 cd33 ct33), sl33⟩)
    (c33 : PySem.W.codeIn K cd33 "_law_then" = true)
    (k33 : PySem.W.keepIn K (.ref f33) = true)
    (a34 : PySem.W.nsIn K mainGlobals "_law_sail_word" = some (some (.ref f34)))
    (l34 : K.lookup f34 = some ⟨oc34, od34, .func (PySem.W.fnOf "_law_sail_word" "_law_sail_word" (defArgs st_law_sail_word) (defBody st_law_sail_word) (defScope st_law_sail_word) .none kV34 dc34 pm34 an34 cd34 ct34), sl34⟩)
    (c34 : PySem.W.codeIn K cd34 "_law_sail_word" = true)
    (k34 : PySem.W.keepIn K (.ref f34) = true)
    (a35 : PySem.W.nsIn K mainGlobals "_law_sail" = some (some (.ref f35)))
    (l35 : K.lookup f35 = some ⟨oc35, od35, .func (PySem.W.fnOf "_law_sail" "_law_sail" (defArgs st_law_sail) (defBody st_law_sail) (defScope st_law_sail) .none kV35 dc35 pm35 an35 cd35 ct35), sl35⟩)
    (c35 : PySem.W.codeIn K cd35 "_law_sail" = true)
    (k35 : PySem.W.keepIn K (.ref f35) = true)
    (a36 : PySem.W.nsIn K mainGlobals "_law_come" = some (some (.ref f36)))
    (l36 : K.lookup f36 = some ⟨oc36, od36, .func (PySem.W.fnOf "_law_come" "_law_come" (defArgs st_law_come) (defBody st_law_come) (defScope st_law_come) .none kV36 dc36 pm36 an36 cd36 ct36), sl36⟩)
    (c36 : PySem.W.codeIn K cd36 "_law_come" = true)
    (k36 : PySem.W.keepIn K (.ref f36) = true)
    (a37 : PySem.W.nsIn K mainGlobals "_law_stands" = some (some (.ref f37)))
    (l37 : K.lookup f37 = some ⟨oc37, od37, .func (PySem.W.fnOf "_law_stands" "_law_stands" (defArgs st_law_stands) (defBody st_law_stands) (defScope st_law_stands) .none kV37 dc37 pm37 an37 cd37 ct37), sl37⟩)
    (c37 : PySem.W.codeIn K cd37 "_law_stands" = true)
    (k37 : PySem.W.keepIn K (.ref f37) = true)
    (a38 : PySem.W.nsIn K mainGlobals "_law_does" = some (some (.ref f38)))
    (l38 : K.lookup f38 = some ⟨oc38, od38, .func (PySem.W.fnOf "_law_does" "_law_does" (defArgs st_law_does) (defBody st_law_does) (defScope st_law_does) .none kV38 dc38 pm38 an38 cd38 ct38), sl38⟩)
    (c38 : PySem.W.codeIn K cd38 "_law_does" = true)
    (k38 : PySem.W.keepIn K (.ref f38) = true)
    (a39 : PySem.W.nsIn K mainGlobals "law" = some (some (.ref f39)))
    (l39 : K.lookup f39 = some ⟨oc39, od39, .func (PySem.W.fnOf "law" "law" (defArgs st_law) (defBody st_law) (defScope st_law) .none kV39 dc39 pm39 an39 cd39 ct39), sl39⟩)
    (c39 : PySem.W.codeIn K cd39 "law" = true)
    (k39 : PySem.W.keepIn K (.ref f39) = true) :
    ∃ fd : FuncData, (∀ (s : Shared) (v : Value), BindsTo s fd ⟨[v], []⟩ [("script", v)]) ∧ ∀ base : Heap, K.In base → base.Ns mainGlobals mg → FnOk l.prog w K mg base (L2.CX l.prog w) 6 fa fd ["script"] (spD K Φ_top) := by
  have e := hfa.symm.trans (PySem.W.mg_of X G a39)
  cases e
  have T : Tx K mg (⟨cC, c_bf, c_ng, c_nf, c_nb, c_ns, c_sh, c_oc, 0, c_le⟩ : Ad) := {b_len := PySem.W.mg_none_of X G x_b_len, c_MOST_CHAMBERS := ⟨_, PySem.W.mg_of X G x_c_MOST_CHAMBERS, _, rfl⟩, x_bf := x_x_bf, g_bf := PySem.W.mg_of X G x_g_bf, k_bf := x_k_bf, s_bf := x_s_bf, t_bf := x_t_bf, b_list := PySem.W.mg_none_of X G x_b_list, b_sorted := PySem.W.mg_none_of X G x_b_sorted, x_nb := x_x_nb, g_nb := PySem.W.mg_of X G x_g_nb, k_nb := x_k_nb, s_nb := x_s_nb, t_nb := x_t_nb, x_ng := x_x_ng, g_ng := PySem.W.mg_of X G x_g_ng, k_ng := x_k_ng, s_ng := x_s_ng, t_ng := x_t_ng, x_nf := x_x_nf, g_nf := PySem.W.mg_of X G x_g_nf, k_nf := x_k_nf, s_nf := x_s_nf, t_nf := x_t_nf, x_ns := x_x_ns, g_ns := PySem.W.mg_of X G x_g_ns, k_ns := x_k_ns, s_ns := x_s_ns, t_ns := x_t_ns, x_sh := x_x_sh, g_sh := PySem.W.mg_of X G x_g_sh, k_sh := x_k_sh, s_sh := x_s_sh, t_sh := x_t_sh, x_oc := x_x_oc, g_oc := PySem.W.mg_of X G x_g_oc, k_oc := x_k_oc, s_oc := x_s_oc, t_oc := x_t_oc, b_int := PySem.W.mg_none_of X G x_b_int, b_reversed := PySem.W.mg_none_of X G x_b_reversed, b_range := PySem.W.mg_none_of X G x_b_range, b_isinstance := PySem.W.mg_none_of X G x_b_isinstance, b_bool := PySem.W.mg_none_of X G x_b_bool, b_all := PySem.W.mg_none_of X G x_b_all, b_min := PySem.W.mg_none_of X G x_b_min, g_le := PySem.W.mg_of X G x_g_le, b_sum := PySem.W.mg_none_of X G x_b_sum, cl := ⟨x_pg, x_hd, x_po, x_sa⟩, fl := ⟨⟨x_pg, x_hd, x_po, x_sa⟩, x_n_high, x_n_sides, x_n_places, x_n_done, x_n_taken, x_n_given⟩}
  have F0 := fun_mk (st := st_ask_levels) l0 c0 k0
  have b0 := F0.binds (ps := ["levels"]) fun _ _ _ _ _ _ us hl => match us, hl with | [_], _ => rfl
  have F1 := fun_mk (st := st_m_init) l1 c1 k1
  have b1 := F1.binds (ps := ["self", "levels"]) fun _ _ _ _ _ _ us hl => match us, hl with | [_, _], _ => rfl
  have F2 := fun_mk (st := st_m_levels) l2 c2 k2
  have b2 := F2.binds (ps := ["self"]) fun _ _ _ _ _ _ us hl => match us, hl with | [_], _ => rfl
  have F3 := fun_mk (st := st_m_top) l3 c3 k3
  have b3 := F3.binds (ps := ["self"]) fun _ _ _ _ _ _ us hl => match us, hl with | [_], _ => rfl
  have F4 := fun_mk (st := st_m_boats) l4 c4 k4
  have b4 := F4.binds (ps := ["self"]) fun _ _ _ _ _ _ us hl => match us, hl with | [_], _ => rfl
  have F5 := fun_mk (st := st_m_waiting) l5 c5 k5
  have b5 := F5.binds (ps := ["self", "side"]) fun _ _ _ _ _ _ us hl => match us, hl with | [_, _], _ => rfl
  have F6 := fun_mk (st := st_m_through) l6 c6 k6
  have b6 := F6.binds (ps := ["self"]) fun _ _ _ _ _ _ us hl => match us, hl with | [_], _ => rfl
  have F7 := fun_mk (st := st_m_place) l7 c7 k7
  have b7 := F7.binds (ps := ["self", "boat"]) fun _ _ _ _ _ _ us hl => match us, hl with | [_, _], _ => rfl
  have F8 := fun_mk (st := st_m_drawn) l8 c8 k8
  have b8 := F8.binds (ps := ["self"]) fun _ _ _ _ _ _ us hl => match us, hl with | [_], _ => rfl
  have F9 := fun_mk (st := st_m_out) l9 c9 k9
  have b9 := F9.binds (ps := ["self"]) fun _ _ _ _ _ _ us hl => match us, hl with | [_], _ => rfl
  have F10 := fun_mk (st := st_m_come) l10 c10 k10
  have b10 := F10.binds (ps := ["self", "side"]) fun _ _ _ _ _ _ us hl => match us, hl with | [_, _], _ => rfl
  have F11 := fun_mk (st := st_m_let) l11 c11 k11
  have b11 := F11.binds (ps := ["self", "gate"]) fun _ _ _ _ _ _ us hl => match us, hl with | [_, _], _ => rfl
  have F12 := fun_mk (st := st_m_is_level) l12 c12 k12
  have b12 := F12.binds (ps := ["self", "gate"]) fun _ _ _ _ _ _ us hl => match us, hl with | [_, _], _ => rfl
  have F13 := fun_mk (st := st_m_sail) l13 c13 k13
  have b13 := F13.binds (ps := ["self", "boat"]) fun _ _ _ _ _ _ us hl => match us, hl with | [_, _], _ => rfl
  have F14 := fun_mk (st := st_cost_of) l14 c14 k14
  have b14 := F14.binds (ps := ["levels", "side"]) fun _ _ _ _ _ _ us hl => match us, hl with | [_, _], _ => rfl
  have F15 := fun_mk (st := st_behind) l15 c15 k15
  have b15 := F15.binds (ps := ["levels", "side"]) fun _ _ _ _ _ _ us hl => match us, hl with | [_, _], _ => rfl
  have F16 := fun_mk (st := st_cost) l16 c16 k16
  have b16 := F16.binds (ps := ["levels", "order"]) fun _ _ _ _ _ _ us hl => match us, hl with | [_, _], _ => rfl
  have F17 := fun_mk (st := st_filled) l17 c17 k17
  have b17 := F17.binds (ps := ["levels", "chamber"]) fun _ _ _ _ _ _ us hl => match us, hl with | [_, _], _ => rfl
  have F18 := fun_mk (st := st_emptied) l18 c18 k18
  have b18 := F18.binds (ps := ["levels", "chamber"]) fun _ _ _ _ _ _ us hl => match us, hl with | [_, _], _ => rfl
  have F19 := fun_mk (st := st_let_all) l19 c19 k19
  have b19 := F19.binds (ps := ["levels", "deeds"]) fun _ _ _ _ _ _ us hl => match us, hl with | [_, _], _ => rfl
  have F20 := fun_mk (st := st_put) l20 c20 k20
  have b20 := F20.binds (ps := ["levels", "deeds", "more"]) fun _ _ _ _ _ _ us hl => match us, hl with | [_, _, _], _ => rfl
  have F21 := fun_mk (st := st_passage_up) l21 c21 k21
  have b21 := F21.binds (ps := ["levels", "boat", "deeds"]) fun _ _ _ _ _ _ us hl => match us, hl with | [_, _, _], _ => rfl
  have F22 := fun_mk (st := st_passage_down) l22 c22 k22
  have b22 := F22.binds (ps := ["levels", "boat", "deeds"]) fun _ _ _ _ _ _ us hl => match us, hl with | [_, _, _], _ => rfl
  have F23 := fun_mk (st := st_plan) l23 c23 k23
  have b23 := F23.binds (ps := ["levels", "order"]) fun _ _ _ _ _ _ us hl => match us, hl with | [_, _], _ => rfl
  have F24 := fun_mk (st := st_law_cell_at) l24 c24 k24
  have b24 := F24.binds (ps := ["script", "k"]) fun _ _ _ _ _ _ us hl => match us, hl with | [_, _], _ => rfl
  have F25 := fun_mk (st := st_law_whole) l25 c25 k25
  have b25 := F25.binds (ps := ["found"]) fun _ _ _ _ _ _ us hl => match us, hl with | [_], _ => rfl
  have F26 := fun_mk (st := st_law_levels) l26 c26 k26
  have b26 := F26.binds (ps := ["script", "start"]) fun _ _ _ _ _ _ us hl => match us, hl with | [_, _], _ => rfl
  have F27 := fun_mk (st := st_law_order) l27 c27 k27
  have b27 := F27.binds (ps := ["script", "start", "size"]) fun _ _ _ _ _ _ us hl => match us, hl with | [_, _, _], _ => rfl
  have F28 := fun_mk (st := st_law_bools) l28 c28 k28
  have b28 := F28.binds (ps := ["found", "due"]) fun _ _ _ _ _ _ us hl => match us, hl with | [_, _], _ => rfl
  have F29 := fun_mk (st := st_law_numbers) l29 c29 k29
  have b29 := F29.binds (ps := ["found", "due"]) fun _ _ _ _ _ _ us hl => match us, hl with | [_, _], _ => rfl
  have F30 := fun_mk (st := st_law_new) l30 c30 k30
  have b30 := F30.binds (ps := ["levels"]) fun _ _ _ _ _ _ us hl => match us, hl with | [_], _ => rfl
  have F31 := fun_mk (st := st_law_let_word) l31 c31 k31
  have b31 := F31.binds (ps := ["state", "gate"]) fun _ _ _ _ _ _ us hl => match us, hl with | [_, _], _ => rfl
  have F32 := fun_mk (st := st_law_let) l32 c32 k32
  have b32 := F32.binds (ps := ["state", "gate"]) fun _ _ _ _ _ _ us hl => match us, hl with | [_, _], _ => rfl
  have F33 := fun_mk (st := st_law_then) l33 c33 k33
  have b33 := F33.binds (ps := ["state", "boat"]) fun _ _ _ _ _ _ us hl => match us, hl with | [_, _], _ => rfl
  have F34 := fun_mk (st := st_law_sail_word) l34 c34 k34
  have b34 := F34.binds (ps := ["state", "boat"]) fun _ _ _ _ _ _ us hl => match us, hl with | [_, _], _ => rfl
  have F35 := fun_mk (st := st_law_sail) l35 c35 k35
  have b35 := F35.binds (ps := ["state", "boat"]) fun _ _ _ _ _ _ us hl => match us, hl with | [_, _], _ => rfl
  have F36 := fun_mk (st := st_law_come) l36 c36 k36
  have b36 := F36.binds (ps := ["state", "side"]) fun _ _ _ _ _ _ us hl => match us, hl with | [_, _], _ => rfl
  have F37 := fun_mk (st := st_law_stands) l37 c37 k37
  have b37 := F37.binds (ps := ["flight", "state"]) fun _ _ _ _ _ _ us hl => match us, hl with | [_, _], _ => rfl
  have F38 := fun_mk (st := st_law_does) l38 c38 k38
  have b38 := F38.binds (ps := ["flight", "state", "deed"]) fun _ _ _ _ _ _ us hl => match us, hl with | [_, _, _], _ => rfl
  have F39 := fun_mk (st := st_law) l39 c39 k39
  refine ⟨PySem.W.fnOf "law" "law" (defArgs st_law) (defBody st_law) (defScope st_law) .none kV39 dc39 pm39 an39 cd39 ct39, fun s v => .of_eq rfl, fun base _ _ => ?_⟩
  have q_ask_levels : Cl l.prog w K mg base 2 "ask_levels" ["levels"] (spD K (Φ_ask_levels (⟨cC, c_bf, c_ng, c_nf, c_nb, c_ns, c_sh, c_oc, 0, c_le⟩ : Ad))) := ⟨f0, _, ok_ask_levels (P := l.prog) (w := w) (base := base) F0 T , PySem.W.mg_of X G a0, k0, b0⟩
  have q_m_init : Mc l.prog w K mg base 3 "Flight" cC ["self", "levels"] (spD K (Φ_m_init (⟨cC, c_bf, c_ng, c_nf, c_nb, c_ns, c_sh, c_oc, 0, c_le⟩ : Ad))) := ⟨f1, _, ok_m_init (P := l.prog) (w := w) (base := base) F1 T q_ask_levels, ⟨x_mk, a1, i1, x_kc⟩, PySem.W.mg_of X G x_aC, b1⟩
  have q_m_levels : Mt l.prog w K mg base 2 cC "levels" ["self"] (spD K (Φ_m_levels (⟨cC, c_bf, c_ng, c_nf, c_nb, c_ns, c_sh, c_oc, 0, c_le⟩ : Ad))) := ⟨f2, _, ok_m_levels (P := l.prog) (w := w) (base := base) F2 T , T.cl, ⟨a2, i2, k2⟩, b2⟩
  have q_m_top : Mt l.prog w K mg base 2 cC "top" ["self"] (spD K (Φ_m_top (⟨cC, c_bf, c_ng, c_nf, c_nb, c_ns, c_sh, c_oc, 0, c_le⟩ : Ad))) := ⟨f3, _, ok_m_top (P := l.prog) (w := w) (base := base) F3 T , T.cl, ⟨a3, i3, k3⟩, b3⟩
  have q_m_boats : Mt l.prog w K mg base 3 cC "boats" ["self"] (spD K (Φ_m_boats (⟨cC, c_bf, c_ng, c_nf, c_nb, c_ns, c_sh, c_oc, 0, c_le⟩ : Ad))) := ⟨f4, _, ok_m_boats (P := l.prog) (w := w) (base := base) F4 T q_m_top, T.cl, ⟨a4, i4, k4⟩, b4⟩
  have q_m_waiting : Mt l.prog w K mg base 3 cC "waiting" ["self", "side"] (spD K (Φ_m_waiting (⟨cC, c_bf, c_ng, c_nf, c_nb, c_ns, c_sh, c_oc, 0, c_le⟩ : Ad))) := ⟨f5, _, ok_m_waiting (P := l.prog) (w := w) (base := base) F5 T q_m_top, T.cl, ⟨a5, i5, k5⟩, b5⟩
  have q_m_through : Mt l.prog w K mg base 2 cC "through" ["self"] (spD K (Φ_m_through (⟨cC, c_bf, c_ng, c_nf, c_nb, c_ns, c_sh, c_oc, 0, c_le⟩ : Ad))) := ⟨f6, _, ok_m_through (P := l.prog) (w := w) (base := base) F6 T , T.cl, ⟨a6, i6, k6⟩, b6⟩
  have q_m_place : Mt l.prog w K mg base 2 cC "place" ["self", "boat"] (spD K (Φ_m_place (⟨cC, c_bf, c_ng, c_nf, c_nb, c_ns, c_sh, c_oc, 0, c_le⟩ : Ad))) := ⟨f7, _, ok_m_place (P := l.prog) (w := w) (base := base) F7 T , T.cl, ⟨a7, i7, k7⟩, b7⟩
  have q_m_drawn : Mt l.prog w K mg base 2 cC "drawn" ["self"] (spD K (Φ_m_drawn (⟨cC, c_bf, c_ng, c_nf, c_nb, c_ns, c_sh, c_oc, 0, c_le⟩ : Ad))) := ⟨f8, _, ok_m_drawn (P := l.prog) (w := w) (base := base) F8 T , T.cl, ⟨a8, i8, k8⟩, b8⟩
  have q_m_out : Mt l.prog w K mg base 2 cC "out" ["self"] (spD K (Φ_m_out (⟨cC, c_bf, c_ng, c_nf, c_nb, c_ns, c_sh, c_oc, 0, c_le⟩ : Ad))) := ⟨f9, _, ok_m_out (P := l.prog) (w := w) (base := base) F9 T , T.cl, ⟨a9, i9, k9⟩, b9⟩
  have q_m_come : Mt l.prog w K mg base 3 cC "come" ["self", "side"] (spD K (Φ_m_come (⟨cC, c_bf, c_ng, c_nf, c_nb, c_ns, c_sh, c_oc, 0, c_le⟩ : Ad))) := ⟨f10, _, ok_m_come (P := l.prog) (w := w) (base := base) F10 T q_m_top, T.cl, ⟨a10, i10, k10⟩, b10⟩
  have q_m_let : Mt l.prog w K mg base 2 cC "let" ["self", "gate"] (spD K (Φ_m_let (⟨cC, c_bf, c_ng, c_nf, c_nb, c_ns, c_sh, c_oc, 0, c_le⟩ : Ad))) := ⟨f11, _, ok_m_let (P := l.prog) (w := w) (base := base) F11 T , T.cl, ⟨a11, i11, k11⟩, b11⟩
  have q_m_is_level : Mt l.prog w K mg base 2 cC "is_level" ["self", "gate"] (spD K (Φ_m_is_level (⟨cC, c_bf, c_ng, c_nf, c_nb, c_ns, c_sh, c_oc, 0, c_le⟩ : Ad))) := ⟨f12, _, ok_m_is_level (P := l.prog) (w := w) (base := base) F12 T , T.cl, ⟨a12, i12, k12⟩, b12⟩
  have q_m_sail : Mt l.prog w K mg base 4 cC "sail" ["self", "boat"] (spD K (Φ_m_sail (⟨cC, c_bf, c_ng, c_nf, c_nb, c_ns, c_sh, c_oc, 0, c_le⟩ : Ad))) := ⟨f13, _, ok_m_sail (P := l.prog) (w := w) (base := base) F13 T q_m_place q_m_waiting q_m_is_level q_m_top q_m_boats, T.cl, ⟨a13, i13, k13⟩, b13⟩
  have q_cost_of : Cl l.prog w K mg base 2 "cost_of" ["levels", "side"] (spD K (Φ_cost_of (⟨cC, c_bf, c_ng, c_nf, c_nb, c_ns, c_sh, c_oc, 0, c_le⟩ : Ad))) := ⟨f14, _, ok_cost_of (P := l.prog) (w := w) (base := base) F14 T , PySem.W.mg_of X G a14, k14, b14⟩
  have q_behind : Cl l.prog w K mg base 2 "behind" ["levels", "side"] (spD K (Φ_behind (⟨cC, c_bf, c_ng, c_nf, c_nb, c_ns, c_sh, c_oc, 0, c_le⟩ : Ad))) := ⟨f15, _, ok_behind (P := l.prog) (w := w) (base := base) F15 T , PySem.W.mg_of X G a15, k15, b15⟩
  have q_cost : Cl l.prog w K mg base 3 "cost" ["levels", "order"] (spD K (Φ_cost (⟨cC, c_bf, c_ng, c_nf, c_nb, c_ns, c_sh, c_oc, 0, c_le⟩ : Ad))) := ⟨f16, _, ok_cost (P := l.prog) (w := w) (base := base) F16 T q_ask_levels q_cost_of q_behind, PySem.W.mg_of X G a16, k16, b16⟩
  have q_filled : Cl l.prog w K mg base 2 "filled" ["levels", "chamber"] (spD K (Φ_filled (⟨cC, c_bf, c_ng, c_nf, c_nb, c_ns, c_sh, c_oc, 0, c_le⟩ : Ad))) := ⟨f17, _, ok_filled (P := l.prog) (w := w) (base := base) F17 T , PySem.W.mg_of X G a17, k17, b17⟩
  have q_emptied : Cl l.prog w K mg base 2 "emptied" ["levels", "chamber"] (spD K (Φ_emptied (⟨cC, c_bf, c_ng, c_nf, c_nb, c_ns, c_sh, c_oc, 0, c_le⟩ : Ad))) := ⟨f18, _, ok_emptied (P := l.prog) (w := w) (base := base) F18 T , PySem.W.mg_of X G a18, k18, b18⟩
  have q_let_all : Cl l.prog w K mg base 2 "let_all" ["levels", "deeds"] (spD K (Φ_let_all (⟨cC, c_bf, c_ng, c_nf, c_nb, c_ns, c_sh, c_oc, 0, c_le⟩ : Ad))) := ⟨f19, _, ok_let_all (P := l.prog) (w := w) (base := base) F19 T , PySem.W.mg_of X G a19, k19, b19⟩
  have q_put : Cl l.prog w K mg base 3 "put" ["levels", "deeds", "more"] (spD K (Φ_put (⟨cC, c_bf, c_ng, c_nf, c_nb, c_ns, c_sh, c_oc, 0, c_le⟩ : Ad))) := ⟨f20, _, ok_put (P := l.prog) (w := w) (base := base) F20 T q_let_all, PySem.W.mg_of X G a20, k20, b20⟩
  have q_passage_up : Cl l.prog w K mg base 4 "passage_up" ["levels", "boat", "deeds"] (spD K (Φ_passage_up (⟨cC, c_bf, c_ng, c_nf, c_nb, c_ns, c_sh, c_oc, 0, c_le⟩ : Ad))) := ⟨f21, _, ok_passage_up (P := l.prog) (w := w) (base := base) F21 T q_emptied q_put q_filled, PySem.W.mg_of X G a21, k21, b21⟩
  have q_passage_down : Cl l.prog w K mg base 4 "passage_down" ["levels", "boat", "deeds"] (spD K (Φ_passage_down (⟨cC, c_bf, c_ng, c_nf, c_nb, c_ns, c_sh, c_oc, 0, c_le⟩ : Ad))) := ⟨f22, _, ok_passage_down (P := l.prog) (w := w) (base := base) F22 T q_filled q_put q_emptied, PySem.W.mg_of X G a22, k22, b22⟩
  have q_plan : Cl l.prog w K mg base 5 "plan" ["levels", "order"] (spD K (Φ_plan (⟨cC, c_bf, c_ng, c_nf, c_nb, c_ns, c_sh, c_oc, 0, c_le⟩ : Ad))) := ⟨f23, _, ok_plan (P := l.prog) (w := w) (base := base) F23 T q_ask_levels q_passage_up q_passage_down, PySem.W.mg_of X G a23, k23, b23⟩
  have q_law_cell_at : Cl l.prog w K mg base 2 "_law_cell_at" ["script", "k"] (spD K (Φ_law_cell_at (⟨cC, c_bf, c_ng, c_nf, c_nb, c_ns, c_sh, c_oc, 0, c_le⟩ : Ad))) := ⟨f24, _, ok_law_cell_at (P := l.prog) (w := w) (base := base) F24 T , PySem.W.mg_of X G a24, k24, b24⟩
  have q_law_whole : Cl l.prog w K mg base 2 "_law_whole" ["found"] (spD K (Φ_law_whole (⟨cC, c_bf, c_ng, c_nf, c_nb, c_ns, c_sh, c_oc, 0, c_le⟩ : Ad))) := ⟨f25, _, ok_law_whole (P := l.prog) (w := w) (base := base) F25 T , PySem.W.mg_of X G a25, k25, b25⟩
  have q_law_levels : Cl l.prog w K mg base 3 "_law_levels" ["script", "start"] (spD K (Φ_law_levels (⟨cC, c_bf, c_ng, c_nf, c_nb, c_ns, c_sh, c_oc, 0, c_le⟩ : Ad))) := ⟨f26, _, ok_law_levels (P := l.prog) (w := w) (base := base) F26 T q_law_cell_at, PySem.W.mg_of X G a26, k26, b26⟩
  have q_law_order : Cl l.prog w K mg base 3 "_law_order" ["script", "start", "size"] (spD K (Φ_law_order (⟨cC, c_bf, c_ng, c_nf, c_nb, c_ns, c_sh, c_oc, 0, c_le⟩ : Ad))) := ⟨f27, _, ok_law_order (P := l.prog) (w := w) (base := base) F27 T q_law_cell_at, PySem.W.mg_of X G a27, k27, b27⟩
  have q_law_bools : Cl l.prog w K mg base 2 "_law_bools" ["found", "due"] (spD K (Φ_law_bools (⟨cC, c_bf, c_ng, c_nf, c_nb, c_ns, c_sh, c_oc, 0, c_le⟩ : Ad))) := ⟨f28, _, ok_law_bools (P := l.prog) (w := w) (base := base) F28 T , PySem.W.mg_of X G a28, k28, b28⟩
  have q_law_numbers : Cl l.prog w K mg base 3 "_law_numbers" ["found", "due"] (spD K (Φ_law_numbers (⟨cC, c_bf, c_ng, c_nf, c_nb, c_ns, c_sh, c_oc, 0, c_le⟩ : Ad))) := ⟨f29, _, ok_law_numbers (P := l.prog) (w := w) (base := base) F29 T q_law_whole, PySem.W.mg_of X G a29, k29, b29⟩
  have q_law_new : Cl l.prog w K mg base 2 "_law_new" ["levels"] (spD K (Φ_law_new (⟨cC, c_bf, c_ng, c_nf, c_nb, c_ns, c_sh, c_oc, 0, c_le⟩ : Ad))) := ⟨f30, _, ok_law_new (P := l.prog) (w := w) (base := base) F30 T , PySem.W.mg_of X G a30, k30, b30⟩
  have q_law_let_word : Cl l.prog w K mg base 2 "_law_let_word" ["state", "gate"] (spD K (Φ_law_let_word (⟨cC, c_bf, c_ng, c_nf, c_nb, c_ns, c_sh, c_oc, 0, c_le⟩ : Ad))) := ⟨f31, _, ok_law_let_word (P := l.prog) (w := w) (base := base) F31 T , PySem.W.mg_of X G a31, k31, b31⟩
  have q_law_let : Cl l.prog w K mg base 2 "_law_let" ["state", "gate"] (spD K (Φ_law_let (⟨cC, c_bf, c_ng, c_nf, c_nb, c_ns, c_sh, c_oc, 0, c_le⟩ : Ad))) := ⟨f32, _, ok_law_let (P := l.prog) (w := w) (base := base) F32 T , PySem.W.mg_of X G a32, k32, b32⟩
  have q_law_then : Cl l.prog w K mg base 2 "_law_then" ["state", "boat"] (spD K (Φ_law_then (⟨cC, c_bf, c_ng, c_nf, c_nb, c_ns, c_sh, c_oc, 0, c_le⟩ : Ad))) := ⟨f33, _, ok_law_then (P := l.prog) (w := w) (base := base) F33 T , PySem.W.mg_of X G a33, k33, b33⟩
  have q_law_sail_word : Cl l.prog w K mg base 3 "_law_sail_word" ["state", "boat"] (spD K (Φ_law_sail_word (⟨cC, c_bf, c_ng, c_nf, c_nb, c_ns, c_sh, c_oc, 0, c_le⟩ : Ad))) := ⟨f34, _, ok_law_sail_word (P := l.prog) (w := w) (base := base) F34 T q_law_then, PySem.W.mg_of X G a34, k34, b34⟩
  have q_law_sail : Cl l.prog w K mg base 3 "_law_sail" ["state", "boat"] (spD K (Φ_law_sail (⟨cC, c_bf, c_ng, c_nf, c_nb, c_ns, c_sh, c_oc, 0, c_le⟩ : Ad))) := ⟨f35, _, ok_law_sail (P := l.prog) (w := w) (base := base) F35 T q_law_then, PySem.W.mg_of X G a35, k35, b35⟩
  have q_law_come : Cl l.prog w K mg base 2 "_law_come" ["state", "side"] (spD K (Φ_law_come (⟨cC, c_bf, c_ng, c_nf, c_nb, c_ns, c_sh, c_oc, 0, c_le⟩ : Ad))) := ⟨f36, _, ok_law_come (P := l.prog) (w := w) (base := base) F36 T , PySem.W.mg_of X G a36, k36, b36⟩
  have q_law_stands : Cl l.prog w K mg base 4 "_law_stands" ["flight", "state"] (spD K (Φ_law_stands (⟨cC, c_bf, c_ng, c_nf, c_nb, c_ns, c_sh, c_oc, 0, c_le⟩ : Ad))) := ⟨f37, _, ok_law_stands (P := l.prog) (w := w) (base := base) F37 T q_m_levels q_law_bools q_m_waiting q_law_numbers q_m_boats q_m_through q_m_drawn q_m_out, PySem.W.mg_of X G a37, k37, b37⟩
  have q_law_does : Cl l.prog w K mg base 5 "_law_does" ["flight", "state", "deed"] (spD K (Φ_law_does (⟨cC, c_bf, c_ng, c_nf, c_nb, c_ns, c_sh, c_oc, 0, c_le⟩ : Ad))) := ⟨f38, _, ok_law_does (P := l.prog) (w := w) (base := base) F38 T q_m_let q_m_sail q_law_let_word q_law_let q_law_sail_word q_law_sail q_law_stands, PySem.W.mg_of X G a38, k38, b38⟩
  exact ok_law (P := l.prog) (w := w) (base := base) F39 T q_law_levels q_law_cell_at q_law_order q_m_init q_law_new q_m_come q_law_come q_plan q_law_does q_m_through q_m_drawn q_cost q_m_levels
end Fl
open PySem PySem.W PyProof.Rows
set_option maxRecDepth 100000 in
set_option maxHeartbeats 0 in
theorem PySem.Challenge.cw_lockflight_k10_whole_plans_on_the_flight_holds : PySem.Challenge.rw_lockflight_k10_whole_plans_on_the_flight.Holds := by
  w_on; o_law; k_head; (case hw => w_witness2)
  k_fill
  refine Fl.walk_fl (l := PySem.Challenge.rw_lockflight_k10_whole_plans_on_the_flight) (k := 6) rfl rfl ⟨rfl, by decide, by decide⟩ (fun w h Y => PySem.W.kIn_of Y) ?F
  case F =>
    intro w mg fa h KX Gm hmg
    refine' Fl.all_mk KX Gm hmg ?z_x_aC ?z_x_b_len ?z_x_c_MOST_CHAMBERS ?z_x_g_bf ?z_x_x_bf ?z_x_k_bf ?z_x_s_bf ?z_x_t_bf ?z_x_b_list ?z_x_b_sorted ?z_x_g_nb ?z_x_x_nb ?z_x_k_nb ?z_x_s_nb ?z_x_t_nb ?z_x_g_ng ?z_x_x_ng ?z_x_k_ng ?z_x_s_ng ?z_x_t_ng ?z_x_g_nf ?z_x_x_nf ?z_x_k_nf ?z_x_s_nf ?z_x_t_nf ?z_x_g_ns ?z_x_x_ns ?z_x_k_ns ?z_x_s_ns ?z_x_t_ns ?z_x_g_sh ?z_x_x_sh ?z_x_k_sh ?z_x_s_sh ?z_x_t_sh ?z_x_g_oc ?z_x_x_oc ?z_x_k_oc ?z_x_s_oc ?z_x_t_oc ?z_x_b_int ?z_x_b_reversed ?z_x_b_range ?z_x_b_isinstance ?z_x_b_bool ?z_x_b_all ?z_x_b_min ?z_x_g_le ?z_x_b_sum ?z_x_pg ?z_x_hd ?z_x_po ?z_x_sa ?z_x_n_high ?z_x_n_sides ?z_x_n_places ?z_x_n_done ?z_x_n_taken ?z_x_n_given ?z_x_mk ?z_x_kc ?z_a0 ?z_l0 ?z_c0 ?z_k0 ?z_a1 ?z_i1 ?z_l1 ?z_c1 ?z_k1 ?z_a2 ?z_i2 ?z_l2 ?z_c2 ?z_k2 ?z_a3 ?z_i3 ?z_l3 ?z_c3 ?z_k3 ?z_a4 ?z_i4 ?z_l4 ?z_c4 ?z_k4 ?z_a5 ?z_i5 ?z_l5 ?z_c5 ?z_k5 ?z_a6 ?z_i6 ?z_l6 ?z_c6 ?z_k6 ?z_a7 ?z_i7 ?z_l7 ?z_c7 ?z_k7 ?z_a8 ?z_i8 ?z_l8 ?z_c8 ?z_k8 ?z_a9 ?z_i9 ?z_l9 ?z_c9 ?z_k9 ?z_a10 ?z_i10 ?z_l10 ?z_c10 ?z_k10 ?z_a11 ?z_i11 ?z_l11 ?z_c11 ?z_k11 ?z_a12 ?z_i12 ?z_l12 ?z_c12 ?z_k12 ?z_a13 ?z_i13 ?z_l13 ?z_c13 ?z_k13 ?z_a14 ?z_l14 ?z_c14 ?z_k14 ?z_a15 ?z_l15 ?z_c15 ?z_k15 ?z_a16 ?z_l16 ?z_c16 ?z_k16 ?z_a17 ?z_l17 ?z_c17 ?z_k17 ?z_a18 ?z_l18 ?z_c18 ?z_k18 ?z_a19 ?z_l19 ?z_c19 ?z_k19 ?z_a20 ?z_l20 ?z_c20 ?z_k20 ?z_a21 ?z_l21 ?z_c21 ?z_k21 ?z_a22 ?z_l22 ?z_c22 ?z_k22 ?z_a23 ?z_l23 ?z_c23 ?z_k23 ?z_a24 ?z_l24 ?z_c24 ?z_k24 ?z_a25 ?z_l25 ?z_c25 ?z_k25 ?z_a26 ?z_l26 ?z_c26 ?z_k26 ?z_a27 ?z_l27 ?z_c27 ?z_k27 ?z_a28 ?z_l28 ?z_c28 ?z_k28 ?z_a29 ?z_l29 ?z_c29 ?z_k29 ?z_a30 ?z_l30 ?z_c30 ?z_k30 ?z_a31 ?z_l31 ?z_c31 ?z_k31 ?z_a32 ?z_l32 ?z_c32 ?z_k32 ?z_a33 ?z_l33 ?z_c33 ?z_k33 ?z_a34 ?z_l34 ?z_c34 ?z_k34 ?z_a35 ?z_l35 ?z_c35 ?z_k35 ?z_a36 ?z_l36 ?z_c36 ?z_k36 ?z_a37 ?z_l37 ?z_c37 ?z_k37 ?z_a38 ?z_l38 ?z_c38 ?z_k38 ?z_a39 ?z_l39 ?z_c39 ?z_k39
    (case z_x_aC => k_is)
    (case z_x_b_len => k_is)
    (case z_x_c_MOST_CHAMBERS => k_is)
    (case z_x_g_bf => k_is)
    (case z_x_x_bf => k_exc)
    (case z_x_k_bf => k_is)
    (case z_x_s_bf => k_is)
    (case z_x_t_bf => k_is)
    (case z_x_b_list => k_is)
    (case z_x_b_sorted => k_is)
    (case z_x_g_nb => k_is)
    (case z_x_x_nb => k_exc)
    (case z_x_k_nb => k_is)
    (case z_x_s_nb => k_is)
    (case z_x_t_nb => k_is)
    (case z_x_g_ng => k_is)
    (case z_x_x_ng => k_exc)
    (case z_x_k_ng => k_is)
    (case z_x_s_ng => k_is)
    (case z_x_t_ng => k_is)
    (case z_x_g_nf => k_is)
    (case z_x_x_nf => k_exc)
    (case z_x_k_nf => k_is)
    (case z_x_s_nf => k_is)
    (case z_x_t_nf => k_is)
    (case z_x_g_ns => k_is)
    (case z_x_x_ns => k_exc)
    (case z_x_k_ns => k_is)
    (case z_x_s_ns => k_is)
    (case z_x_t_ns => k_is)
    (case z_x_g_sh => k_is)
    (case z_x_x_sh => k_exc)
    (case z_x_k_sh => k_is)
    (case z_x_s_sh => k_is)
    (case z_x_t_sh => k_is)
    (case z_x_g_oc => k_is)
    (case z_x_x_oc => k_exc)
    (case z_x_k_oc => k_is)
    (case z_x_s_oc => k_is)
    (case z_x_t_oc => k_is)
    (case z_x_b_int => k_is)
    (case z_x_b_reversed => k_is)
    (case z_x_b_range => k_is)
    (case z_x_b_isinstance => k_is)
    (case z_x_b_bool => k_is)
    (case z_x_b_all => k_is)
    (case z_x_b_min => k_is)
    (case z_x_g_le => k_is)
    (case z_x_b_sum => k_is)
    (case z_x_pg => k_is)
    (case z_x_hd => k_is)
    (case z_x_po => k_is)
    (case z_x_sa => k_is)
    (case z_x_n_high => k_is)
    (case z_x_n_sides => k_is)
    (case z_x_n_places => k_is)
    (case z_x_n_done => k_is)
    (case z_x_n_taken => k_is)
    (case z_x_n_given => k_is)
    (case z_x_mk => k_is)
    (case z_x_kc => k_is)
    (case z_a0 => k_is)
    (case z_l0 => k_is)
    (case z_c0 => k_is)
    (case z_k0 => k_is)
    (case z_a1 => k_is)
    (case z_i1 => k_is)
    (case z_l1 => k_is)
    (case z_c1 => k_is)
    (case z_k1 => k_is)
    (case z_a2 => k_is)
    (case z_i2 => k_is)
    (case z_l2 => k_is)
    (case z_c2 => k_is)
    (case z_k2 => k_is)
    (case z_a3 => k_is)
    (case z_i3 => k_is)
    (case z_l3 => k_is)
    (case z_c3 => k_is)
    (case z_k3 => k_is)
    (case z_a4 => k_is)
    (case z_i4 => k_is)
    (case z_l4 => k_is)
    (case z_c4 => k_is)
    (case z_k4 => k_is)
    (case z_a5 => k_is)
    (case z_i5 => k_is)
    (case z_l5 => k_is)
    (case z_c5 => k_is)
    (case z_k5 => k_is)
    (case z_a6 => k_is)
    (case z_i6 => k_is)
    (case z_l6 => k_is)
    (case z_c6 => k_is)
    (case z_k6 => k_is)
    (case z_a7 => k_is)
    (case z_i7 => k_is)
    (case z_l7 => k_is)
    (case z_c7 => k_is)
    (case z_k7 => k_is)
    (case z_a8 => k_is)
    (case z_i8 => k_is)
    (case z_l8 => k_is)
    (case z_c8 => k_is)
    (case z_k8 => k_is)
    (case z_a9 => k_is)
    (case z_i9 => k_is)
    (case z_l9 => k_is)
    (case z_c9 => k_is)
    (case z_k9 => k_is)
    (case z_a10 => k_is)
    (case z_i10 => k_is)
    (case z_l10 => k_is)
    (case z_c10 => k_is)
    (case z_k10 => k_is)
    (case z_a11 => k_is)
    (case z_i11 => k_is)
    (case z_l11 => k_is)
    (case z_c11 => k_is)
    (case z_k11 => k_is)
    (case z_a12 => k_is)
    (case z_i12 => k_is)
    (case z_l12 => k_is)
    (case z_c12 => k_is)
    (case z_k12 => k_is)
    (case z_a13 => k_is)
    (case z_i13 => k_is)
    (case z_l13 => k_is)
    (case z_c13 => k_is)
    (case z_k13 => k_is)
    (case z_a14 => k_is)
    (case z_l14 => k_is)
    (case z_c14 => k_is)
    (case z_k14 => k_is)
    (case z_a15 => k_is)
    (case z_l15 => k_is)
    (case z_c15 => k_is)
    (case z_k15 => k_is)
    (case z_a16 => k_is)
    (case z_l16 => k_is)
    (case z_c16 => k_is)
    (case z_k16 => k_is)
    (case z_a17 => k_is)
    (case z_l17 => k_is)
    (case z_c17 => k_is)
    (case z_k17 => k_is)
    (case z_a18 => k_is)
    (case z_l18 => k_is)
    (case z_c18 => k_is)
    (case z_k18 => k_is)
    (case z_a19 => k_is)
    (case z_l19 => k_is)
    (case z_c19 => k_is)
    (case z_k19 => k_is)
    (case z_a20 => k_is)
    (case z_l20 => k_is)
    (case z_c20 => k_is)
    (case z_k20 => k_is)
    (case z_a21 => k_is)
    (case z_l21 => k_is)
    (case z_c21 => k_is)
    (case z_k21 => k_is)
    (case z_a22 => k_is)
    (case z_l22 => k_is)
    (case z_c22 => k_is)
    (case z_k22 => k_is)
    (case z_a23 => k_is)
    (case z_l23 => k_is)
    (case z_c23 => k_is)
    (case z_k23 => k_is)
    (case z_a24 => k_is)
    (case z_l24 => k_is)
    (case z_c24 => k_is)
    (case z_k24 => k_is)
    (case z_a25 => k_is)
    (case z_l25 => k_is)
    (case z_c25 => k_is)
    (case z_k25 => k_is)
    (case z_a26 => k_is)
    (case z_l26 => k_is)
    (case z_c26 => k_is)
    (case z_k26 => k_is)
    (case z_a27 => k_is)
    (case z_l27 => k_is)
    (case z_c27 => k_is)
    (case z_k27 => k_is)
    (case z_a28 => k_is)
    (case z_l28 => k_is)
    (case z_c28 => k_is)
    (case z_k28 => k_is)
    (case z_a29 => k_is)
    (case z_l29 => k_is)
    (case z_c29 => k_is)
    (case z_k29 => k_is)
    (case z_a30 => k_is)
    (case z_l30 => k_is)
    (case z_c30 => k_is)
    (case z_k30 => k_is)
    (case z_a31 => k_is)
    (case z_l31 => k_is)
    (case z_c31 => k_is)
    (case z_k31 => k_is)
    (case z_a32 => k_is)
    (case z_l32 => k_is)
    (case z_c32 => k_is)
    (case z_k32 => k_is)
    (case z_a33 => k_is)
    (case z_l33 => k_is)
    (case z_c33 => k_is)
    (case z_k33 => k_is)
    (case z_a34 => k_is)
    (case z_l34 => k_is)
    (case z_c34 => k_is)
    (case z_k34 => k_is)
    (case z_a35 => k_is)
    (case z_l35 => k_is)
    (case z_c35 => k_is)
    (case z_k35 => k_is)
    (case z_a36 => k_is)
    (case z_l36 => k_is)
    (case z_c36 => k_is)
    (case z_k36 => k_is)
    (case z_a37 => k_is)
    (case z_l37 => k_is)
    (case z_c37 => k_is)
    (case z_k37 => k_is)
    (case z_a38 => k_is)
    (case z_l38 => k_is)
    (case z_c38 => k_is)
    (case z_k38 => k_is)
    (case z_a39 => k_is)
    (case z_l39 => k_is)
    (case z_c39 => k_is)
    (case z_k39 => k_is)
