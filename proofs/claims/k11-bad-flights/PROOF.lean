import PyProof.Rows.All
import Wide.All
import OpenK.AllK
import Wide.FinOn
import PyProof.EqAt
import PyProof.EqKinds
import PyProof.TupleCall
import KE.DataEq
import HandS.ForMost
import HandS.ForExc
import HandS.SortInts
import HandS.Conv
import HandS.RevRange
import HandS.IsInst
import HandS.TryMany
import HandS.ExcIs
import HandS.Zip
import KE.DataFind
import PySem.Challenge.RW_lockflight_k11_bad_flights
set_option Elab.async false
set_option linter.all false
set_option autoImplicit false
set_option maxRecDepth 100000
set_option maxHeartbeats 4000000
/-! The value layer: deep data D over the abstract heap, owned objects R, a state (G, H, R). -/
namespace Fl
open PySem PySem.Spec PyProof.Rows L2

theorem lim_le {n : Nat} (h : n ≤ 50000) : n ≤ sizeLine := Nat.le_trans h (by decide)
theorem lim_lt {n : Nat} (h : n ≤ 50000) : n < sizeLine := Nat.lt_of_le_of_lt h (by decide)

/-! ### heaps that grow -/
def Gx (H H' : Hp) : Prop := ∀ a o, H a = some o → H' a = some o
theorem Gx.refl (H : Hp) : Gx H H := fun _ _ h => h
theorem Gx.trans {H H1 H2 : Hp} (a : Gx H H1) (b : Gx H1 H2) : Gx H H2 := fun x o h => b x o (a x o h)
theorem Gx.free {H H' : Hp} (e : Gx H H') {a : Addr} (h : H' a = none) : H a = none := by
  cases q : H a with
  | none => rfl
  | some o => rw [e a o q] at h; cases h
theorem Gx.new {H : Hp} {p : Addr} {o : HO} (h : H p = none) : Gx H (upd H p o) := fun a u e => by
  rw [upd_ne (ne_of_none e h)]; exact e

/-! ### data -/
mutual
/-- the value v is the datum x, by the objects of G alone -/
inductive Hv (G : Hp) : V → PyData → Prop
  | non : Hv G .non .none
  | bl (b : Bool) : Hv G (.bl b) (.bool b)
  | int (i : Int) : Hv G (.int i) (.int i)
  | str (x : Str) : Hv G (.str x) (.str x)
  | lst {a : Addr} {xs : List V} {ds : List PyData} : G a = some (.lst xs) → xs.length ≤ 50000 → Hvs G xs ds → Hv G (.ref a) (.list ds)
  | tup {a : Addr} {xs : List V} {ds : List PyData} : G a = some (.tup xs) → xs.length ≤ 50000 → Hvs G xs ds → Hv G (.ref a) (.tuple ds)
inductive Hvs (G : Hp) : List V → List PyData → Prop
  | nil : Hvs G [] []
  | cons {v : V} {vs : List V} {d : PyData} {ds : List PyData} : Hv G v d → Hvs G vs ds → Hvs G (v :: vs) (d :: ds)
end
mutual
theorem Hv.mono {G G' : Hp} (e : Gx G G') : ∀ (d : PyData) {v : V}, Hv G v d → Hv G' v d
  | .none, _, h => by cases h; exact .non
  | .bool b, _, h => by cases h; exact .bl b
  | .int i, _, h => by cases h; exact .int i
  | .str x, _, h => by cases h; exact .str x
  | .list ds, _, h => by
    cases h with
    | lst h1 h2 h3 => exact .lst (e _ _ h1) h2 (Hvs.mono e ds h3)
  | .tuple ds, _, h => by
    cases h with
    | tup h1 h2 h3 => exact .tup (e _ _ h1) h2 (Hvs.mono e ds h3)
  | .dict _, _, h => by cases h
theorem Hvs.mono {G G' : Hp} (e : Gx G G') : ∀ (ds : List PyData) {vs : List V}, Hvs G vs ds → Hvs G' vs ds
  | [], _, h => by cases h; exact .nil
  | d :: ds, _, h => by
    cases h with
    | cons h1 h2 => exact .cons (Hv.mono e d h1) (Hvs.mono e ds h2)
end
mutual
theorem Hv.dp {K : PySem.W.Frag} {G : Hp} : ∀ (d : PyData) {v : V}, Hv G v d → Dp K G v d
  | .none, _, h => by cases h; exact .non
  | .bool b, _, h => by cases h; exact .bl b
  | .int i, _, h => by cases h; exact .int i
  | .str x, _, h => by cases h; exact .str x
  | .list ds, _, h => by
    cases h with
    | lst h1 h2 h3 => exact .lst (SqL.of h1) (Hvs.dp ds h3)
  | .tuple ds, _, h => by
    cases h with
    | tup h1 h2 h3 => exact .tup (SqT.of h1) (Hvs.dp ds h3)
  | .dict _, _, h => by cases h
theorem Hvs.dp {K : PySem.W.Frag} {G : Hp} : ∀ (ds : List PyData) {vs : List V}, Hvs G vs ds → DpAll K G vs ds
  | [], _, h => by cases h; exact .nil
  | d :: ds, _, h => by
    cases h with
    | cons h1 h2 => exact .cons (Hv.dp d h1) (Hvs.dp ds h2)
end
mutual
theorem Hv.plain {G : Hp} : ∀ (d : PyData) {v : V}, Hv G v d → d.plain = true
  | .none, _, _ => rfl
  | .bool b, _, _ => rfl
  | .int i, _, _ => rfl
  | .str x, _, _ => rfl
  | .list ds, _, h => by
    cases h with
    | lst h1 h2 h3 => exact Hvs.plain ds h3
  | .tuple ds, _, h => by
    cases h with
    | tup h1 h2 h3 => exact Hvs.plain ds h3
  | .dict _, _, h => by cases h
theorem Hvs.plain {G : Hp} : ∀ (ds : List PyData) {vs : List V}, Hvs G vs ds → PyData.plainAll ds = true
  | [], _, _ => rfl
  | d :: ds, _, h => by
    cases h with
    | cons h1 h2 =>
      show (d.plain && PyData.plainAll ds) = true
      rw [Hv.plain d h1, Hvs.plain ds h2]; rfl
end
theorem Hvs.len {G : Hp} : ∀ {ds : List PyData} {vs : List V}, Hvs G vs ds → vs.length = ds.length
  | [], _, h => by cases h; rfl
  | d :: ds, _, h => by
    cases h with
    | cons h1 h2 => simp [Hvs.len h2]
theorem Hvs.get {G : Hp} : ∀ {ds : List PyData} {vs : List V} {i : Nat} {v : V}, Hvs G vs ds → vs[i]? = some v → ∃ d, ds[i]? = some d ∧ Hv G v d
  | [], _, i, v, h, e => by cases h; simp at e
  | d :: ds, _, 0, v, h, e => by
    cases h with
    | cons h1 h2 => simp at e; subst e; exact ⟨d, rfl, h1⟩
  | d :: ds, _, i + 1, v, h, e => by
    cases h with
    | cons h1 h2 =>
      obtain ⟨d', q1, q2⟩ := Hvs.get (i := i) h2 (by simpa using e)
      exact ⟨d', by simpa using q1, q2⟩
theorem Hvs.getd {G : Hp} : ∀ {ds : List PyData} {vs : List V} {i : Nat} {d : PyData}, Hvs G vs ds → ds[i]? = some d → ∃ v, vs[i]? = some v ∧ Hv G v d
  | [], _, i, v, h, e => by simp at e
  | d :: ds, _, 0, v, h, e => by
    cases h with
    | cons h1 h2 => simp at e; subst e; exact ⟨_, rfl, h1⟩
  | d :: ds, _, i + 1, v, h, e => by
    cases h with
    | cons h1 h2 =>
      obtain ⟨d', q1, q2⟩ := Hvs.getd (i := i) h2 (by simpa using e)
      exact ⟨d', by simpa using q1, q2⟩
theorem Hvs.app {G : Hp} : ∀ {ds es : List PyData} {vs ws : List V}, Hvs G vs ds → Hvs G ws es → Hvs G (vs ++ ws) (ds ++ es)
  | [], _, _, _, h, k => by cases h; exact k
  | d :: ds, _, _, _, h, k => by
    cases h with
    | cons h1 h2 => exact .cons h1 (Hvs.app h2 k)
theorem Hvs.set {G : Hp} {x : PyData} {w : V} (q : Hv G w x) : ∀ {ds : List PyData} {vs : List V} (i : Nat), Hvs G vs ds → Hvs G (vs.set i w) (ds.set i x)
  | [], _, i, h => by cases h; exact .nil
  | d :: ds, _, 0, h => by
    cases h with
    | cons h1 h2 => exact .cons q h2
  | d :: ds, _, i + 1, h => by
    cases h with
    | cons h1 h2 => exact .cons h1 (Hvs.set q i h2)
theorem Hvs.drop {G : Hp} : ∀ {ds : List PyData} {vs : List V} (i : Nat), Hvs G vs ds → Hvs G (vs.drop i) (ds.drop i)
  | _, _, 0, h => h
  | [], _, i + 1, h => by cases h; exact .nil
  | d :: ds, _, i + 1, h => by
    cases h with
    | cons h1 h2 => exact Hvs.drop i h2
theorem Hvs.take {G : Hp} : ∀ {ds : List PyData} {vs : List V} (i : Nat), Hvs G vs ds → Hvs G (vs.take i) (ds.take i)
  | _, _, 0, h => .nil
  | [], _, i + 1, h => by cases h; exact .nil
  | d :: ds, _, i + 1, h => by
    cases h with
    | cons h1 h2 => exact .cons h1 (Hvs.take i h2)
theorem Hvs.rev {G : Hp} : ∀ {ds : List PyData} {vs : List V}, Hvs G vs ds → Hvs G vs.reverse ds.reverse
  | [], _, h => by cases h; exact .nil
  | d :: ds, _, h => by
    cases h with
    | cons h1 h2 =>
      rw [List.reverse_cons, List.reverse_cons]
      exact Hvs.app (Hvs.rev h2) (.cons h1 .nil)
/-- lists of one kind of scalars -/
theorem Hvs.bls {G : Hp} : ∀ {bs : List Bool} {vs : List V}, Hvs G vs (bs.map .bool) → vs = bs.map V.bl
  | [], _, h => by cases h; rfl
  | b :: bs, _, h => by
    cases h with
    | cons h1 h2 => cases h1; rw [Hvs.bls h2]; rfl
theorem Hvs.ints {G : Hp} : ∀ {bs : List Int} {vs : List V}, Hvs G vs (bs.map .int) → vs = bs.map V.int
  | [], _, h => by cases h; rfl
  | b :: bs, _, h => by
    cases h with
    | cons h1 h2 => cases h1; rw [Hvs.ints h2]; rfl
theorem Hvs.strs {G : Hp} : ∀ {bs : List Str} {vs : List V}, Hvs G vs (bs.map .str) → vs = bs.map V.str
  | [], _, h => by cases h; rfl
  | b :: bs, _, h => by
    cases h with
    | cons h1 h2 => cases h1; rw [Hvs.strs h2]; rfl
theorem hvs_ints {G : Hp} : ∀ (bs : List Int), Hvs G (bs.map V.int) (bs.map .int)
  | [] => .nil
  | b :: bs => .cons (.int b) (hvs_ints bs)
theorem hvs_bls {G : Hp} : ∀ (bs : List Bool), Hvs G (bs.map V.bl) (bs.map .bool)
  | [] => .nil
  | b :: bs => .cons (.bl b) (hvs_bls bs)
theorem hvs_strs {G : Hp} : ∀ (bs : List Str), Hvs G (bs.map V.str) (bs.map .str)
  | [] => .nil
  | b :: bs => .cons (.str b) (hvs_strs bs)

/-! ### what a slot holds: a datum, an owned object's address, the script -/
inductive D where
  | d (x : PyData)
  | r (a : Addr)
  | s (ns : List Int)
def HD (K : PySem.W.Frag) (G : Hp) (v : V) : D → Prop
  | .d x => Hv G v x
  | .r a => v = .ref a
  | .s ns => ∃ a, v = .ref a ∧ SqL K G a (ns.map V.int)
theorem gx_sql {K : PySem.W.Frag} {G G' : Hp} {a : Addr} {xs : List V} (e : Gx G G') (h : SqL K G a xs) : SqL K G' a xs := by
  rcases h with (h | ⟨o, h⟩) | h
  · exact .inl (.inl (e _ _ h))
  · exact .inl (.inr ⟨o, e _ _ h⟩)
  · exact .inr h
theorem HD.mono {K : PySem.W.Frag} {G G' : Hp} (e : Gx G G') : ∀ {d : D} {v : V}, HD K G v d → HD K G' v d
  | .d x, _, h => Hv.mono e x h
  | .r a, _, h => h
  | .s ns, _, ⟨a, h1, h2⟩ => ⟨a, h1, gx_sql e h2⟩
/-- an owned object -/
inductive RO where
  | lst (ds : List PyData)
  | lsr (as : List Addr)
  | ins (C : Addr) (fs : List (Str × D))
  | dic (kvs : List (Key × D))
  | dit (kvs : List (List Key × Int))
inductive Fvs (K : PySem.W.Frag) (G : Hp) {κ : Type} : List (κ × V) → List (κ × D) → Prop
  | nil : Fvs K G [] []
  | cons {k : κ} {v : V} {d : D} {vs : List (κ × V)} {ds : List (κ × D)} : HD K G v d → Fvs K G vs ds → Fvs K G ((k, v) :: vs) ((k, d) :: ds)
theorem Fvs.mono {K : PySem.W.Frag} {G G' : Hp} {κ : Type} (e : Gx G G') : ∀ {vs : List (κ × V)} {ds : List (κ × D)}, Fvs K G vs ds → Fvs K G' vs ds
  | _, _, .nil => .nil
  | _, _, .cons h t => .cons (h.mono e) (Fvs.mono e t)
theorem Fvs.len {K : PySem.W.Frag} {G : Hp} {κ : Type} : ∀ {vs : List (κ × V)} {ds : List (κ × D)}, Fvs K G vs ds → vs.length = ds.length
  | _, _, .nil => rfl
  | _, _, .cons h t => by simp [Fvs.len t]
theorem Fvs.keys {K : PySem.W.Frag} {G : Hp} {κ : Type} : ∀ {vs : List (κ × V)} {ds : List (κ × D)}, Fvs K G vs ds → vs.map (·.1) = ds.map (·.1)
  | _, _, .nil => rfl
  | _, _, .cons h t => by simp [Fvs.keys t]
def Own1 (K : PySem.W.Frag) (G H : Hp) (a : Addr) : RO → Prop
  | .lst ds => ∃ vs, H a = some (.lst vs) ∧ vs.length ≤ 50000 ∧ Hvs G vs ds
  | .lsr as => H a = some (.lst (as.map .ref)) ∧ as.length ≤ 50000
  | .ins C fs => ∃ dx vs, H a = some (.ins C dx vs) ∧ Fvs K G vs fs
  | .dic kvs => ∃ vs, H a = some (.dK vs) ∧ vs.length ≤ 50000 ∧ Fvs K G vs kvs
  | .dit kvs => H a = some (.dT (kvs.map fun p => (p.1, V.int p.2))) ∧ kvs.length ≤ 50000
theorem Own1.there {K : PySem.W.Frag} {G H : Hp} {a : Addr} : ∀ {o : RO}, Own1 K G H a o → ∃ u, H a = some u
  | .lst _, ⟨_, h, _⟩ => ⟨_, h⟩
  | .lsr _, h => ⟨_, h.1⟩
  | .ins _ _, ⟨_, _, h, _⟩ => ⟨_, h⟩
  | .dic _, ⟨_, h, _⟩ => ⟨_, h⟩
  | .dit _, h => ⟨_, h.1⟩
theorem Own1.mono {K : PySem.W.Frag} {G G' H H' : Hp} {a : Addr} (e : Gx G G') (k : ∀ o, H a = some o → H' a = some o) : ∀ {o : RO}, Own1 K G H a o → Own1 K G' H' a o
  | .lst ds, ⟨vs, h, hl, q⟩ => ⟨vs, k _ h, hl, Hvs.mono e ds q⟩
  | .lsr _, h => ⟨k _ h.1, h.2⟩
  | .ins _ _, ⟨dx, vs, h, q⟩ => ⟨dx, vs, k _ h, q.mono e⟩
  | .dic _, ⟨vs, h, hl, q⟩ => ⟨vs, k _ h, hl, q.mono e⟩
  | .dit _, h => ⟨k _ h.1, h.2⟩

/-! ### states -/
abbrev Res := List (Addr × RO)
abbrev adr (R : Res) : List Addr := R.map (·.1)
structure Ok (K : PySem.W.Frag) (G H : Hp) (R : Res) : Prop where
  ex : Gx G H
  own : ∀ p ∈ R, G p.1 = none ∧ Own1 K G H p.1 p.2
  nd : (adr R).Nodup
structure Le (G H : Hp) (R : Res) (G' H' : Hp) (R' : Res) : Prop where
  g : Gx G G'
  h : ∀ a o, H a = some o → a ∉ adr R → H' a = some o
  n : ∀ a, G' a ≠ none → G a ≠ none ∨ H a = none ∨ a ∈ adr R
  r : ∀ a ∈ adr R', a ∈ adr R ∨ H a = none
  dm : ∀ a, H a ≠ none → H' a ≠ none
section
variable {K : PySem.W.Frag} {G H G' H' G'' H'' : Hp} {R R' R'' : Res}
theorem Le.refl : Le G H R G H R := ⟨Gx.refl G, fun _ _ h _ => h, fun _ h => .inl h, fun _ h => .inl h, fun _ h => h⟩
theorem Le.trans (a : Le G H R G' H' R') (b : Le G' H' R' G'' H'' R'') : Le G H R G'' H'' R'' where
  g := a.g.trans b.g
  h := fun x o e n => b.h x o (a.h x o e n) fun m => by
    rcases a.r x m with z | z
    · exact n z
    · rw [e] at z; cases z
  n := fun x e => by
    rcases b.n x e with z | z | z
    · exact a.n x z
    · refine .inr (.inl ?_)
      cases q : H x with
      | none => rfl
      | some o => exact absurd z (a.dm x (by rw [q]; simp))
    · rcases a.r x z with z | z
      · exact .inr (.inr z)
      · exact .inr (.inl z)
  r := fun x m => by
    rcases b.r x m with z | z
    · exact a.r x z
    · refine .inr ?_
      cases q : H x with
      | none => rfl
      | some o => exact absurd z (a.dm x (by rw [q]; simp))
  dm := fun x e => b.dm x (a.dm x e)
theorem Ok.there (ok : Ok K G H R) {a : Addr} (m : a ∈ adr R) : ∃ u, H a = some u := by
  obtain ⟨p, hp, rfl⟩ := List.mem_map.mp m
  exact Own1.there (ok.own p hp).2
/-- a new object is laid: visible -/
theorem Ok.seen {p : Addr} {o : HO} (ok : Ok K G H R) (n : H p = none) : Ok K (upd G p o) (upd H p o) R ∧ Le G H R (upd G p o) (upd H p o) R := by
  have ng : G p = none := ok.ex.free n
  have np : ∀ a, a ∈ adr R → a ≠ p := fun a m z => by
    obtain ⟨u, e⟩ := ok.there m
    rw [z, n] at e; cases e
  refine ⟨⟨fun a u e => ?_, fun q hq => ?_, ok.nd⟩, ⟨Gx.new ng, fun a u e _ => Gx.new n a u e, fun a e => ?_, fun a m => .inl m, fun a e => ?_⟩⟩
  · by_cases z : a = p
    · subst z; rw [upd_same] at e ⊢; exact e
    · rw [upd_ne z] at e ⊢; exact ok.ex a u e
  · have z := np q.1 (List.mem_map.mpr ⟨q, hq, rfl⟩)
    obtain ⟨h1, h2⟩ := ok.own q hq
    exact ⟨by rw [upd_ne z]; exact h1, Own1.mono (Gx.new ng) (fun u e => Gx.new n _ u e) h2⟩
  · by_cases z : a = p
    · subst z; exact .inr (.inl n)
    · rw [upd_ne z] at e; exact .inl e
  · by_cases z : a = p
    · subst z; rw [upd_same]; simp
    · rw [upd_ne z]; exact e
/-- a new object is laid: owned -/
theorem Ok.laid {p : Addr} {o : HO} {q : RO} (ok : Ok K G H R) (n : H p = none) (w : Own1 K G (upd H p o) p q) : Ok K G (upd H p o) ((p, q) :: R) ∧ Le G H R G (upd H p o) ((p, q) :: R) := by
  have ng : G p = none := ok.ex.free n
  have np : ∀ a, a ∈ adr R → a ≠ p := fun a m z => by
    obtain ⟨u, e⟩ := ok.there m
    rw [z, n] at e; cases e
  refine ⟨⟨fun a u e => Gx.new n a u (ok.ex a u e), fun y hy => ?_, ?_⟩, ⟨Gx.refl G, fun a u e _ => Gx.new n a u e, fun a e => .inl e, fun a m => ?_, fun a e => ?_⟩⟩
  · rcases List.mem_cons.mp hy with e | hy
    · subst e; exact ⟨ng, w⟩
    · obtain ⟨h1, h2⟩ := ok.own y hy
      exact ⟨h1, Own1.mono (Gx.refl G) (fun u e => Gx.new n _ u e) h2⟩
  · show (p :: adr R).Nodup
    exact List.nodup_cons.mpr ⟨fun m => np p m rfl, ok.nd⟩
  · rcases List.mem_cons.mp m with e | m
    · subst e; exact .inr n
    · exact .inl m
  · by_cases z : a = p
    · subst z; rw [upd_same]; simp
    · rw [upd_ne z]; exact e
/-- an untracked object of the heap (an instance's own dict) -/
theorem Ok.aside {p : Addr} {o : HO} (ok : Ok K G H R) (n : H p = none) : Ok K G (upd H p o) R ∧ Le G H R G (upd H p o) R := by
  refine ⟨⟨fun a u e => Gx.new n a u (ok.ex a u e), fun y hy => ?_, ok.nd⟩, ⟨Gx.refl G, fun a u e _ => Gx.new n a u e, fun a e => .inl e, fun a m => .inl m, fun a e => ?_⟩⟩
  · obtain ⟨h1, h2⟩ := ok.own y hy
    exact ⟨h1, Own1.mono (Gx.refl G) (fun u e => Gx.new n _ u e) h2⟩
  · by_cases z : a = p
    · subst z; rw [upd_same]; simp
    · rw [upd_ne z]; exact e
theorem nd_set {R : Res} {i : Nat} {a : Addr} {o q : RO} (h : R[i]? = some (a, o)) : adr (R.set i (a, q)) = adr R := by
  show (R.set i (a, q)).map (·.1) = R.map (·.1)
  rw [List.map_set]
  obtain ⟨hi, e⟩ := List.getElem?_eq_some_iff.mp h
  apply List.ext_getElem?
  intro j
  by_cases z : i = j
  · subst z
    rw [List.getElem?_set_self (by simpa using hi), List.getElem?_map, h]
    rfl
  · rw [List.getElem?_set_ne z]
theorem mem_set_ne {R : Res} {i : Nat} {a : Addr} {o q : RO} (nd : (adr R).Nodup) (h : R[i]? = some (a, o)) {y : Addr × RO} (hy : y ∈ R.set i (a, q)) : y = (a, q) ∨ (y ∈ R ∧ y.1 ≠ a) := by
  obtain ⟨j, hj⟩ := List.getElem?_of_mem hy
  by_cases z : i = j
  · subst z
    obtain ⟨hi, _⟩ := List.getElem?_eq_some_iff.mp h
    rw [List.getElem?_set_self hi] at hj
    exact .inl (Option.some.inj hj).symm
  · rw [List.getElem?_set_ne z] at hj
    refine .inr ⟨List.mem_of_getElem? hj, fun e => z ?_⟩
    have h1 : (adr R)[i]? = some a := by show (R.map (·.1))[i]? = some a; rw [List.getElem?_map, h]; rfl
    have h2 : (adr R)[j]? = some a := by show (R.map (·.1))[j]? = some a; rw [List.getElem?_map, hj]; simp [e]
    exact nd_ix nd h1 h2
/-- an owned object is written -/
theorem Ok.write {i : Nat} {a : Addr} {o : HO} {p q : RO} (ok : Ok K G H R) (h : R[i]? = some (a, p)) (w : Own1 K G (upd H a o) a q) : Ok K G (upd H a o) (R.set i (a, q)) ∧ Le G H R G (upd H a o) (R.set i (a, q)) := by
  have m : (a, p) ∈ R := List.mem_of_getElem? h
  have ng := (ok.own _ m).1
  refine ⟨⟨fun b u e => ?_, fun y hy => ?_, ?_⟩, ⟨Gx.refl G, fun b u e n => ?_, fun b e => .inl e, fun b z => ?_, fun b e => ?_⟩⟩
  · rw [upd_ne (ne_of_none e ng)]; exact ok.ex b u e
  · rcases mem_set_ne ok.nd h hy with e | ⟨e, z⟩
    · subst e; exact ⟨ng, w⟩
    · obtain ⟨h1, h2⟩ := ok.own y e
      exact ⟨h1, Own1.mono (Gx.refl G) (fun u e => by rw [upd_ne z]; exact e) h2⟩
  · rw [nd_set h]; exact ok.nd
  · rw [upd_ne (fun z => n (by subst z; exact List.mem_map.mpr ⟨_, m, rfl⟩))]; exact e
  · rw [nd_set h] at z; exact .inl z
  · by_cases z : b = a
    · subst z; rw [upd_same]; simp
    · rw [upd_ne z]; exact e
theorem Ok.at (ok : Ok K G H R) {i : Nat} {a : Addr} {p : RO} (h : R[i]? = some (a, p)) : Own1 K G H a p := (ok.own _ (List.mem_of_getElem? h)).2
/-- an owned list is let go: from now on a datum -/
theorem Ok.freeze {a : Addr} {ds : List PyData} {G0 H0 : Hp} {R0 : Res} (ok : Ok K G H ((a, .lst ds) :: R)) (le : Le G0 H0 R0 G H ((a, .lst ds) :: R)) (n : a ∉ adr R0) :
    ∃ G', Ok K G' H R ∧ Le G0 H0 R0 G' H R ∧ Hv G' (.ref a) (.list ds) ∧ Gx G G' := by
  obtain ⟨ng, vs, e, hl, hv⟩ := ok.own _ List.mem_cons_self
  have nd : (a :: adr R).Nodup := ok.nd
  obtain ⟨nd1, nd2⟩ := List.nodup_cons.mp nd
  refine ⟨upd G a (.lst vs), ⟨fun b u q => ?_, fun y hy => ?_, nd2⟩, ⟨le.g.trans (Gx.new ng), le.h, fun b q => ?_, fun b m => le.r b (List.mem_cons_of_mem _ m), le.dm⟩, .lst upd_same hl (Hvs.mono (Gx.new ng) ds hv), Gx.new ng⟩
  · by_cases z : b = a
    · subst z; rw [upd_same] at q; cases q; exact e
    · rw [upd_ne z] at q; exact ok.ex b u q
  · obtain ⟨h1, h2⟩ := ok.own y (List.mem_cons_of_mem _ hy)
    have z : y.1 ≠ a := fun z => nd1 (z ▸ List.mem_map.mpr ⟨y, hy, rfl⟩)
    exact ⟨by rw [upd_ne z]; exact h1, Own1.mono (Gx.new ng) (fun _ q => q) h2⟩
  · by_cases z : b = a
    · subst z
      rcases le.r b List.mem_cons_self with q | q
      · exact absurd q n
      · exact .inr (.inl q)
    · rw [upd_ne z] at q; exact le.n b q
/-- the frame: a part of what is owned -/
theorem Ok.part {A B : Res} (ok : Ok K G H (A ++ R ++ B)) : Ok K G H R := by
  refine ⟨ok.ex, fun p hp => ok.own p (by simp [hp]), ?_⟩
  have q := ok.nd
  unfold adr at q
  rw [List.map_append, List.map_append] at q
  exact (List.nodup_append.mp (List.nodup_append.mp q).1).2.1
theorem Ok.whole {A B : Res} (ok : Ok K G H (A ++ R ++ B)) (ok' : Ok K G' H' R') (le : Le G H R G' H' R') : Ok K G' H' (A ++ R' ++ B) ∧ Le G H (A ++ R ++ B) G' H' (A ++ R' ++ B) := by
  have q := ok.nd
  unfold adr at q
  rw [List.map_append, List.map_append] at q
  obtain ⟨q1, qB, qd⟩ := List.nodup_append.mp q
  obtain ⟨qA, qR, qd1⟩ := List.nodup_append.mp q1
  have nA : ∀ p ∈ A, p.1 ∉ adr R := fun p hp m => qd1 p.1 (List.mem_map.mpr ⟨p, hp, rfl⟩) p.1 m rfl
  have nB : ∀ p ∈ B, p.1 ∉ adr R := fun p hp m => qd p.1 (List.mem_append.mpr (.inr m)) p.1 (List.mem_map.mpr ⟨p, hp, rfl⟩) rfl
  have there : ∀ p ∈ A ++ R ++ B, H p.1 ≠ none := fun p hp z => by
    obtain ⟨u, e⟩ := Own1.there (ok.own p hp).2
    rw [z] at e; cases e
  have keep : ∀ p, p ∈ A ++ R ++ B → p.1 ∉ adr R → G' p.1 = none ∧ Own1 K G' H' p.1 p.2 := fun p hp hn => by
    obtain ⟨h1, h2⟩ := ok.own p hp
    refine ⟨?_, Own1.mono le.g (fun o e => le.h _ o e hn) h2⟩
    cases z : G' p.1 with
    | none => rfl
    | some u =>
      rcases le.n p.1 (by rw [z]; simp) with w | w | w
      · exact absurd h1 w
      · exact absurd w (there p hp)
      · exact absurd w hn
  refine ⟨⟨ok'.ex, fun p hp => ?_, ?_⟩, ⟨le.g, fun a o e n => le.h a o e fun m => n (by simp only [adr, List.map_append, List.mem_append]; exact .inl (.inr m)), fun a e => (le.n a e).imp id (fun q => q.imp id fun m => by simp only [adr, List.map_append, List.mem_append]; exact .inl (.inr m)), fun a m => ?_, le.dm⟩⟩
  · rcases List.mem_append.mp hp with hp | hp
    · rcases List.mem_append.mp hp with hp | hp
      · exact keep p (by simp [hp]) (nA p hp)
      · exact ok'.own p hp
    · exact keep p (by simp [hp]) (nB p hp)
  · have out : ∀ p, p ∈ A ++ R ++ B → p.1 ∉ adr R → p.1 ∉ adr R' := fun p hp hn m => by
      rcases le.r p.1 m with z | z
      · exact hn z
      · exact there p hp z
    show ((A ++ R' ++ B).map (·.1)).Nodup
    rw [List.map_append, List.map_append]
    refine List.nodup_append.mpr ⟨List.nodup_append.mpr ⟨qA, ok'.nd, fun x hx y hy z => ?_⟩, qB, fun x hx y hy z => ?_⟩
    · obtain ⟨p, hp, rfl⟩ := List.mem_map.mp hx
      exact out p (by simp [hp]) (nA p hp) (z ▸ hy)
    · obtain ⟨p, hp, rfl⟩ := List.mem_map.mp hy
      rcases List.mem_append.mp hx with hx | hx
      · exact qd x (List.mem_append.mpr (.inl hx)) p.1 (List.mem_map.mpr ⟨p, hp, rfl⟩) z
      · exact out p (by simp [hp]) (nB p hp) (z ▸ hx)
  · simp only [adr, List.map_append, List.mem_append] at m ⊢
    rcases m with (m | m) | m
    · exact .inl (.inl (.inl m))
    · rcases le.r a m with z | z
      · exact .inl (.inl (.inr z))
      · exact .inr z
    · exact .inl (.inr m)
end

/-! ### slots -/
abbrev DEnv := List (Option D)
structure DE (K : PySem.W.Frag) (G : Hp) (σ : L2.St) (δ : DEnv) : Prop where
  len : σ.length = δ.length
  get : ∀ (i : Nat) (d : D), δ[i]? = some (some d) → ∃ v, σ[i]? = some (some v) ∧ HD K G v d
section
variable {K : PySem.W.Frag} {G G' : Hp} {σ : L2.St} {δ : DEnv}
theorem DE.mono (e : Gx G G') (h : DE K G σ δ) : DE K G' σ δ := ⟨h.len, fun i d q => let ⟨v, a, b⟩ := h.get i d q; ⟨v, a, b.mono e⟩⟩
theorem DE.set (h : DE K G σ δ) {i : Nat} {v : V} {d : D} (q : HD K G v d) : DE K G (σ.set i (some v)) (δ.set i (some d)) := by
  refine ⟨by rw [List.length_set, List.length_set]; exact h.len, fun j e hj => ?_⟩
  by_cases z : i = j
  · subst z
    by_cases hi : i < δ.length
    · rw [List.getElem?_set_self hi] at hj
      cases hj
      exact ⟨v, by rw [List.getElem?_set_self (by rw [h.len]; exact hi)], q⟩
    · rw [List.getElem?_eq_none (by simpa using hi)] at hj; cases hj
  · rw [List.getElem?_set_ne z] at hj ⊢
    exact h.get j e hj
theorem DE.unset (h : DE K G σ δ) {i : Nat} {o : Option V} : DE K G (σ.set i o) (δ.set i none) := by
  refine ⟨by rw [List.length_set, List.length_set]; exact h.len, fun j e hj => ?_⟩
  by_cases z : i = j
  · subst z
    by_cases hi : i < δ.length
    · rw [List.getElem?_set_self hi] at hj; cases hj
    · rw [List.getElem?_eq_none (by simpa using hi)] at hj; cases hj
  · rw [List.getElem?_set_ne z] at hj ⊢
    exact h.get j e hj
def wipeD (δ : DEnv) : List Nat → DEnv
  | [] => δ
  | v :: vs => (wipeD δ vs).set v none
theorem DE.wipe (h : DE K G σ δ) : ∀ (vs : List Nat), DE K G (L2.wipe σ vs) (wipeD δ vs)
  | [] => h
  | v :: vs => (DE.wipe h vs).unset
theorem wipe_set {σ : L2.St} {j : Nat} {x : Option V} : ∀ {vs : List Nat}, j ∈ vs → L2.wipe ((L2.wipe σ vs).set j x) vs = L2.wipe σ vs := by
  have look : ∀ (vs : List Nat) (τ : L2.St) (i : Nat), (L2.wipe τ vs)[i]? = if i ∈ vs then (if i < τ.length then some none else none) else τ[i]? := by
    intro vs
    induction vs with
    | nil => intro τ i; simp [L2.wipe]
    | cons v vs ih =>
      intro τ i
      show ((L2.wipe τ vs).set v none)[i]? = _
      rw [List.getElem?_set]
      by_cases z : v = i
      · subst z
        simp [L2.wipe_length]
      · have z' : i ≠ v := fun e => z e.symm
        rw [if_neg z, ih]
        simp [z']
  intro vs hj
  apply List.ext_getElem?
  intro i
  rw [look, look]
  by_cases hi : i ∈ vs
  · rw [if_pos hi, if_pos hi]
    simp [L2.wipe_length]
  · rw [if_neg hi, if_neg hi]
    have z : j ≠ i := fun e => hi (e ▸ hj)
    rw [List.getElem?_set_ne z, look, if_neg hi]
theorem DE.weak {δ' : DEnv} (h : DE K G σ δ) (hl : δ'.length = δ.length) (w : ∀ (i : Nat) (d : D), δ'[i]? = some (some d) → δ[i]? = some (some d)) : DE K G σ δ' :=
  ⟨h.len.trans hl.symm, fun i d q => h.get i d (w i d q)⟩
end
end Fl
/-! What an expression is worth, by slots δ and owned objects R. -/
namespace Fl
open PySem PySem.Spec PyProof.Rows L2
section
variable (K : PySem.W.Frag)
/-- te is worth d, and what is owned stays -/
def Ev (δ : DEnv) (R : Res) (te : TE) (d : D) : Prop := ∀ (G H : Hp) (σ : L2.St) (Q : VK), Ok K G H R → DE K G σ δ → (∀ v G' H', Ok K G' H' R → Le G H R G' H' R → HD K G' v d → Q v H') → te σ H Q
/-- te is a new list of ds, nobody else's -/
def EvF (δ : DEnv) (R : Res) (te : TE) (ds : List PyData) : Prop := ∀ (G H : Hp) (σ : L2.St) (Q : VK), Ok K G H R → DE K G σ δ → (∀ a G' H', Ok K G' H' ((a, .lst ds) :: R) → Le G H R G' H' ((a, .lst ds) :: R) → Q (.ref a) H') → te σ H Q
def EvA (δ : DEnv) (R : Res) (ta : TA) (ds : List D) : Prop := ∀ (G H : Hp) (σ : L2.St) (Q : List V → Hp → Prop), Ok K G H R → DE K G σ δ → (∀ vs G' H', Ok K G' H' R → Le G H R G' H' R → (vs.length = ds.length ∧ ∀ (i : Nat) (v : V) (d : D), vs[i]? = some v → ds[i]? = some d → HD K G' v d) → Q vs H') → ta σ H Q
def EvX (δ : DEnv) (R : Res) (ta : TA) (xs : List PyData) : Prop := ∀ (G H : Hp) (σ : L2.St) (Q : List V → Hp → Prop), Ok K G H R → DE K G σ δ → (∀ vs G' H', Ok K G' H' R → Le G H R G' H' R → Hvs G' vs xs → Q vs H') → ta σ H Q
def EvT (δ : DEnv) (R : Res) (tt : TT) (b : Bool) : Prop := ∀ (G H : Hp) (σ : L2.St) (Q : Bool → Hp → Prop), Ok K G H R → DE K G σ δ → (∀ G' H', Ok K G' H' R → Le G H R G' H' R → Q b H') → tt σ H Q
def EvO (δ : DEnv) (R : Res) (to : TO) (o : Option Int) : Prop := ∀ (G H : Hp) (σ : L2.St) (Q : Option Int → Hp → Prop), Ok K G H R → DE K G σ δ → (∀ G' H', Ok K G' H' R → Le G H R G' H' R → Q o H') → to σ H Q
/-- an operator on two values; a call on values -/
def RV (R : Res) (r : R2) (x y z : D) : Prop := ∀ (G H : Hp) (v w : V) (Q : VK), Ok K G H R → HD K G v x → HD K G w y → (∀ u G' H', Ok K G' H' R → Le G H R G' H' R → HD K G' u z → Q u H') → r v w H Q
def RVF (R : Res) (r : R2) (x y : D) (ds : List PyData) : Prop := ∀ (G H : Hp) (v w : V) (Q : VK), Ok K G H R → HD K G v x → HD K G w y → (∀ a G' H', Ok K G' H' ((a, .lst ds) :: R) → Le G H R G' H' ((a, .lst ds) :: R) → Q (.ref a) H') → r v w H Q
end
section
variable {K : PySem.W.Frag} {G G' H H' : Hp} {R : Res} {δ : DEnv} {ta tb tc te : TE} {d x y z : D} {r : R2}
theorem Le.adr_ne {a : Addr} {q : RO} (ok : Ok K G' H' ((a, q) :: R)) (ok0 : Ok K G H R) : a ∉ adr R := (List.nodup_cons.mp (show (a :: adr R).Nodup from ok.nd)).1
theorem ev_frz {ds : List PyData} (h : EvF K δ R te ds) : Ev K δ R te (.d (.list ds)) := fun G H σ Q ok en k => h G H σ Q ok en fun a G' H' ok' le => by
  obtain ⟨G2, ok2, le2, hv, _⟩ := ok'.freeze le (Le.adr_ne ok' ok)
  exact k _ G2 H' ok2 le2 hv
theorem ev_var {i : Nat} (h : δ[i]? = some (some d)) : Ev K δ R (tVar i) d := fun G H σ Q ok en k => by
  obtain ⟨v, e, q⟩ := en.get i d h
  exact ⟨v, e, k v G H ok .refl q⟩
theorem ev_non : Ev K δ R (tC .non) (.d .none) := fun G H σ Q ok en k => k _ G H ok .refl (show Hv G _ _ from .non)
theorem ev_bl {b : Bool} : Ev K δ R (tC (.bl b)) (.d (.bool b)) := fun G H σ Q ok en k => k _ G H ok .refl (show Hv G _ _ from .bl b)
theorem ev_int {i : Int} : Ev K δ R (tC (.int i)) (.d (.int i)) := fun G H σ Q ok en k => k _ G H ok .refl (show Hv G _ _ from .int i)
theorem ev_str {s : Str} : Ev K δ R (tC (.str s)) (.d (.str s)) := fun G H σ Q ok en k => k _ G H ok .refl (show Hv G _ _ from .str s)
theorem ev_op (ha : Ev K δ R ta x) (hb : Ev K δ R tb y) (hr : RV K R r x y z) : Ev K δ R (tOp r ta tb) z := fun G H σ Q ok en k =>
  ha G H σ _ ok en fun v G1 H1 ok1 l1 h1 => hb G1 H1 σ _ ok1 (en.mono l1.g) fun w G2 H2 ok2 l2 h2 =>
    hr G2 H2 v w Q ok2 (h1.mono l2.g) h2 fun u G3 H3 ok3 l3 h3 => k u G3 H3 ok3 ((l1.trans l2).trans l3) h3
theorem evf_op {ds : List PyData} (ha : Ev K δ R ta x) (hb : Ev K δ R tb y) (hr : RVF K R r x y ds) : EvF K δ R (tOp r ta tb) ds := fun G H σ Q ok en k =>
  ha G H σ _ ok en fun v G1 H1 ok1 l1 h1 => hb G1 H1 σ _ ok1 (en.mono l1.g) fun w G2 H2 ok2 l2 h2 =>
    hr G2 H2 v w Q ok2 (h1.mono l2.g) h2 fun a G3 H3 ok3 l3 => k a G3 H3 ok3 ((l1.trans l2).trans l3)
theorem ev_is {d' : D} (h : Ev K δ R te d) (e : d = d') : Ev K δ R te d' := e ▸ h
theorem evf_is {ds es : List PyData} (h : EvF K δ R te ds) (e : ds = es) : EvF K δ R te es := e ▸ h

/-! ### views: what an owned list reads as -/
inductive Vw (R : Res) : D → PyData → Prop
  | d (x : PyData) : Vw R (.d x) x
  | own {i : Nat} {a : Addr} {ds : List PyData} (h : R[i]? = some (a, .lst ds)) : Vw R (.r a) (.list ds)
  | two {i j k : Nat} {a b c : Addr} {xs ys : List PyData} (h : R[i]? = some (c, .lsr [a, b])) (h1 : R[j]? = some (a, .lst xs)) (h2 : R[k]? = some (b, .lst ys)) : Vw R (.r c) (.list [.list xs, .list ys])
theorem Vw.hv {x : PyData} {v : V} (w : Vw R d x) (ok : Ok K G H R) (h : HD K G v d) : Hv H v x := by
  cases w with
  | d => exact Hv.mono ok.ex _ h
  | own e =>
    obtain ⟨vs, q1, q2, q3⟩ := ok.at e
    cases (show v = .ref _ from h)
    exact .lst q1 q2 (Hvs.mono ok.ex _ q3)
  | two e e1 e2 =>
    obtain ⟨p1, p2⟩ := ok.at e
    obtain ⟨vs, q1, q2, q3⟩ := ok.at e1
    obtain ⟨ws, r1, r2, r3⟩ := ok.at e2
    cases (show v = .ref _ from h)
    exact .lst p1 (by show 2 ≤ 50000; decide) (.cons (.lst q1 q2 (Hvs.mono ok.ex _ q3)) (.cons (.lst r1 r2 (Hvs.mono ok.ex _ r3)) .nil))
/-- a list, its items data of G -/
inductive Ls (R : Res) : D → List PyData → Prop
  | d (ds : List PyData) : Ls R (.d (.list ds)) ds
  | own {i : Nat} {a : Addr} {ds : List PyData} (h : R[i]? = some (a, .lst ds)) : Ls R (.r a) ds
theorem Ls.hv {ds : List PyData} {v : V} (w : Ls R d ds) (ok : Ok K G H R) (h : HD K G v d) : ∃ a vs, v = .ref a ∧ H a = some (.lst vs) ∧ vs.length ≤ 50000 ∧ Hvs G vs ds := by
  cases w with
  | d =>
    cases (show Hv G v (.list ds) from h) with
    | lst h1 h2 h3 => exact ⟨_, _, rfl, ok.ex _ _ h1, h2, h3⟩
  | own e =>
    obtain ⟨vs, q1, q2, q3⟩ := ok.at e
    cases (show v = .ref _ from h)
    exact ⟨_, _, rfl, q1, q2, q3⟩

/-! ### the operators -/
theorem rv_I0 {g : Int → Int → V} {i j : Int} {x : PyData} (h : ∀ G, Hv G (g i j) x) : RV K R (rI0 g) (.d (.int i)) (.d (.int j)) (.d x) := fun G H v w Q ok h1 h2 k => by
  cases (show Hv G v (.int i) from h1)
  cases (show Hv G w (.int j) from h2)
  exact ⟨i, j, rfl, rfl, k _ G H ok .refl (h G)⟩
theorem rv_I {C : Int → Int → Prop} {g : Int → Int → V} {i j : Int} {x : PyData} (hc : C i j) (h : ∀ G, Hv G (g i j) x) : RV K R (rI C g) (.d (.int i)) (.d (.int j)) (.d x) := fun G H v w Q ok h1 h2 k => by
  cases (show Hv G v (.int i) from h1)
  cases (show Hv G w (.int j) from h2)
  exact ⟨i, j, rfl, rfl, hc, k _ G H ok .refl (h G)⟩
/-- + of ints, texts, lists -/
def rPlus : R2 := fun x y H Q => rI0 (fun i j => .int (i + j)) x y H Q ∨ (∃ i j, x = .str i ∧ y = .str j ∧ i.length + j.length ≤ sizeLine ∧ Q (.str (i ++ j)) H) ∨ rCat x y H Q
theorem op_plus {X : Cx} : OpR X (binaryOp .Add) rPlus := fun pins s σ H x y u v Q I rx ry h => by
  rcases h with h | h | h
  · exact op_add pins s σ H x y u v Q I rx ry h
  · exact op_add_str pins s σ H x y u v Q I rx ry h
  · exact op_cat pins s σ H x y u v Q I rx ry h
theorem rv_plusI {i j : Int} : RV K R rPlus (.d (.int i)) (.d (.int j)) (.d (.int (i + j))) := fun G H v w Q ok h1 h2 k => .inl (rv_I0 (fun _ => .int _) G H v w Q ok h1 h2 k)
theorem rv_plusS {i j : Str} (hl : i.length + j.length ≤ 50000) : RV K R rPlus (.d (.str i)) (.d (.str j)) (.d (.str (i ++ j))) := fun G H v w Q ok h1 h2 k => by
  cases (show Hv G v (.str i) from h1)
  cases (show Hv G w (.str j) from h2)
  exact .inr (.inl ⟨i, j, rfl, rfl, lim_le hl, k _ G H ok .refl (show Hv G _ _ from .str _)⟩)
theorem rvf_plus {xs ys : List PyData} (hx : Ls R x xs) (hy : Ls R y ys) (hl : xs.length + ys.length ≤ 50000) : RVF K R rPlus x y (xs ++ ys) := fun G H v w Q ok h1 h2 k => by
  obtain ⟨a, vs, rfl, ea, la, ha⟩ := hx.hv ok h1
  obtain ⟨b, ws, rfl, eb, lb, hb⟩ := hy.hv ok h2
  have e1 := ha.len
  have e2 := hb.len
  refine .inr (.inr ⟨a, b, vs, ws, rfl, rfl, ea, eb, lim_le (by omega), fun p hp => ?_⟩)
  obtain ⟨ok', le⟩ := ok.laid (q := .lst (xs ++ ys)) hp ⟨_, upd_same, by rw [List.length_append]; omega, ha.app hb⟩
  exact k p _ _ ok' le
theorem rv_of_F {ds : List PyData} (h : RVF K R r x y ds) : RV K R r x y (.d (.list ds)) := fun G H v w Q ok h1 h2 k => h G H v w Q ok h1 h2 fun a G' H' ok' le => by
  obtain ⟨G2, ok2, le2, hv, _⟩ := ok'.freeze le (Le.adr_ne ok' ok)
  exact k _ G2 H' ok2 le2 hv
abbrev rMinus : R2 := rI0 fun i j => .int (i - j)
abbrev rTimes : R2 := rI CMul fun i j => .int (i * j)
abbrev rDiv : R2 := rI CDiv fun i j => .int (i / j)
abbrev rMod : R2 := rI (fun _ j => 0 < j) fun i j => .int (i % j)
abbrev rPow : R2 := rI CPow fun i j => .int (i ^ j.toNat)
abbrev rLt : R2 := rI0 fun i j => .bl (decide (i < j))
abbrev rLe : R2 := rI0 fun i j => .bl (decide (i ≤ j))
abbrev rGt : R2 := rI0 fun i j => .bl (decide (j < i))
abbrev rGe : R2 := rI0 fun i j => .bl (decide (j ≤ i))
/-- == and != of data -/
def rEqP (K : PySem.W.Frag) : R2 := fun x y H Q => ∃ d e, Dp K H x d ∧ Dp K H y e ∧ d.plain = true ∧ e.plain = true ∧ min d.depth e.depth ≤ 64 ∧ Q (.bl (PyData.eqv d e)) H
def rNeP (K : PySem.W.Frag) : R2 := fun x y H Q => ∃ d e, Dp K H x d ∧ Dp K H y e ∧ d.plain = true ∧ e.plain = true ∧ min d.depth e.depth ≤ 64 ∧ Q (.bl (!PyData.eqv d e)) H
theorem op_eqP {X : Cx} (hu : X.A.units + 64 < cLine) : OpR X (compareOp .Eq) (rEqP X.K) := by
  intro pins s σ H x y v u Q I rx ry h
  obtain ⟨d, e, hd, he, sd, se, hm, q⟩ := h
  obtain ⟨as, r1⟩ := Dp.reads I d x v hd rx
  obtain ⟨bs, r2⟩ := Dp.reads I e y u he ry
  exact SeqAt.eq_plain r1 r2 sd se (by omega) ⟨.bl _, H, I, rfl, q⟩
theorem op_neP {X : Cx} (hu : X.A.units + 64 < cLine) : OpR X (compareOp .NotEq) (rNeP X.K) := by
  intro pins s σ H x y v u Q I rx ry h
  obtain ⟨d, e, hd, he, sd, se, hm, q⟩ := h
  obtain ⟨as, r1⟩ := Dp.reads I d x v hd rx
  obtain ⟨bs, r2⟩ := Dp.reads I e y u he ry
  exact SeqAt.ne_plain r1 r2 sd se (by omega) ⟨.bl _, H, I, rfl, q⟩
theorem rv_eq {a b : PyData} (ha : Vw R x a) (hb : Vw R y b) (hm : min a.depth b.depth ≤ 64) : RV K R (rEqP K) x y (.d (.bool (PyData.eqv a b))) := fun G H v w Q ok h1 h2 k => by
  have q1 := ha.hv ok h1
  have q2 := hb.hv ok h2
  exact ⟨a, b, Hv.dp a q1, Hv.dp b q2, Hv.plain a q1, Hv.plain b q2, hm, k _ G H ok .refl (show Hv G _ _ from .bl _)⟩
theorem rv_ne {a b : PyData} (ha : Vw R x a) (hb : Vw R y b) (hm : min a.depth b.depth ≤ 64) : RV K R (rNeP K) x y (.d (.bool (!PyData.eqv a b))) := fun G H v w Q ok h1 h2 k => by
  have q1 := ha.hv ok h1
  have q2 := hb.hv ok h2
  exact ⟨a, b, Hv.dp a q1, Hv.dp b q2, Hv.plain a q1, Hv.plain b q2, hm, k _ G H ok .refl (show Hv G _ _ from .bl _)⟩
/-- in, not in: a list or a tuple -/
def rInP (K : PySem.W.Frag) (neg : Bool) : R2 := fun x y H Q => ∃ d es, Dp K H x d ∧ (Dp K H y (.list es) ∨ Dp K H y (.tuple es)) ∧ d.plain = true ∧ PyData.plainAll es = true ∧ min (PyData.depthAll es) d.depth ≤ 60 ∧ Q (.bl (if neg then !(es.any fun e => PyData.eqv e d) else es.any fun e => PyData.eqv e d)) H
theorem op_inP {X : Cx} (hu : X.A.units + 64 < cLine) : OpR X (compareOp .In) (rInP X.K false) := by
  intro pins s σ H x y v u Q I rx ry h
  obtain ⟨d, es, hd, he, sd, se, hm, q⟩ := h
  obtain ⟨as, r1⟩ := Dp.reads I d x v hd rx
  rcases he with he | he
  · obtain ⟨bs, r2⟩ := Dp.reads I _ y u he ry
    exact SeqAt.in_list_data r2 r1 se sd (by omega) ⟨.bl _, H, I, rfl, q⟩
  · obtain ⟨bs, r2⟩ := Dp.reads I _ y u he ry
    exact SeqAt.in_tuple_data r2 r1 se sd (by omega) ⟨.bl _, H, I, rfl, q⟩
theorem op_ninP {X : Cx} (hu : X.A.units + 64 < cLine) : OpR X (compareOp .NotIn) (rInP X.K true) := by
  intro pins s σ H x y v u Q I rx ry h
  obtain ⟨d, es, hd, he, sd, se, hm, q⟩ := h
  obtain ⟨as, r1⟩ := Dp.reads I d x v hd rx
  rcases he with he | he
  · obtain ⟨bs, r2⟩ := Dp.reads I _ y u he ry
    exact SeqAt.notIn_list_data r2 r1 se sd (by omega) ⟨.bl _, H, I, rfl, q⟩
  · obtain ⟨bs, r2⟩ := Dp.reads I _ y u he ry
    exact SeqAt.notIn_tuple_data r2 r1 se sd (by omega) ⟨.bl _, H, I, rfl, q⟩
inductive Sq (R : Res) : D → List PyData → Prop
  | l {d : D} {ds : List PyData} (h : Vw R d (.list ds)) : Sq R d ds
  | t (ds : List PyData) : Sq R (.d (.tuple ds)) ds
theorem rv_in {a : PyData} {es : List PyData} (ha : Vw R x a) (hb : Sq R y es) (hm : min (PyData.depthAll es) a.depth ≤ 60) : RV K R (rInP K false) x y (.d (.bool (es.any fun e => PyData.eqv e a))) := fun G H v w Q ok h1 h2 k => by
  have q1 := ha.hv ok h1
  refine ⟨a, es, Hv.dp a q1, ?_, Hv.plain a q1, ?_, hm, k _ G H ok .refl (show Hv G _ _ from .bl _)⟩
  · cases hb with
    | l h => exact .inl (Hv.dp _ (h.hv ok h2))
    | t => exact .inr (Hv.dp _ (Hv.mono ok.ex _ h2))
  · cases hb with
    | l h => exact Hv.plain _ (h.hv ok h2)
    | t => exact Hv.plain _ (Hv.mono ok.ex _ h2)
theorem rv_nin {a : PyData} {es : List PyData} (ha : Vw R x a) (hb : Sq R y es) (hm : min (PyData.depthAll es) a.depth ≤ 60) : RV K R (rInP K true) x y (.d (.bool (!(es.any fun e => PyData.eqv e a)))) := fun G H v w Q ok h1 h2 k => by
  have q1 := ha.hv ok h1
  refine ⟨a, es, Hv.dp a q1, ?_, Hv.plain a q1, ?_, hm, k _ G H ok .refl (show Hv G _ _ from .bl _)⟩
  · cases hb with
    | l h => exact .inl (Hv.dp _ (h.hv ok h2))
    | t => exact .inr (Hv.dp _ (Hv.mono ok.ex _ h2))
  · cases hb with
    | l h => exact Hv.plain _ (h.hv ok h2)
    | t => exact Hv.plain _ (Hv.mono ok.ex _ h2)
/-- is None -/
def rIsN : R2 := fun x y H Q => y = .non ∧ Q (.bl (decide (x = .non))) H
def rNotN : R2 := fun x y H Q => y = .non ∧ Q (.bl (!decide (x = .non))) H
def isNo : PyData → Bool
  | .none => true
  | _ => false
theorem Hv.isNo {G : Hp} {v : V} {x : PyData} (h : Hv G v x) : decide (v = .non) = Fl.isNo x := by
  cases h <;> rfl
theorem rv_isN {a : PyData} : RV K R rIsN (.d a) (.d .none) (.d (.bool (isNo a))) := fun G H v w Q ok h1 h2 k => by
  have q : Hv G v a := h1
  cases (show Hv G w .none from h2)
  refine ⟨rfl, ?_⟩
  rw [q.isNo]
  exact k _ G H ok .refl (show Hv G _ _ from .bl _)
theorem rv_notN {a : PyData} : RV K R rNotN (.d a) (.d .none) (.d (.bool (!isNo a))) := fun G H v w Q ok h1 h2 k => by
  have q : Hv G v a := h1
  cases (show Hv G w .none from h2)
  refine ⟨rfl, ?_⟩
  rw [q.isNo]
  exact k _ G H ok .refl (show Hv G _ _ from .bl _)
/-! ### subscripts -/
theorem atI_ds {G : Hp} {ds : List PyData} {vs : List V} {i : Int} {x : PyData} (h : Hvs G vs ds) (e : atI ds i = some x) : ∃ v, atI vs i = some v ∧ Hv G v x := by
  unfold atI at e ⊢
  rw [h.len]
  cases q : ixN ds.length i with
  | none => rw [q] at e; cases e
  | some j =>
    rw [q] at e
    exact h.getd e
theorem rv_ixL {ds : List PyData} {i : Int} {e : PyData} (h : Ls R x ds) (ha : atI ds i = some e) : RV K R (rIx K) x (.d (.int i)) (.d e) := fun G H v w Q ok h1 h2 k => by
  obtain ⟨a, vs, rfl, ea, la, hv⟩ := h.hv ok h1
  cases (show Hv G w (.int i) from h2)
  obtain ⟨u, q1, q2⟩ := atI_ds hv ha
  exact .inl ⟨a, vs, i, u, rfl, rfl, SqL.of ea, q1, k u G H ok .refl q2⟩
theorem rv_ixT {ds : List PyData} {i : Int} {e : PyData} (ha : atI ds i = some e) : RV K R (rIx K) (.d (.tuple ds)) (.d (.int i)) (.d e) := fun G H v w Q ok h1 h2 k => by
  cases (show Hv G w (.int i) from h2)
  cases (show Hv G v (.tuple ds) from h1) with
  | tup e1 e2 e3 =>
    obtain ⟨u, q1, q2⟩ := atI_ds e3 ha
    exact .inr (.inl ⟨_, _, i, u, rfl, rfl, SqT.of (ok.ex _ _ e1), q1, k u G H ok .refl q2⟩)
theorem rv_ixS {z : Str} {i : Int} {c : Nat} (hl : z.length ≤ 50000) (ha : atI z.cps.toList i = some c) : RV K R (rIx K) (.d (.str z)) (.d (.int i)) (.d (.str ⟨#[c]⟩)) := fun G H v w Q ok h1 h2 k => by
  cases (show Hv G v (.str z) from h1)
  cases (show Hv G w (.int i) from h2)
  exact .inr (.inr ⟨z, i, c, rfl, rfl, lim_le hl, ha, k _ G H ok .refl (show Hv G _ _ from .str _)⟩)
theorem atI_map {α β : Type} {f : α → β} {xs : List α} {i : Int} {v : α} (h : atI xs i = some v) : atI (xs.map f) i = some (f v) := by
  unfold atI at h ⊢
  rw [List.length_map]
  cases q : ixN xs.length i with
  | none => rw [q] at h; cases h
  | some j =>
    rw [q] at h
    show (xs.map f)[j]? = some (f v)
    rw [List.getElem?_map, show xs[j]? = some v from h]
    rfl
theorem rv_ixs {ns : List Int} {i n : Int} (ha : atI ns i = some n) : RV K R (rIx K) (.s ns) (.d (.int i)) (.d (.int n)) := fun G H v w Q ok h1 h2 k => by
  obtain ⟨a, rfl, hs⟩ := h1
  cases (show Hv G w (.int i) from h2)
  exact .inl ⟨a, _, i, .int n, rfl, rfl, gx_sql ok.ex hs, atI_map ha, k _ G H ok .refl (show Hv G _ _ from .int _)⟩
theorem rv_ixR {as : List Addr} {j : Nat} {a : Addr} {i : Int} {b : Addr} (h : R[j]? = some (a, .lsr as)) (ha : atI as i = some b) : RV K R (rIx K) (.r a) (.d (.int i)) (.r b) := fun G H v w Q ok h1 h2 k => by
  cases (show v = .ref a from h1)
  cases (show Hv G w (.int i) from h2)
  obtain ⟨q1, q2⟩ := ok.at h
  exact .inl ⟨a, _, i, .ref b, rfl, rfl, SqL.of q1, atI_map ha, k _ G H ok .refl rfl⟩
/-! ### slices -/
def cutD (xs : List PyData) (lo hi : Option Int) : List PyData := (xs.drop (HT.sIx xs.length 0 lo)).take (HT.sIx xs.length xs.length hi - HT.sIx xs.length 0 lo)
theorem eo_none : EvO K δ R tNoPart none := fun G H σ Q ok en k => k G H ok .refl
theorem eo_some {i : Int} (h : Ev K δ R te (.d (.int i))) : EvO K δ R (tPart te) (some i) := fun G H σ Q ok en k => h G H σ _ ok en fun v G1 H1 ok1 l1 h1 => by
  cases (show Hv G1 v (.int i) from h1)
  exact ⟨i, rfl, k G1 H1 ok1 l1⟩
theorem evf_sl {tl th : TO} {lo hi : Option Int} {xs : List PyData} (h : Ev K δ R te d) (h1 : EvO K δ R tl lo) (h2 : EvO K δ R th hi) (hl : Ls R d xs) : EvF K δ R (tSl (rSlL K) te tl th) (cutD xs lo hi) := fun G H σ Q ok en k =>
  h G H σ _ ok en fun v G1 H1 ok1 l1 q1 => h1 G1 H1 σ _ ok1 (en.mono l1.g) fun G2 H2 ok2 l2 => h2 G2 H2 σ _ ok2 ((en.mono l1.g).mono l2.g) fun G3 H3 ok3 l3 => by
    obtain ⟨a, vs, rfl, ea, la, hv⟩ := hl.hv ok3 (q1.mono (l2.g.trans l3.g))
    refine ⟨a, vs, rfl, SqL.of ea, fun p hp => ?_⟩
    have e := hv.len
    have hc : Hvs G3 (cutV vs lo hi) (cutD xs lo hi) := by
      unfold cutV cutD
      rw [e]
      exact (hv.drop _).take _
    obtain ⟨ok', le⟩ := ok3.laid (q := .lst (cutD xs lo hi)) hp ⟨_, upd_same, by unfold cutV; rw [List.length_take, List.length_drop]; omega, hc⟩
    exact k p _ _ ok' (((l1.trans l2).trans l3).trans le)
theorem cutV_map {f : Int → V} (ns : List Int) (lo hi : Option Int) : cutV (ns.map f) lo hi = ((ns.drop (HT.sIx ns.length 0 lo)).take (HT.sIx ns.length ns.length hi - HT.sIx ns.length 0 lo)).map f := by
  unfold cutV
  rw [List.length_map, List.map_take, List.map_drop]
def cutI (ns : List Int) (lo hi : Option Int) : List Int := (ns.drop (HT.sIx ns.length 0 lo)).take (HT.sIx ns.length ns.length hi - HT.sIx ns.length 0 lo)
theorem evf_sls {tl th : TO} {lo hi : Option Int} {ns : List Int} (h : Ev K δ R te (.s ns)) (h1 : EvO K δ R tl lo) (h2 : EvO K δ R th hi) (hn : ns.length ≤ 50000) : EvF K δ R (tSl (rSlL K) te tl th) ((cutI ns lo hi).map .int) := fun G H σ Q ok en k =>
  h G H σ _ ok en fun v G1 H1 ok1 l1 q1 => h1 G1 H1 σ _ ok1 (en.mono l1.g) fun G2 H2 ok2 l2 => h2 G2 H2 σ _ ok2 ((en.mono l1.g).mono l2.g) fun G3 H3 ok3 l3 => by
    obtain ⟨a, rfl, hs⟩ := q1.mono (l2.g.trans l3.g)
    refine ⟨a, _, rfl, gx_sql ok3.ex hs, fun p hp => ?_⟩
    have e := cutV_map (f := V.int) ns lo hi
    rw [e]
    obtain ⟨ok', le⟩ := ok3.laid (q := .lst ((cutI ns lo hi).map .int)) hp ⟨_, upd_same, by rw [List.length_map]; unfold cutI; rw [List.length_take, List.length_drop]; omega, hvs_ints _⟩
    exact k p _ _ ok' (((l1.trans l2).trans l3).trans le)
theorem ev_sls {tl th : TO} {lo hi : Option Int} {z : Str} (h : Ev K δ R te (.d (.str z))) (h1 : EvO K δ R tl lo) (h2 : EvO K δ R th hi) (hn : z.length ≤ 50000) : Ev K δ R (tSl rSlS te tl th) (.d (.str (cutS z lo hi))) := fun G H σ Q ok en k =>
  h G H σ _ ok en fun v G1 H1 ok1 l1 q1 => h1 G1 H1 σ _ ok1 (en.mono l1.g) fun G2 H2 ok2 l2 => h2 G2 H2 σ _ ok2 ((en.mono l1.g).mono l2.g) fun G3 H3 ok3 l3 => by
    cases (show Hv G1 v (.str z) from q1)
    exact ⟨z, rfl, lim_le hn, k _ G3 H3 ok3 ((l1.trans l2).trans l3) (show Hv G3 _ _ from .str _)⟩
/-! ### arguments, displays -/
theorem ex_nil : EvX K δ R tNil [] := fun G H σ Q ok en k => k _ G H ok .refl .nil
theorem ex_cons {tr : TA} {x : PyData} {xs : List PyData} (h : Ev K δ R ta (.d x)) (hr : EvX K δ R tr xs) : EvX K δ R (tCons ta tr) (x :: xs) := fun G H σ Q ok en k =>
  h G H σ _ ok en fun v G1 H1 ok1 l1 q1 => hr G1 H1 σ _ ok1 (en.mono l1.g) fun vs G2 H2 ok2 l2 q2 => k _ G2 H2 ok2 (l1.trans l2) (.cons (Hv.mono l2.g _ q1) q2)
theorem ea_nil : EvA K δ R tNil [] := fun G H σ Q ok en k => k _ G H ok .refl ⟨rfl, fun i v d h => by simp at h⟩
theorem ea_cons {tr : TA} {ds : List D} (h : Ev K δ R ta d) (hr : EvA K δ R tr ds) : EvA K δ R (tCons ta tr) (d :: ds) := fun G H σ Q ok en k =>
  h G H σ _ ok en fun v G1 H1 ok1 l1 q1 => hr G1 H1 σ _ ok1 (en.mono l1.g) fun vs G2 H2 ok2 l2 ⟨q2, q3⟩ => k _ G2 H2 ok2 (l1.trans l2) ⟨by simp [q2], fun i u e h1 h2 => by
    cases i with
    | zero =>
      simp at h1 h2
      subst h1 h2
      exact q1.mono l2.g
    | succ i => exact q3 i u e (by simpa using h1) (by simpa using h2)⟩
theorem ev_tup {ta : TA} {xs : List PyData} (h : EvX K δ R ta xs) (hl : xs.length ≤ 50000) : Ev K δ R (tTup ta) (.d (.tuple xs)) := fun G H σ Q ok en k => h G H σ _ ok en fun vs G1 H1 ok1 l1 q1 => by
  have e := q1.len
  refine ⟨lim_le (by omega), fun p hp => ?_⟩
  obtain ⟨ok', le⟩ := ok1.seen (o := .tup vs) hp
  exact k _ _ _ ok' (l1.trans le) (show Hv _ _ _ from .tup upd_same (by omega) (Hvs.mono le.g _ q1))
theorem evf_lst {ta : TA} {xs : List PyData} (h : EvX K δ R ta xs) (hl : xs.length ≤ 50000) : EvF K δ R (tLst ta) xs := fun G H σ Q ok en k => h G H σ _ ok en fun vs G1 H1 ok1 l1 q1 => by
  have e := q1.len
  refine ⟨lim_le (by omega), fun p hp => ?_⟩
  obtain ⟨ok', le⟩ := ok1.laid (q := .lst xs) (o := .lst vs) hp ⟨vs, upd_same, by omega, q1⟩
  exact k _ _ _ ok' (l1.trans le)
/-! ### tests, and, or, not -/
theorem et_val {b : Bool} (h : Ev K δ R te (.d (.bool b))) : EvT K δ R (tB te) b := fun G H σ Q ok en k => h G H σ _ ok en fun v G1 H1 ok1 l1 q1 => by
  cases (show Hv G1 v (.bool b) from q1)
  exact ⟨b, rfl, k G1 H1 ok1 l1⟩
theorem et_test {b : Bool} (h : Ev K δ R te (.d (.bool b))) : EvT K δ R (tTest te) b := fun G H σ Q ok en k => h G H σ _ ok en fun v G1 H1 ok1 l1 q1 => by
  cases (show Hv G1 v (.bool b) from q1)
  exact ⟨b, rfl, k G1 H1 ok1 l1⟩
theorem et_not {t : TT} {b : Bool} (h : EvT K δ R t b) : EvT K δ R (tNot t) (!b) := fun G H σ Q ok en k => h G H σ _ ok en fun G1 H1 ok1 l1 => k G1 H1 ok1 l1
theorem et_and {t u : TT} {a b : Bool} (h1 : EvT K δ R t a) (h2 : a = true → EvT K δ R u b) : EvT K δ R (tAnd t u) (a && b) := fun G H σ Q ok en k => h1 G H σ _ ok en fun G1 H1 ok1 l1 => by
  cases a with
  | true =>
    rw [if_pos rfl]
    exact h2 rfl G1 H1 σ Q ok1 (en.mono l1.g) fun G2 H2 ok2 l2 => k G2 H2 ok2 (l1.trans l2)
  | false =>
    rw [if_neg Bool.false_ne_true]
    exact k G1 H1 ok1 l1
theorem et_or {t u : TT} {a b : Bool} (h1 : EvT K δ R t a) (h2 : a = false → EvT K δ R u b) : EvT K δ R (tOr t u) (a || b) := fun G H σ Q ok en k => h1 G H σ _ ok en fun G1 H1 ok1 l1 => by
  cases a with
  | true =>
    rw [if_pos rfl]
    exact k G1 H1 ok1 l1
  | false =>
    rw [if_neg Bool.false_ne_true]
    exact h2 rfl G1 H1 σ Q ok1 (en.mono l1.g) fun G2 H2 ok2 l2 => k G2 H2 ok2 (l1.trans l2)
theorem et_is {t : TT} {a b : Bool} (h : EvT K δ R t a) (e : a = b) : EvT K δ R t b := e ▸ h
theorem et_yes : EvT K δ R tYes true := fun G H σ Q ok en k => k G H ok .refl
theorem ev_not {b : Bool} (h : Ev K δ R te (.d (.bool b))) : Ev K δ R (tNotV te) (.d (.bool (!b))) := fun G H σ Q ok en k => h G H σ _ ok en fun v G1 H1 ok1 l1 q1 => by
  cases (show Hv G1 v (.bool b) from q1)
  exact ⟨b, rfl, k _ G1 H1 ok1 l1 (show Hv G1 _ _ from .bl _)⟩
theorem ev_and {a b : Bool} (h1 : Ev K δ R ta (.d (.bool a))) (h2 : a = true → Ev K δ R tb (.d (.bool b))) : Ev K δ R (tAndV ta tb) (.d (.bool (a && b))) := fun G H σ Q ok en k => h1 G H σ _ ok en fun v G1 H1 ok1 l1 q1 => by
  cases (show Hv G1 v (.bool a) from q1)
  refine ⟨a, rfl, ?_⟩
  cases a with
  | true =>
    rw [if_pos rfl]
    exact h2 rfl G1 H1 σ Q ok1 (en.mono l1.g) fun u G2 H2 ok2 l2 => k u G2 H2 ok2 (l1.trans l2)
  | false =>
    rw [if_neg Bool.false_ne_true]
    exact k _ G1 H1 ok1 l1 (show Hv G1 _ _ from .bl _)
theorem ev_or {a b : Bool} (h1 : Ev K δ R ta (.d (.bool a))) (h2 : a = false → Ev K δ R tb (.d (.bool b))) : Ev K δ R (tOrV ta tb) (.d (.bool (a || b))) := fun G H σ Q ok en k => h1 G H σ _ ok en fun v G1 H1 ok1 l1 q1 => by
  cases (show Hv G1 v (.bool a) from q1)
  refine ⟨a, rfl, ?_⟩
  cases a with
  | true =>
    rw [if_pos rfl]
    exact k _ G1 H1 ok1 l1 (show Hv G1 _ _ from .bl _)
  | false =>
    rw [if_neg Bool.false_ne_true]
    exact h2 rfl G1 H1 σ Q ok1 (en.mono l1.g) fun u G2 H2 ok2 l2 => k u G2 H2 ok2 (l1.trans l2)
theorem ev_chain {r r' : R2} {a b : Bool} (h1 : Ev K δ R ta x) (h2 : Ev K δ R tb y) (hr : RV K R r x y (.d (.bool a))) (h3 : a = true → Ev K δ R tc z ∧ RV K R r' y z (.d (.bool b))) : Ev K δ R (tChain r r' ta tb tc) (.d (.bool (a && b))) := fun G H σ Q ok en k =>
  h1 G H σ _ ok en fun v G1 H1 ok1 l1 q1 => h2 G1 H1 σ _ ok1 (en.mono l1.g) fun w G2 H2 ok2 l2 q2 => hr G2 H2 v w _ ok2 (q1.mono l2.g) q2 fun u G3 H3 ok3 l3 q3 => by
    cases (show Hv G3 u (.bool a) from q3)
    refine ⟨a, rfl, ?_⟩
    cases a with
    | true =>
      rw [if_pos rfl]
      obtain ⟨h4, h5⟩ := h3 rfl
      exact h4 G3 H3 σ _ ok3 (en.mono ((l1.trans l2).trans l3).g) fun u' G4 H4 ok4 l4 q4 => h5 G4 H4 w u' Q ok4 (q2.mono (l3.trans l4).g) q4 fun u'' G5 H5 ok5 l5 q5 => k u'' G5 H5 ok5 ((((l1.trans l2).trans l3).trans l4).trans l5) q5
    | false =>
      rw [if_neg Bool.false_ne_true]
      exact k _ G3 H3 ok3 ((l1.trans l2).trans l3) (show Hv G3 _ _ from .bl _)
/-! ### fields, dicts -/
theorem Fvs.look {K : PySem.W.Frag} {G : Hp} : ∀ {vs : List (Str × V)} {ds : List (Str × D)} {f : Str} {d : D}, Fvs K G vs ds → ds.lookup f = some d → ∃ v, vs.lookup f = some v ∧ HD K G v d
  | _, _, f, d, .nil, e => by simp at e
  | _, _, f, d, .cons (k := k) h t, e => by
    rw [List.lookup_cons] at e ⊢
    cases q : f == k with
    | true => rw [q] at e; cases e; exact ⟨_, rfl, h⟩
    | false => rw [q] at e; exact Fvs.look t e
theorem Fvs.lookN {K : PySem.W.Frag} {G : Hp} : ∀ {vs : List (Str × V)} {ds : List (Str × D)} {f : Str}, Fvs K G vs ds → ds.lookup f = none → vs.lookup f = none
  | _, _, f, .nil, e => rfl
  | _, _, f, .cons (k := k) h t, e => by
    rw [List.lookup_cons] at e ⊢
    cases q : f == k with
    | true => rw [q] at e; cases e
    | false => rw [q] at e; exact Fvs.lookN t e
theorem ev_fld {i : Nat} {a C : Addr} {fs : List (Str × D)} {f : Str} (h : Ev K δ R ta (.r a)) (hi : R[i]? = some (a, .ins C fs)) (hl : fs.lookup f = some d) (hc : Cls K C) (hn : NoAttr K C f) : Ev K δ R (tFld K ta f) d := fun G H σ Q ok en k =>
  h G H σ _ ok en fun v G1 H1 ok1 l1 q1 => by
    cases (show v = .ref a from q1)
    obtain ⟨dx, vs, e, fv⟩ := ok1.at hi
    obtain ⟨w, e2, q2⟩ := fv.look hl
    exact ⟨a, C, dx, vs, w, rfl, e, hc, hn, e2, k w G1 H1 ok1 l1 q2⟩
/-- a key -/
def keyD : Key → PyData
  | .inl i => .int i
  | .inr x => .str x
theorem Hv.key {G : Hp} {v : V} {k : Key} (h : Hv G v (keyD k)) : v = kV k := by
  cases k <;> (cases h; rfl)
def valD {κ : Type} [DecidableEq κ] (kvs : List (κ × D)) (k : κ) : Option D := (kvs.find? fun kv => decide (kv.1 = k)).map (·.2)
def ValAt (K : PySem.W.Frag) (G : Hp) (o : Option V) : Option D → Prop
  | some d => ∃ v, o = some v ∧ HD K G v d
  | none => o = none
theorem Fvs.val {K : PySem.W.Frag} {G : Hp} {κ : Type} [DecidableEq κ] {k : κ} : ∀ {vs : List (κ × V)} {ds : List (κ × D)}, Fvs K G vs ds → ValAt K G (valV vs k) (valD ds k)
  | _, _, .nil => rfl
  | _, _, .cons (k := j) (v := v) (d := d) (vs := vs) (ds := ds) h t => by
    by_cases e : j = k
    · have q1 : valD ((j, d) :: ds) k = some d := by simp [valD, List.find?_cons, e]
      rw [q1]
      exact ⟨v, valV_pos e, h⟩
    · have q1 : valD ((j, d) :: ds) k = valD ds k := by simp [valD, List.find?_cons, e]
      rw [q1]
      have q2 : valV ((j, v) :: vs) k = valV vs k := valV_neg e
      rw [q2]
      exact Fvs.val t
theorem Fvs.some {K : PySem.W.Frag} {G : Hp} {κ : Type} [DecidableEq κ] {k : κ} {vs : List (κ × V)} {ds : List (κ × D)} {d : D} (h : Fvs K G vs ds) (e : valD ds k = some d) : ∃ v, valV vs k = some v ∧ HD K G v d := by
  have q := h.val (k := k)
  rw [e] at q
  exact q
theorem Fvs.isSome {K : PySem.W.Frag} {G : Hp} {κ : Type} [DecidableEq κ] {k : κ} {vs : List (κ × V)} {ds : List (κ × D)} (h : Fvs K G vs ds) : (valV vs k).isSome = (valD ds k).isSome := by
  have q := h.val (k := k)
  cases e : valD ds k with
  | none => rw [e] at q; rw [show valV vs k = none from q]; rfl
  | some d => rw [e] at q; obtain ⟨v, q1, _⟩ := q; rw [q1]; rfl
theorem ev_dget {i : Nat} {a : Addr} {kvs : List (Key × D)} {k : Key} (h1 : Ev K δ R ta (.r a)) (h2 : Ev K δ R tb (.d (keyD k))) (hi : R[i]? = some (a, .dic kvs)) (hl : valD kvs k = some d) : Ev K δ R (tDGet ta tb) d := fun G H σ Q ok en kk =>
  h1 G H σ _ ok en fun v G1 H1 ok1 l1 q1 => h2 G1 H1 σ _ ok1 (en.mono l1.g) fun w G2 H2 ok2 l2 q2 => by
    cases (show v = .ref a from q1)
    have ew := Hv.key (show Hv G2 w (keyD k) from q2)
    subst ew
    obtain ⟨vs, e, _, fv⟩ := ok2.at hi
    obtain ⟨u, e1, e2⟩ := fv.some hl
    refine ⟨a, u, rfl, ?_, kk u G2 H2 ok2 (l1.trans l2) e2⟩
    rw [← e1]
    exact DGet.k e
theorem ev_din {i : Nat} {a : Addr} {kvs : List (Key × D)} {k : Key} (h2 : Ev K δ R tb (.d (keyD k))) (h1 : Ev K δ R ta (.r a)) (hi : R[i]? = some (a, .dic kvs)) : Ev K δ R (tDIn tb ta) (.d (.bool (valD kvs k).isSome)) := fun G H σ Q ok en kk =>
  h2 G H σ _ ok en fun w G1 H1 ok1 l1 q1 => h1 G1 H1 σ _ ok1 (en.mono l1.g) fun v G2 H2 ok2 l2 q2 => by
    cases (show v = .ref a from q2)
    have ew := Hv.key (show Hv G1 w (keyD k) from q1)
    subst ew
    obtain ⟨vs, e, _, fv⟩ := ok2.at hi
    refine ⟨a, _, rfl, DGet.k (k := k) e, ?_⟩
    rw [fv.isSome]
    exact kk _ G2 H2 ok2 (l1.trans l2) (show Hv G2 _ _ from .bl _)
theorem ev_dnotin {i : Nat} {a : Addr} {kvs : List (Key × D)} {k : Key} (h2 : Ev K δ R tb (.d (keyD k))) (h1 : Ev K δ R ta (.r a)) (hi : R[i]? = some (a, .dic kvs)) : Ev K δ R (tDNotIn tb ta) (.d (.bool (!(valD kvs k).isSome))) := fun G H σ Q ok en kk =>
  h2 G H σ _ ok en fun w G1 H1 ok1 l1 q1 => h1 G1 H1 σ _ ok1 (en.mono l1.g) fun v G2 H2 ok2 l2 q2 => by
    cases (show v = .ref a from q2)
    have ew := Hv.key (show Hv G1 w (keyD k) from q1)
    subst ew
    obtain ⟨vs, e, _, fv⟩ := ok2.at hi
    refine ⟨a, _, rfl, DGet.k (k := k) e, ?_⟩
    rw [fv.isSome]
    exact kk _ G2 H2 ok2 (l1.trans l2) (show Hv G2 _ _ from .bl _)
/-! ### calls of built-ins by values -/
theorem vals_one {G : Hp} {vs : List V} {x : PyData} (h : Hvs G vs [x]) : ∃ v, vs = [v] ∧ Hv G v x := by
  cases h with
  | cons h1 h2 => cases h2; exact ⟨_, rfl, h1⟩
def lenD (R : Res) (d : D) (n : Nat) : Prop := (∃ ds, Ls R d ds ∧ n = ds.length) ∨ (∃ ds, d = .d (.tuple ds) ∧ n = ds.length) ∨ (∃ z, d = .d (.str z) ∧ z.length ≤ 50000 ∧ n = z.length) ∨ ∃ ns, d = .s ns ∧ n = ns.length
def rLen (K : PySem.W.Frag) : List V → Hp → VK → Prop := fun xs H Q => ∃ x n, xs = [x] ∧ LenV K x H n ∧ Q (.int n) H
theorem ev_len {n : Nat} (h : Ev K δ R ta d) (hn : lenD R d n) : Ev K δ R (tCB (rLen K) (tCons ta tNil)) (.d (.int n)) := fun G H σ Q ok en k => h G H σ _ ok en fun v G1 H1 ok1 l1 q1 => by
  refine ⟨v, n, rfl, ?_, k _ G1 H1 ok1 l1 (show Hv G1 _ _ from .int _)⟩
  rcases hn with ⟨ds, hl, e⟩ | ⟨ds, rfl, e⟩ | ⟨z, rfl, hz, e⟩ | ⟨ns, rfl, e⟩
  · obtain ⟨a, vs, rfl, ea, la, hv⟩ := hl.hv ok1 q1
    exact .inl ⟨vs, SqL.of ea, by rw [e, hv.len]⟩
  · cases (show Hv G1 v (.tuple ds) from q1) with
    | tup e1 e2 e3 => exact .inr ⟨_, SqT.of (ok1.ex _ _ e1), by rw [e, e3.len]⟩
  · cases (show Hv G1 v (.str z) from q1)
    exact ⟨lim_le hz, e⟩
  · obtain ⟨a, rfl, hs⟩ := q1
    exact .inl ⟨_, gx_sql ok1.ex hs, by rw [e, List.length_map]⟩
theorem ev_lenL {ds : List PyData} (h : Ev K δ R ta d) (hn : Ls R d ds) : Ev K δ R (tCB (rLen K) (tCons ta tNil)) (.d (.int ds.length)) := ev_len h (.inl ⟨ds, hn, rfl⟩)
theorem ev_lenT {ds : List PyData} (h : Ev K δ R ta (.d (.tuple ds))) : Ev K δ R (tCB (rLen K) (tCons ta tNil)) (.d (.int ds.length)) := ev_len h (.inr (.inl ⟨ds, rfl, rfl⟩))
theorem ev_lenS {z : Str} (h : Ev K δ R ta (.d (.str z))) (hz : z.length ≤ 50000) : Ev K δ R (tCB (rLen K) (tCons ta tNil)) (.d (.int z.length)) := ev_len h (.inr (.inr (.inl ⟨z, rfl, hz, rfl⟩)))
theorem ev_lens {ns : List Int} (h : Ev K δ R ta (.s ns)) : Ev K δ R (tCB (rLen K) (tCons ta tNil)) (.d (.int ns.length)) := ev_len h (.inr (.inr (.inr ⟨ns, rfl, rfl⟩)))
def rListS (K : PySem.W.Frag) : List V → Hp → VK → Prop := fun xs H Q => ∃ p ys, xs = [.ref p] ∧ (SqL K H p ys ∨ SqT K H p ys) ∧ ∀ l, H l = none → Q (.ref l) (upd H l (.lst ys))
theorem evf_list {ds : List PyData} (h : Ev K δ R ta d) (hl : Ls R d ds) : EvF K δ R (tCB (rListS K) (tCons ta tNil)) ds := fun G H σ Q ok en k => h G H σ _ ok en fun v G1 H1 ok1 l1 q1 => by
  obtain ⟨a, vs, rfl, ea, la, hv⟩ := hl.hv ok1 q1
  refine ⟨a, vs, rfl, .inl (SqL.of ea), fun p hp => ?_⟩
  obtain ⟨ok', le⟩ := ok1.laid (q := .lst ds) (o := .lst vs) hp ⟨vs, upd_same, la, hv⟩
  exact k _ _ _ ok' (l1.trans le)
theorem evf_listD {i : Nat} {a : Addr} {kvs : List (Key × D)} (h : Ev K δ R ta (.r a)) (hi : R[i]? = some (a, .dic kvs)) : EvF K δ R (tCB rListD (tCons ta tNil)) (kvs.map fun kv => keyD kv.1) := fun G H σ Q ok en k => h G H σ _ ok en fun v G1 H1 ok1 l1 q1 => by
  cases (show v = .ref a from q1)
  obtain ⟨vs, e, hl, fv⟩ := ok1.at hi
  refine ⟨a, vs, rfl, e, fun p hp => ?_⟩
  have hv : Hvs G1 (vs.map fun kv => kV kv.1) (kvs.map fun kv => keyD kv.1) := by
    have e1 : (vs.map fun kv => kV kv.1) = (vs.map (·.1)).map kV := by rw [List.map_map]; rfl
    have e2 : (kvs.map fun kv => keyD kv.1) = (kvs.map (·.1)).map keyD := by rw [List.map_map]; rfl
    rw [e1, e2, fv.keys]
    generalize kvs.map (·.1) = ks
    induction ks with
    | nil => exact .nil
    | cons k ks ih =>
      refine .cons ?_ ih
      cases k with
      | inl i => exact .int i
      | inr x => exact .str x
  obtain ⟨ok', le⟩ := ok1.laid (q := .lst (kvs.map fun kv => keyD kv.1)) hp ⟨_, upd_same, by rw [List.length_map]; exact hl, hv⟩
  exact k _ _ _ ok' (l1.trans le)
def rInt1 : List V → Hp → VK → Prop := fun xs H Q => (∃ i, xs = [.int i] ∧ Q (.int i) H) ∨ ∃ k, xs = [.bl k] ∧ Q (.int (if k then 1 else 0)) H
theorem ev_int1 {b : Bool} (h : Ev K δ R ta (.d (.bool b))) : Ev K δ R (tCB rInt1 (tCons ta tNil)) (.d (.int (if b then 1 else 0))) := fun G H σ Q ok en k => h G H σ _ ok en fun v G1 H1 ok1 l1 q1 => by
  cases (show Hv G1 v (.bool b) from q1)
  exact .inr ⟨b, rfl, k _ G1 H1 ok1 l1 (show Hv G1 _ _ from .int _)⟩
def rStr1 : List V → Hp → VK → Prop := fun xs H Q => ∃ i, xs = [.int i] ∧ i.natAbs.log2 < 1920 ∧ Q (.str (toString i)) H
theorem ev_str1 {i : Int} (h : Ev K δ R ta (.d (.int i))) (hl : i.natAbs.log2 < 1920) : Ev K δ R (tCB rStr1 (tCons ta tNil)) (.d (.str (toString i))) := fun G H σ Q ok en k => h G H σ _ ok en fun v G1 H1 ok1 l1 q1 => by
  cases (show Hv G1 v (.int i) from q1)
  exact ⟨i, rfl, hl, k _ G1 H1 ok1 l1 (show Hv G1 _ _ from .str _)⟩
def rMin2 : List V → Hp → VK → Prop := fun xs H Q => ∃ i j, xs = [.int i, .int j] ∧ Q (.int (if j < i then j else i)) H
def rMax2 : List V → Hp → VK → Prop := fun xs H Q => ∃ i j, xs = [.int i, .int j] ∧ Q (.int (if j > i then j else i)) H
theorem ev_min2 {i j : Int} (h1 : Ev K δ R ta (.d (.int i))) (h2 : Ev K δ R tb (.d (.int j))) : Ev K δ R (tCB rMin2 (tCons ta (tCons tb tNil))) (.d (.int (if j < i then j else i))) := fun G H σ Q ok en k =>
  h1 G H σ _ ok en fun v G1 H1 ok1 l1 q1 => h2 G1 H1 σ _ ok1 (en.mono l1.g) fun w G2 H2 ok2 l2 q2 => by
    cases (show Hv G1 v (.int i) from q1)
    cases (show Hv G2 w (.int j) from q2)
    exact ⟨i, j, rfl, k _ G2 H2 ok2 (l1.trans l2) (show Hv G2 _ _ from .int _)⟩
theorem ev_max2 {i j : Int} (h1 : Ev K δ R ta (.d (.int i))) (h2 : Ev K δ R tb (.d (.int j))) : Ev K δ R (tCB rMax2 (tCons ta (tCons tb tNil))) (.d (.int (if j > i then j else i))) := fun G H σ Q ok en k =>
  h1 G H σ _ ok en fun v G1 H1 ok1 l1 q1 => h2 G1 H1 σ _ ok1 (en.mono l1.g) fun w G2 H2 ok2 l2 q2 => by
    cases (show Hv G1 v (.int i) from q1)
    cases (show Hv G2 w (.int j) from q2)
    exact ⟨i, j, rfl, k _ G2 H2 ok2 (l1.trans l2) (show Hv G2 _ _ from .int _)⟩
theorem ev_min1 {ns : List Int} {m : Int} (h : Ev K δ R ta d) (hl : Ls R d (ns.map .int)) (hm : m ∈ ns) (hle : ∀ y ∈ ns, m ≤ y) : Ev K δ R (tCB (rMin K) (tCons ta tNil)) (.d (.int m)) := fun G H σ Q ok en k => h G H σ _ ok en fun v G1 H1 ok1 l1 q1 => by
  obtain ⟨a, vs, rfl, ea, la, hv⟩ := hl.hv ok1 q1
  have e := hv.ints
  subst e
  refine ⟨a, ns, rfl, SqL.of ea, List.length_pos_of_mem hm, fun m' hm' hle' => ?_⟩
  have e : m' = m := Int.le_antisymm (hle' m hm) (hle m' hm')
  subst e
  exact k _ G1 H1 ok1 l1 (show Hv G1 _ _ from .int _)
theorem ev_sum {ns : List Int} (h : Ev K δ R ta d) (hl : Ls R d (ns.map .int)) : Ev K δ R (tCB (rSum K) (tCons ta tNil)) (.d (.int ns.sum)) := fun G H σ Q ok en k => h G H σ _ ok en fun v G1 H1 ok1 l1 q1 => by
  obtain ⟨a, vs, rfl, ea, la, hv⟩ := hl.hv ok1 q1
  have e := hv.ints
  subst e
  exact ⟨a, ns, rfl, SqL.of ea, k _ G1 H1 ok1 l1 (show Hv G1 _ _ from .int _)⟩
theorem ev_all {bs : List Bool} (h : Ev K δ R ta d) (hl : Ls R d (bs.map .bool)) : Ev K δ R (tCB (rAll K) (tCons ta tNil)) (.d (.bool (bs.all id))) := fun G H σ Q ok en k => h G H σ _ ok en fun v G1 H1 ok1 l1 q1 => by
  obtain ⟨a, vs, rfl, ea, la, hv⟩ := hl.hv ok1 q1
  have e := hv.bls
  subst e
  exact ⟨a, bs, rfl, SqL.of ea, k _ G1 H1 ok1 l1 (show Hv G1 _ _ from .bl _)⟩
/-- sorted, of ints: the sorted list is any list that is a permutation and rises -/
theorem evf_sorted {ns ms : List Int} (h : Ev K δ R ta d) (hl : Ls R d (ns.map .int)) (hp : ns.Perm ms) (hs : ms.Pairwise (· ≤ ·)) : EvF K δ R (tCB (rSortedI K) (tCons ta tNil)) (ms.map .int) := fun G H σ Q ok en k => h G H σ _ ok en fun v G1 H1 ok1 l1 q1 => by
  obtain ⟨a, vs, rfl, ea, la, hv⟩ := hl.hv ok1 q1
  have e := hv.ints
  subst e
  refine ⟨a, ns, rfl, SqL.of ea, fun ns' p hp' hs' new => ?_⟩
  have e : ns' = ms := by
    have q : ns'.Perm ms := hp'.trans hp
    exact q.eq_of_pairwise (fun a b _ _ h1 h2 => Int.le_antisymm h1 h2) hs' hs
  subst e
  have hlen : ns'.length = ns.length := hp'.length_eq
  obtain ⟨ok', le⟩ := ok1.laid (q := .lst (ns'.map .int)) new ⟨_, upd_same, by rw [List.length_map] at la ⊢; omega, hvs_ints _⟩
  exact k _ _ _ ok' (l1.trans le)
/-! ### isinstance with a built-in class -/
def tyD : PyData → Option String
  | .none => some "NoneType"
  | .bool _ => some "bool"
  | .int _ => some "int"
  | .str _ => some "str"
  | .list _ => some "list"
  | .tuple _ => some "tuple"
  | .dict _ => none
theorem Hv.ty {H : Hp} {v : V} {x : PyData} (h : Hv H v x) : ∃ T, tyD x = some T ∧ TyX K H v (.type T) := by
  cases h with
  | non => exact ⟨_, rfl, .base .non⟩
  | bl b => exact ⟨_, rfl, .base (.bl b)⟩
  | int i => exact ⟨_, rfl, .base (.int i)⟩
  | str x => exact ⟨_, rfl, .base (.str x)⟩
  | lst h1 _ _ => exact ⟨_, rfl, .base (.lst h1)⟩
  | tup h1 _ _ => exact ⟨_, rfl, .base (.tup h1)⟩
theorem ev_isi {x : PyData} {T C : String} {b : Bool} (h : Ev K δ R ta d) (hv : Vw R d x) (ht : tyD x = some T) (hb : kitB T C = some b) : Ev K δ R (tCB (rIsi K) (tCons ta (tCons (tC (.ty C)) tNil))) (.d (.bool b)) := fun G H σ Q ok en k => h G H σ _ ok en fun v G1 H1 ok1 l1 q1 => by
  obtain ⟨T', e, ty⟩ := Hv.ty (K := K) (hv.hv ok1 q1)
  rw [ht] at e
  cases e
  exact ⟨v, .ty C, .type T, .type C, b, rfl, .ty C, ty, kit_ty hb, k _ G1 H1 ok1 l1 (show Hv G1 _ _ from .bl _)⟩
end
end Fl
/-! Sources, comprehensions, statements, calls, defs. -/
namespace Fl
open PySem PySem.Spec PyProof.Rows L2
/-! ### sources: what a for walks -/
/-- the value x that a turn hands out, at the heap H' -/
def StepTo (K : PySem.W.Frag) (G H : Hp) (x : V) (H' : Hp) (u : PyData) : Prop :=
  (H' = H ∧ Hv G x u) ∨ ∃ (T : Addr) (vs : List V) (xs : List PyData), H T = none ∧ H' = upd H T (.tup vs) ∧ vs.length ≤ 50000 ∧ x = .ref T ∧ Hvs G vs xs ∧ u = .tuple xs
def IsIt (K : PySem.W.Frag) (J : It) (G : Hp) (us : List PyData) : Prop := ∀ G2 H2 : Hp, Gx G G2 → Gx G2 H2 → (∀ i, us.length ≤ i → J.stop i H2) ∧ ∀ (i : Nat) (u : PyData), us[i]? = some u → J.go i H2 ∧ ∀ x H', J.yld i H2 x H' → StepTo K G2 H2 x H' u
def EvI (K : PySem.W.Frag) (δ : DEnv) (R : Res) (wi : TI) (us : List PyData) : Prop := ∀ (G H : Hp) (σ : L2.St) (Q : It → Hp → Prop), Ok K G H R → DE K G σ δ →
  (∀ J G' H', Ok K G' H' R → Le G H R G' H' R → us.length ≤ 50000 → IsIt K J G' us → Q J H') → wi σ H Q
section
variable {K : PySem.W.Frag} {G G' H H' : Hp} {R : Res} {δ : DEnv} {ta tb tc te tl : TE} {d x y z : D} {r : R2}
theorem StepTo.ok {v : V} {u : PyData} (s : StepTo K G H v H' u) (ok : Ok K G H R) : ∃ G', Ok K G' H' R ∧ Le G H R G' H' R ∧ Hv G' v u := by
  rcases s with ⟨rfl, h⟩ | ⟨T, vs, xs, hT, rfl, hl, rfl, hv, rfl⟩
  · exact ⟨G, ok, .refl, h⟩
  · obtain ⟨ok', le⟩ := ok.seen (o := .tup vs) hT
    exact ⟨_, ok', le, .tup upd_same hl (Hvs.mono le.g _ hv)⟩
theorem isIt_list {a : Addr} {vs : List V} {ds : List PyData} (e : G a = some (.lst vs)) (hv : Hvs G vs ds) : IsIt K (Itl K a) G ds := fun G2 H2 g1 g2 => by
  have e2 : H2 a = some (.lst vs) := g2 _ _ (g1 _ _ e)
  have el := hv.len
  refine ⟨fun i hi => ⟨vs, SqL.of e2, by omega⟩, fun i u hu => ?_⟩
  obtain ⟨v, h1, h2⟩ := hv.getd hu
  exact ⟨⟨vs, v, SqL.of e2, h1⟩, fun x H' ⟨y1, y2⟩ => .inl ⟨y1, by
    have q := y2 vs (SqL.of e2)
    rw [h1] at q
    cases q
    exact Hv.mono g1 _ h2⟩⟩
theorem ei_list {ds : List PyData} (h : Ev K δ R tl (.d (.list ds))) : EvI K δ R (iList K tl) ds := fun G H σ Q ok en k => h G H σ _ ok en fun v G1 H1 ok1 l1 q1 => by
  cases (show Hv G1 v (.list ds) from q1) with
  | lst e1 e2 e3 =>
    refine ⟨_, rfl, ⟨_, SqL.of (ok1.ex _ _ e1)⟩, k _ G1 H1 ok1 l1 ?_ (isIt_list e1 e3)⟩
    rw [← e3.len]
    exact e2
theorem ei_tup {ds : List PyData} (h : Ev K δ R tl (.d (.tuple ds))) : EvI K δ R (iTup K tl) ds := fun G H σ Q ok en k => h G H σ _ ok en fun v G1 H1 ok1 l1 q1 => by
  cases (show Hv G1 v (.tuple ds) from q1) with
  | @tup a vs ds e1 e2 e3 =>
    have el := e3.len
    refine ⟨a, rfl, ⟨vs, SqT.of (ok1.ex _ _ e1)⟩, k _ G1 H1 ok1 l1 (by omega) fun G2 H2 g1 g2 => ?_⟩
    have e4 : H2 a = some (.tup vs) := g2 _ _ (g1 _ _ e1)
    refine ⟨fun i hi => ⟨vs, SqT.of e4, by omega⟩, fun i u hu => ?_⟩
    obtain ⟨w, h1, h2⟩ := e3.getd hu
    exact ⟨⟨vs, w, SqT.of e4, h1⟩, fun x H' ⟨y1, y2⟩ => .inl ⟨y1, by
      have q := y2 vs (SqT.of e4)
      rw [h1] at q
      cases q
      exact Hv.mono g1 _ h2⟩⟩
def rngD (lo : Int) (n : Nat) : List PyData := (List.range n).map fun i => .int (lo + (i : Nat))
theorem rngD_len (lo : Int) (n : Nat) : (rngD lo n).length = n := by simp [rngD]
theorem rngD_get {lo : Int} {n i : Nat} {u : PyData} (h : (rngD lo n)[i]? = some u) : i < n ∧ u = .int (lo + (i : Nat)) := by
  unfold rngD at h
  rw [List.getElem?_map] at h
  by_cases z : i < n
  · rw [List.getElem?_range z] at h
    exact ⟨z, (Option.some.inj h).symm⟩
  · rw [List.getElem?_eq_none (by simpa using z)] at h
    cases h
theorem isIt_rng {lo : Int} {n : Nat} : IsIt K (Itr lo n) G (rngD lo n) := fun G2 H2 g1 g2 => by
  refine ⟨fun i hi => by rw [rngD_len] at hi; exact hi, fun i u hu => ?_⟩
  obtain ⟨h1, rfl⟩ := rngD_get hu
  exact ⟨h1, fun x H' ⟨y1, y2⟩ => .inl ⟨y1, by rw [y2]; exact .int _⟩⟩
theorem ei_rng1 {n : Int} (h : Ev K δ R ta (.d (.int n))) (hn : 0 ≤ n ∧ n ≤ 50000) : EvI K δ R (iRng1 (tCons ta tNil)) (rngD 0 n.toNat) := fun G H σ Q ok en k => h G H σ _ ok en fun v G1 H1 ok1 l1 q1 => by
  cases (show Hv G1 v (.int n) from q1)
  exact ⟨n, rfl, by omega, by omega, k _ G1 H1 ok1 l1 (by rw [rngD_len]; omega) isIt_rng⟩
theorem ei_rng2 {a n : Int} (h1 : Ev K δ R ta (.d (.int a))) (h2 : Ev K δ R tb (.d (.int n))) (hn : -50000 ≤ a ∧ a ≤ n + 1 ∧ n ≤ 50000 ∧ n - a ≤ 50000) : EvI K δ R (iRng2 (tCons ta (tCons tb tNil))) (rngD a (n - a).toNat) := fun G H σ Q ok en k =>
  h1 G H σ _ ok en fun v G1 H1 ok1 l1 q1 => h2 G1 H1 σ _ ok1 (en.mono l1.g) fun w G2 H2 ok2 l2 q2 => by
    cases (show Hv G1 v (.int a) from q1)
    cases (show Hv G2 w (.int n) from q2)
    exact ⟨a, n, rfl, ⟨by omega, by omega, by omega, by omega⟩, k _ G2 H2 ok2 (l1.trans l2) (by rw [rngD_len]; omega) isIt_rng⟩
/-- reversed(range(a, n)) -/
theorem ei_revR {a n : Int} (h1 : Ev K δ R ta (.d (.int a))) (h2 : Ev K δ R tb (.d (.int n))) (hn : -50000 ≤ a ∧ a ≤ n + 1 ∧ n ≤ 50000 ∧ n - a ≤ 50000) : EvI K δ R (iRevR (tRg2 ta tb)) (rngD a (n - a).toNat).reverse := fun G H σ Q ok en k =>
  h1 G H σ _ ok en fun v G1 H1 ok1 l1 q1 => h2 G1 H1 σ _ ok1 (en.mono l1.g) fun w G2 H2 ok2 l2 q2 => by
    cases (show Hv G1 v (.int a) from q1)
    cases (show Hv G2 w (.int n) from q2)
    refine ⟨a, n, rfl, rfl, by omega, by omega, by omega, by omega, k _ G2 H2 ok2 (l1.trans l2) (by rw [List.length_reverse, rngD_len]; omega) fun G3 H3 g1 g2 => ⟨fun i hi => by rw [List.length_reverse, rngD_len] at hi; exact hi, fun i u hu => ?_⟩⟩
    obtain ⟨hi, e⟩ := List.getElem?_eq_some_iff.mp hu
    have hi' := hi
    rw [List.length_reverse, rngD_len] at hi'
    rw [List.getElem_reverse] at e
    have e2 : (rngD a (n - a).toNat)[(rngD a (n - a).toNat).length - 1 - i]? = some u := by
      rw [← e]
      exact List.getElem?_eq_getElem _
    obtain ⟨_, rfl⟩ := rngD_get e2
    rw [rngD_len]
    refine ⟨hi', fun x H' ⟨y1, y2⟩ => .inl ⟨y1, ?_⟩⟩
    rw [y2]
    have e3 : a + (((n - a).toNat : Nat) : Int) - 1 + (i : Nat) * -1 = a + (((n - a).toNat - 1 - i : Nat) : Int) := by omega
    rw [e3]
    exact .int _
/-- the signs of a text -/
def sgnD (z : Str) : List PyData := z.cps.toList.map fun c => .str ⟨#[c]⟩
theorem ei_str {z : Str} (h : Ev K δ R te (.d (.str z))) (hz : z.cps.size ≤ 50000) : EvI K δ R (iStr te) (sgnD z) := fun G H σ Q ok en k => h G H σ _ ok en fun v G1 H1 ok1 l1 q1 => by
  cases (show Hv G1 v (.str z) from q1)
  have e1 : (sgnD z).length = z.cps.size := by simp [sgnD]
  refine ⟨z, rfl, k _ G1 H1 ok1 l1 (by omega) fun G2 H2 g1 g2 => ⟨fun i hi => by rw [e1] at hi; exact hi, fun i u hu => ?_⟩⟩
  have hi : i < z.cps.size := by rw [← e1]; exact (List.getElem?_eq_some_iff.mp hu).1
  refine ⟨hi, fun x H' ⟨y1, c, y2, y3⟩ => .inl ⟨y1, ?_⟩⟩
  unfold sgnD at hu
  rw [List.getElem?_map, Array.getElem?_toList, y2] at hu
  rw [y3, ← Option.some.inj hu]
  exact .str _

theorem zip_get {α β : Type} : ∀ {xs : List α} {ys : List β} {i : Nat} {p : α × β}, (xs.zip ys)[i]? = some p → xs[i]? = some p.1 ∧ ys[i]? = some p.2
  | [], ys, i, p, h => by simp at h
  | x :: xs, [], i, p, h => by simp at h
  | x :: xs, y :: ys, 0, p, h => by simp at h; subst h; exact ⟨rfl, rfl⟩
  | x :: xs, y :: ys, i + 1, p, h => by
    have := zip_get (xs := xs) (ys := ys) (i := i) (p := p) (by simpa using h)
    simpa using this
/-- zip of two lists -/
def zipD (xs ys : List PyData) : List PyData := (xs.zip ys).map fun p => .tuple [p.1, p.2]
theorem ei_zip {xs ys : List PyData} (h1 : Ev K δ R ta (.d (.list xs))) (h2 : Ev K δ R tb (.d (.list ys))) : EvI K δ R (iZip K (tCons ta (tCons tb tNil))) (zipD xs ys) := fun G H σ Q ok en k =>
  h1 G H σ _ ok en fun v G1 H1 ok1 l1 q1 => h2 G1 H1 σ _ ok1 (en.mono l1.g) fun w G2 H2 ok2 l2 q2 => by
    cases (show Hv G2 v (.list xs) from q1.mono l2.g) with
    | @lst a vs _ e1 e2 e3 =>
      cases (show Hv G2 w (.list ys) from q2) with
      | @lst b ws _ f1 f2 f3 =>
        have a1 := e3.len
        have a2 := f3.len
        have zl : (zipD xs ys).length = min xs.length ys.length := by simp [zipD]
        refine ⟨a, b, vs, ws, rfl, SqL.of (ok2.ex _ _ e1), SqL.of (ok2.ex _ _ f1), k _ G2 H2 ok2 (l1.trans l2) (by omega) fun G3 H3 g1 g2 => ⟨fun i hi => ⟨vs, ws, SqL.of (g2 _ _ (g1 _ _ e1)), SqL.of (g2 _ _ (g1 _ _ f1)), by omega⟩, fun i u hu => ?_⟩⟩
        unfold zipD at hu
        rw [List.getElem?_map] at hu
        cases hz : (xs.zip ys)[i]? with
        | none => rw [hz] at hu; cases hu
        | some p =>
          rw [hz] at hu
          obtain ⟨p1, p2⟩ := zip_get hz
          obtain ⟨v', b1, b2⟩ := e3.getd p1
          obtain ⟨w', c1, c2⟩ := f3.getd p2
          have s1 := SqL.of (K := K) (g2 _ _ (g1 _ _ e1))
          have s2 := SqL.of (K := K) (g2 _ _ (g1 _ _ f1))
          refine ⟨⟨vs, ws, v', w', s1, s2, b1, c1⟩, fun x H' ⟨T, x1, x2, t1, t2, t3, t4, t5⟩ => .inr ⟨T, [x1, x2], [p.1, p.2], t2, t3, by show 2 ≤ 50000; decide, t1, ?_, (Option.some.inj hu).symm⟩⟩
          have t4 := t4 vs s1
          have t5 := t5 ws s2
          rw [b1] at t4
          rw [c1] at t5
          cases t4
          cases t5
          exact .cons (Hv.mono g1 _ b2) (.cons (Hv.mono g1 _ c2) .nil)
/-! ### targets -/
def EvG (K : PySem.W.Frag) (δ : DEnv) (g : TG) (u : PyData) (δ' : DEnv) : Prop := ∀ (G H : Hp) (R : Res) (σ : L2.St) (v : V) (Q : L2.St → Hp → Prop), Ok K G H R → DE K G σ δ → Hv G v u → (∀ σ', DE K G σ' δ' → Q σ' H) → g v σ H Q
theorem eg_name {i : Nat} {u : PyData} : EvG K δ (gName i) u (δ.set i (some (.d u))) := fun G H R σ v Q ok en h k => k _ (en.set h)
theorem eg_tup2 {i j : Nat} {a b : PyData} : EvG K δ (gTup K 2 (gCons (gName i) (gCons (gName j) gNil))) (.tuple [a, b]) ((δ.set i (some (.d a))).set j (some (.d b))) := fun G H R σ v Q ok en h k => by
  cases h with
  | tup e1 e2 e3 =>
    cases e3 with
    | cons h1 h2 =>
      cases h2 with
      | cons h3 h4 =>
        cases h4
        exact ⟨_, _, rfl, SqT.of (ok.ex _ _ e1), rfl, _, _, rfl, _, _, rfl, rfl, k _ ((en.set (d := .d a) h1).set (d := .d b) h3)⟩
theorem eg_tup4 {i j k l : Nat} {a b c e : PyData} : EvG K δ (gTup K 4 (gCons (gName i) (gCons (gName j) (gCons (gName k) (gCons (gName l) gNil))))) (.tuple [a, b, c, e]) ((((δ.set i (some (.d a))).set j (some (.d b))).set k (some (.d c))).set l (some (.d e))) := fun G H R σ v Q ok en h kk => by
  cases h with
  | tup e1 e2 e3 =>
    cases e3 with
    | cons h1 t1 => cases t1 with
      | cons h2 t2 => cases t2 with
        | cons h3 t3 => cases t3 with
          | cons h4 t4 =>
            cases t4
            exact ⟨_, _, rfl, SqT.of (ok.ex _ _ e1), rfl, _, _, rfl, _, _, rfl, _, _, rfl, _, _, rfl, rfl, kk _ ((((en.set (d := .d a) h1).set (d := .d b) h2).set (d := .d c) h3).set (d := .d e) h4)⟩
/-! ### comprehensions -/
theorem ok_pre {p : Addr × RO} (ok : Ok K G H (p :: R)) : Ok K G H R := Ok.part (A := [p]) (B := []) (by simpa using ok)
theorem ok_pre_whole {p : Addr × RO} {R' : Res} (ok : Ok K G H (p :: R)) (ok' : Ok K G' H' R') (le : Le G H R G' H' R') : Ok K G' H' (p :: R') ∧ Le G H (p :: R) G' H' (p :: R') := by
  have q := Ok.whole (A := [p]) (B := []) (by simpa using ok) ok' le
  simpa using q
/-- [te for target in wi if tt]: the turns' data are us; f tells which stay, g what is made -/
theorem evf_lcG {wi : TI} {j : Nat} {tt : TT} {vs : List Nat} {us : List PyData} (f : Nat → Bool) (g : Nat → PyData) (hi : EvI K δ R wi us) (hj : j ∈ vs)
    (ht : ∀ (i : Nat) (u : PyData), us[i]? = some u → EvT K ((wipeD δ vs).set j (some (.d u))) R tt (f i))
    (he : ∀ (i : Nat) (u : PyData), us[i]? = some u → f i = true → Ev K ((wipeD δ vs).set j (some (.d u))) R te (.d (g i))) :
    EvF K δ R (tLc wi (gName j) tt te vs) (((List.range us.length).filter f).map g) := fun G H σ Q ok en k => hi G H σ _ ok en fun J G1 H1 ok1 l1 hlen it => by
  intro Dl hD
  let acc := fun n => ((List.range n).filter f).map g
  have acc_len : ∀ n, (acc n).length ≤ n := fun n => by
    show (((List.range n).filter f).map g).length ≤ n
    rw [List.length_map]
    exact Nat.le_trans (List.length_filter_le _ _) (by simp)
  have acc_yes : ∀ n, f n = true → acc (n + 1) = acc n ++ [g n] := fun n h => by
    show ((List.range (n + 1)).filter f).map g = ((List.range n).filter f).map g ++ [g n]
    rw [List.range_succ, List.filter_append, List.map_append, List.filter_cons, if_pos h]
    rfl
  have acc_no : ∀ n, f n = false → acc (n + 1) = acc n := fun n h => by
    show ((List.range (n + 1)).filter f).map g = ((List.range n).filter f).map g
    rw [List.range_succ, List.filter_append, List.map_append, List.filter_cons, if_neg (by rw [h]; decide)]
    simp
  let W : Nat → Hp → Prop := fun n H2 => ∃ G2, Ok K G2 H2 ((Dl, .lst (acc n)) :: R) ∧ Le G H R G2 H2 ((Dl, .lst (acc n)) :: R) ∧ Gx G1 G2
  have start : W 0 (upd H1 Dl (.lst [])) := by
    obtain ⟨ok2, l2⟩ := ok1.laid (p := Dl) (o := .lst []) (q := .lst []) hD ⟨[], upd_same, Nat.zero_le _, .nil⟩
    exact ⟨G1, ok2, l1.trans l2, Gx.refl _⟩
  refine ⟨fun i m H2 => m = us.length - i ∧ i ≤ us.length ∧ W i H2, ⟨us.length, by simp, Nat.zero_le _, start⟩, ?_⟩
  rintro i m H2 ⟨rfl, hle, G2, ok2, l2, gx⟩
  obtain ⟨st, go⟩ := it G2 H2 gx ok2.ex
  by_cases hlt : i < us.length
  · obtain ⟨u, hu⟩ : ∃ u, us[i]? = some u := ⟨us[i], List.getElem?_eq_getElem hlt⟩
    obtain ⟨hg, hy⟩ := go i u hu
    refine .inr ⟨hg, W (i + 1), fun H' p => ⟨us.length - (i + 1), by omega, rfl, hlt, p⟩, fun x H3 y => ?_⟩
    obtain ⟨G3, ok3, l3, hv⟩ := (hy x H3 y).ok (ok_pre ok2)
    obtain ⟨ok3', l3'⟩ := ok_pre_whole ok2 ok3 l3
    have enw : DE K G3 (L2.wipe σ vs) (wipeD δ vs) := (en.wipe vs).mono (l2.g.trans l3.g)
    show L2.wipe ((L2.wipe σ vs).set j (some x)) vs = L2.wipe σ vs ∧ _
    refine ⟨wipe_set hj, ht i u hu G3 H3 _ _ ok3 (enw.set (d := .d u) hv) fun G4 H4 ok4 l4 => ?_⟩
    obtain ⟨ok4', l4'⟩ := ok_pre_whole ok3' ok4 l4
    cases hf : f i with
    | true =>
      rw [if_pos rfl]
      refine he i u hu hf G4 H4 _ _ ok4 ((enw.set (d := .d u) hv).mono l4.g) fun y G5 H5 ok5 l5 q5 => ?_
      obtain ⟨ok5', l5'⟩ := ok_pre_whole ok4' ok5 l5
      obtain ⟨ws, e1, e2, e3⟩ := ok5'.at (i := 0) rfl
      have el := e3.len
      have al := acc_len i
      refine ⟨ws, e1, lim_lt e2, G5, ?_⟩
      have w := ok5'.write (i := 0) (a := Dl) (o := .lst (ws ++ [y])) (q := .lst (acc (i + 1))) rfl ⟨_, upd_same, by rw [List.length_append]; show ws.length + 1 ≤ 50000; omega, by rw [acc_yes i hf]; exact e3.app (.cons q5 .nil)⟩
      obtain ⟨ok6, l6⟩ := w
      exact ⟨ok6, (((l2.trans l3').trans l4').trans l5').trans l6, ((gx.trans l3.g).trans l4.g).trans l5.g⟩
    | false =>
      rw [if_neg Bool.false_ne_true]
      refine ⟨G4, ?_⟩
      rw [acc_no i hf]
      exact ⟨ok4', (l2.trans l3').trans l4', (gx.trans l3.g).trans l4.g⟩
  · have e : i = us.length := by omega
    subst e
    exact .inl ⟨st _ (Nat.le_refl _), k Dl G2 H2 ok2 l2⟩
theorem filter_range_map {α β : Type} (xs : List α) (p : α → Bool) (h : α → β) (f : Nat → Bool) (g : Nat → β) (hf : ∀ i x, xs[i]? = some x → f i = p x) (hg : ∀ i x, xs[i]? = some x → g i = h x) :
    ((List.range xs.length).filter f).map g = (xs.filter p).map h := by
  have all : ∀ n, n ≤ xs.length → ((List.range n).filter f).map g = ((xs.take n).filter p).map h := by
    intro n
    induction n with
    | zero => intro _; simp
    | succ n ih =>
      intro hn
      have e1 : xs[n]? = some xs[n] := List.getElem?_eq_getElem (by omega)
      have q1 := hf _ _ e1
      have q2 := hg _ _ e1
      rw [List.range_succ, List.filter_append, List.map_append, ih (by omega), List.take_succ, e1, List.filter_append, List.map_append]
      congr 1
      cases hp : p xs[n] with
      | true => simp [q1, q2, hp]
      | false => simp [q1, q2, hp]
  have q := all xs.length (Nat.le_refl _)
  rw [List.take_length] at q
  exact q
/-- over a list of α, told by enc -/
theorem evf_lcI {α : Type} {wi : TI} {j : Nat} {tt : TT} {vs : List Nat} {xs : List α} {enc : α → PyData} (f : α → Bool) (g : α → PyData) (hi : EvI K δ R wi (xs.map enc)) (hj : j ∈ vs)
    (ht : ∀ x ∈ xs, EvT K ((wipeD δ vs).set j (some (.d (enc x)))) R tt (f x)) (he : ∀ x ∈ xs, f x = true → Ev K ((wipeD δ vs).set j (some (.d (enc x)))) R te (.d (g x))) :
    EvF K δ R (tLc wi (gName j) tt te vs) ((xs.filter f).map g) := by
  have get : ∀ (i : Nat) (u : PyData), (xs.map enc)[i]? = some u → ∃ x, xs[i]? = some x ∧ x ∈ xs ∧ u = enc x := fun i u h => by
    rw [List.getElem?_map] at h
    cases e : xs[i]? with
    | none => rw [e] at h; cases h
    | some x => rw [e] at h; exact ⟨x, rfl, List.mem_of_getElem? e, (Option.some.inj h).symm⟩
  refine evf_is (evf_lcG (fun i => match xs[i]? with | some x => f x | none => false) (fun i => match xs[i]? with | some x => g x | none => .none) hi hj (fun i u hu => ?_) (fun i u hu hf => ?_)) ?_
  · obtain ⟨x, e, m, rfl⟩ := get i u hu
    simp only [e]
    exact ht x m
  · obtain ⟨x, e, m, rfl⟩ := get i u hu
    simp only [e] at hf ⊢
    exact he x m hf
  · rw [List.length_map]
    exact filter_range_map xs f g _ _ (fun i x e => by simp only [e]) (fun i x e => by simp only [e])
/-- the same without a test -/
theorem evf_lcI0 {α : Type} {wi : TI} {j : Nat} {vs : List Nat} {xs : List α} {enc : α → PyData} (g : α → PyData) (hi : EvI K δ R wi (xs.map enc)) (hj : j ∈ vs)
    (he : ∀ x ∈ xs, Ev K ((wipeD δ vs).set j (some (.d (enc x)))) R te (.d (g x))) : EvF K δ R (tLc wi (gName j) tYes te vs) (xs.map g) :=
  evf_is (evf_lcI (fun _ => true) g hi hj (fun _ _ => et_yes) fun x m _ => he x m) (by rw [List.filter_eq_self.mpr (fun _ _ => rfl)])
theorem ei_is {wi : TI} {us ws : List PyData} (h : EvI K δ R wi us) (e : us = ws) : EvI K δ R wi ws := e ▸ h
end
end Fl
/-! Statements, calls, defs. -/
namespace Fl
open PySem PySem.Spec PyProof.Rows L2
/-- an expression that may change what is owned, or raise -/
def EvE (K : PySem.W.Frag) (Ek : WX) (δ : DEnv) (R : Res) (te : TE) (N : D → Res → Prop) (M : Value → Res → Prop) : Prop := ∀ (G H : Hp) (σ : L2.St) (Q : VK), Ok K G H R → DE K G σ δ →
  (∀ d R' v G' H', N d R' → Ok K G' H' R' → Le G H R G' H' R' → HD K G' v d → Q v H') → (∀ c R' G' H', M c R' → Ok K G' H' R' → Le G H R G' H' R' → Ek c none σ H') → te σ H Q
/-- what is wanted behind a statement -/
structure Post where
  nx : DEnv → Res → Prop
  rt : D → Res → Prop
  bk : DEnv → Res → Prop
  ct : DEnv → Res → Prop
  xe : Value → DEnv → Res → Prop
structure Cn (K : PySem.W.Frag) (Ek : WX) (P : Post) (D : Ends) (G H : Hp) (R : Res) : Prop where
  nx : ∀ δ' R' σ' G' H', P.nx δ' R' → Ok K G' H' R' → Le G H R G' H' R' → DE K G' σ' δ' → D.nx σ' H'
  rt : ∀ d R' v G' H', P.rt d R' → Ok K G' H' R' → Le G H R G' H' R' → HD K G' v d → D.rt v H'
  bk : ∀ δ' R' σ' G' H', P.bk δ' R' → Ok K G' H' R' → Le G H R G' H' R' → DE K G' σ' δ' → D.bk σ' H'
  ct : ∀ δ' R' σ' G' H', P.ct δ' R' → Ok K G' H' R' → Le G H R G' H' R' → DE K G' σ' δ' → D.ct σ' H'
  xe : ∀ c δ' R' σ' G' H', P.xe c δ' R' → Ok K G' H' R' → Le G H R G' H' R' → DE K G' σ' δ' → Ek c none σ' H'
def XS (K : PySem.W.Frag) (Ek : WX) (δ : DEnv) (R : Res) (t : TS) (P : Post) : Prop := ∀ (G H : Hp) (σ : L2.St) (D : Ends), Ok K G H R → DE K G σ δ → Cn K Ek P D G H R → t D σ H
section
variable {K : PySem.W.Frag} {Ek : WX} {G G' H H' : Hp} {R R' : Res} {δ δ' : DEnv} {ta tb tc te tl : TE} {d x y z : D} {r : R2} {t u : TS} {P : Post} {tt : TT} {D : Ends}
theorem Cn.mono (c : Cn K Ek P D G H R) (le : Le G H R G' H' R') : Cn K Ek P D G' H' R' :=
  ⟨fun a b e f g p q l => c.nx a b e f g p q (le.trans l), fun a b e f g p q l => c.rt a b e f g p q (le.trans l), fun a b e f g p q l => c.bk a b e f g p q (le.trans l), fun a b e f g p q l => c.ct a b e f g p q (le.trans l), fun a b e f g h p q l => c.xe a b e f g h p q (le.trans l)⟩
/-! ### expressions as such -/
theorem ee_ev {N : Fl.D → Res → Prop} {M : Value → Res → Prop} (h : Ev K δ R te d) (n : N d R) : EvE K Ek δ R te N M := fun G H σ Q ok en k _ => h G H σ Q ok en fun v G' H' ok' le hv => k d R v G' H' n ok' le hv
theorem ee_evf {ds : List PyData} {N : Fl.D → Res → Prop} {M : Value → Res → Prop} (h : EvF K δ R te ds) (n : ∀ a, N (.r a) ((a, .lst ds) :: R)) : EvE K Ek δ R te N M := fun G H σ Q ok en k _ => h G H σ Q ok en fun a G' H' ok' le => k _ _ _ G' H' (n a) ok' le rfl
theorem EvE.mono {N N' : Fl.D → Res → Prop} {M M' : Value → Res → Prop} (h : EvE K Ek δ R te N M) (n : ∀ d R', N d R' → N' d R') (m : ∀ c R', M c R' → M' c R') : EvE K Ek δ R te N' M' := fun G H σ Q ok en k j =>
  h G H σ Q ok en (fun d R' v G' H' q => k d R' v G' H' (n d R' q)) fun c R' G' H' q => j c R' G' H' (m c R' q)
theorem ev_ee (h : EvE K (fun _ _ _ _ => False) δ R te (fun d' R' => d' = d ∧ R' = R) fun _ _ => False) : Ev K δ R te d := fun G H σ Q ok en k => h G H σ Q ok en (fun d' R' v G' H' q ok' le hv => by
  obtain ⟨rfl, rfl⟩ := q
  exact k v G' H' ok' le hv) fun c R' G' H' q => q.elim
/-! ### blocks -/
theorem x_nil (h : P.nx δ R) : XS K Ek δ R tNext P := fun G H σ D ok en c => c.nx δ R σ G H h ok .refl en
theorem x_seq (h : XS K Ek δ R t { P with nx := fun δ' R' => XS K Ek δ' R' u P }) : XS K Ek δ R (tSeq t u) P := fun G H σ D ok en c =>
  h G H σ { D with nx := u D } ok en ⟨fun δ' R' σ' G' H' q ok' le en' => q G' H' σ' D ok' en' (c.mono le), c.rt, c.bk, c.ct, c.xe⟩
theorem XS.post {P' : Post} (h : XS K Ek δ R t P) (n : ∀ δ' R', P.nx δ' R' → P'.nx δ' R') (r : ∀ d R', P.rt d R' → P'.rt d R') (b : ∀ δ' R', P.bk δ' R' → P'.bk δ' R') (c : ∀ δ' R', P.ct δ' R' → P'.ct δ' R') (x : ∀ e δ' R', P.xe e δ' R' → P'.xe e δ' R') : XS K Ek δ R t P' :=
  fun G H σ D ok en k => h G H σ D ok en ⟨fun a b' e f g p => k.nx a b' e f g (n _ _ p), fun a b' e f g p => k.rt a b' e f g (r _ _ p), fun a b' e f g p => k.bk a b' e f g (b _ _ p), fun a b' e f g p => k.ct a b' e f g (c _ _ p), fun a b' e f g h' p => k.xe a b' e f g h' (x _ _ _ p)⟩
theorem x_brk (h : P.bk δ R) : XS K Ek δ R tBreak P := fun G H σ D ok en c => c.bk δ R σ G H h ok .refl en
theorem x_cont (h : P.ct δ R) : XS K Ek δ R tCont P := fun G H σ D ok en c => c.ct δ R σ G H h ok .refl en
/-! ### x = e, the general form, a datum, an own list -/
theorem x_asgE {i : Nat} {N : Fl.D → Res → Prop} {M : Value → Res → Prop} (h : EvE K Ek δ R te N M) (n : ∀ d R', N d R' → P.nx (δ.set i (some d)) R') (m : ∀ c R', M c R' → P.xe c δ R') : XS K Ek δ R (tAsg te (gName i)) P := fun G H σ D ok en c =>
  h G H σ _ ok en (fun d R' v G' H' q ok' le hv => c.nx _ R' _ G' H' (n d R' q) ok' le ((en.mono le.g).set hv)) fun e R' G' H' q ok' le => c.xe e δ R' σ G' H' (m e R' q) ok' le (en.mono le.g)
theorem x_asg {i : Nat} (h : Ev K δ R te d) (n : P.nx (δ.set i (some d)) R) : XS K Ek δ R (tAsg te (gName i)) P := fun G H σ D ok en c =>
  h G H σ _ ok en fun v G' H' ok' le hv => c.nx _ R _ G' H' n ok' le ((en.mono le.g).set hv)
theorem x_asgF {i : Nat} {ds : List PyData} (h : EvF K δ R te ds) (n : ∀ a, P.nx (δ.set i (some (.r a))) ((a, .lst ds) :: R)) : XS K Ek δ R (tAsg te (gName i)) P := fun G H σ D ok en c =>
  h G H σ _ ok en fun a G' H' ok' le => c.nx _ _ _ G' H' (n a) ok' le ((en.mono le.g).set (d := .r a) rfl)
theorem x_asgG {g : TG} {w : PyData} (h : Ev K δ R te (.d w)) (hg : EvG K δ g w δ') (n : P.nx δ' R) : XS K Ek δ R (tAsg te g) P := fun G H σ D ok en c =>
  h G H σ _ ok en fun v G' H' ok' le hv => hg G' H' R σ v _ ok' (en.mono le.g) hv fun σ' en' => c.nx _ R _ G' H' n ok' le en'
/-! ### return, drop -/
theorem x_ret (h : Ev K δ R te d) (n : P.rt d R) : XS K Ek δ R (tRet te) P := fun G H σ D ok en c => h G H σ _ ok en fun v G' H' ok' le hv => c.rt d R v G' H' n ok' le hv
theorem x_retE {N : Fl.D → Res → Prop} {M : Value → Res → Prop} (h : EvE K Ek δ R te N M) (n : ∀ d R', N d R' → P.rt d R') (m : ∀ c R', M c R' → P.xe c δ R') : XS K Ek δ R (tRet te) P := fun G H σ D ok en c =>
  h G H σ _ ok en (fun d R' v G' H' q ok' le hv => c.rt d R' v G' H' (n d R' q) ok' le hv) fun e R' G' H' q ok' le => c.xe e δ R' σ G' H' (m e R' q) ok' le (en.mono le.g)
theorem x_retF {ds : List PyData} (h : EvF K δ R te ds) (n : ∀ a, P.rt (.r a) ((a, .lst ds) :: R)) : XS K Ek δ R (tRet te) P := fun G H σ D ok en c => h G H σ _ ok en fun a G' H' ok' le => c.rt _ _ _ G' H' (n a) ok' le rfl
theorem x_retN (n : P.rt (.d .none) R) : XS K Ek δ R tRetN P := fun G H σ D ok en c => c.rt _ R _ G H n ok .refl (show Hv G .non .none from .non)
theorem x_drop (h : Ev K δ R te d) (n : P.nx δ R) : XS K Ek δ R (tDrop te) P := fun G H σ D ok en c => h G H σ _ ok en fun v G' H' ok' le hv => c.nx δ R σ G' H' n ok' le (en.mono le.g)
theorem x_dropE {N : Fl.D → Res → Prop} {M : Value → Res → Prop} (h : EvE K Ek δ R te N M) (n : ∀ d R', N d R' → P.nx δ R') (m : ∀ c R', M c R' → P.xe c δ R') : XS K Ek δ R (tDrop te) P := fun G H σ D ok en c =>
  h G H σ _ ok en (fun d R' v G' H' q ok' le hv => c.nx δ R' σ G' H' (n d R' q) ok' le (en.mono le.g)) fun e R' G' H' q ok' le => c.xe e δ R' σ G' H' (m e R' q) ok' le (en.mono le.g)
/-! ### if -/
theorem x_if {b : Bool} (h : EvT K δ R tt b) (h1 : b = true → XS K Ek δ R t P) (h2 : b = false → XS K Ek δ R u P) : XS K Ek δ R (tIfS tt t u) P := fun G H σ D ok en c => h G H σ _ ok en fun G' H' ok' le => by
  cases b with
  | true =>
    rw [if_pos rfl]
    exact h1 rfl G' H' σ D ok' (en.mono le.g) (c.mono le)
  | false =>
    rw [if_neg Bool.false_ne_true]
    exact h2 rfl G' H' σ D ok' (en.mono le.g) (c.mono le)
/-! ### for, while -/
/-- I: the turn, the slots, what is owned -/
theorem x_for {wi : TI} {g : TG} {us : List PyData} (I : Nat → DEnv → Res → Prop) (h : EvI K δ R wi us) (h0 : I 0 δ R)
    (hs : ∀ (i : Nat) (w : PyData) δ' R', us[i]? = some w → I i δ' R' → ∃ δ2, EvG K δ' g w δ2 ∧ XS K Ek δ2 R' t { P with nx := I (i + 1), ct := I (i + 1), bk := P.nx })
    (hd : ∀ δ' R', I us.length δ' R' → P.nx δ' R') : XS K Ek δ R (tFor wi g t) P := fun G H σ D ok en c => h G H σ _ ok en fun J G1 H1 ok1 l1 hlen it => by
  refine ⟨fun i m σ2 H2 => m = us.length - i ∧ i ≤ us.length ∧ ∃ δ2 R2 G2, I i δ2 R2 ∧ Ok K G2 H2 R2 ∧ Le G H R G2 H2 R2 ∧ Gx G1 G2 ∧ DE K G2 σ2 δ2, ⟨us.length, by simp, Nat.zero_le _, δ, R, G1, h0, ok1, l1, Gx.refl _, en.mono l1.g⟩, ?_⟩
  rintro i m σ2 H2 ⟨rfl, hle, δ2, R2, G2, hI, ok2, l2, gx, en2⟩
  obtain ⟨st, go⟩ := it G2 H2 gx ok2.ex
  by_cases hlt : i < us.length
  · obtain ⟨w, hw⟩ : ∃ w, us[i]? = some w := ⟨us[i], List.getElem?_eq_getElem hlt⟩
    obtain ⟨hg, hy⟩ := go i w hw
    refine .inr ⟨hg, fun σ' H' => ∃ δ3 R3 G3, I (i + 1) δ3 R3 ∧ Ok K G3 H' R3 ∧ Le G H R G3 H' R3 ∧ Gx G1 G3 ∧ DE K G3 σ' δ3, fun σ' H' p => ⟨us.length - (i + 1), by omega, rfl, hlt, p⟩, fun v H3 q => ?_⟩
    obtain ⟨G3, ok3, l3, hv⟩ := (hy v H3 q).ok ok2
    obtain ⟨δ4, eg, xs⟩ := hs i w δ2 R2 hw hI
    refine eg G3 H3 R2 σ2 v _ ok3 (en2.mono l3.g) hv fun σ4 en4 => ?_
    have c3 := c.mono (l2.trans l3)
    exact xs G3 H3 σ4 _ ok3 en4 ⟨fun a b e f g' p q' l w' => ⟨a, b, f, p, q', (l2.trans l3).trans l, (gx.trans l3.g).trans l.g, w'⟩, c3.rt, fun a b e f g' p q' l w' => c3.nx a b e f g' p q' l w', fun a b e f g' p q' l w' => ⟨a, b, f, p, q', (l2.trans l3).trans l, (gx.trans l3.g).trans l.g, w'⟩, c3.xe⟩
  · have e : i = us.length := by omega
    subst e
    exact .inl ⟨st _ (Nat.le_refl _), c.nx δ2 R2 σ2 G2 H2 (hd δ2 R2 hI) ok2 l2 en2⟩
/-- I: a measure that falls, the slots, what is owned -/
theorem x_while (I : Nat → DEnv → Res → Prop) (m : Nat) (h0 : I m δ R)
    (hs : ∀ m δ' R', I m δ' R' → ∃ b, EvT K δ' R' tt b ∧ (b = true → XS K Ek δ' R' t { P with nx := fun δ2 R2 => ∃ m', m' < m ∧ I m' δ2 R2, ct := fun δ2 R2 => ∃ m', m' < m ∧ I m' δ2 R2, bk := P.nx }) ∧ (b = false → P.nx δ' R')) : XS K Ek δ R (tWhile tt t) P := fun G H σ D ok en c => by
  refine ⟨fun m σ2 H2 => ∃ δ2 R2 G2, I m δ2 R2 ∧ Ok K G2 H2 R2 ∧ Le G H R G2 H2 R2 ∧ DE K G2 σ2 δ2, ⟨m, δ, R, G, h0, ok, .refl, en⟩, ?_⟩
  rintro m σ2 H2 ⟨δ2, R2, G2, hI, ok2, l2, en2⟩
  obtain ⟨b, ht, h1, h2⟩ := hs m δ2 R2 hI
  refine ht G2 H2 σ2 _ ok2 en2 fun G3 H3 ok3 l3 => ?_
  have c3 := c.mono (l2.trans l3)
  cases b with
  | true =>
    rw [if_pos rfl]
    refine ⟨fun σ' H' => ∃ m', m' < m ∧ ∃ δ2 R2 G2, I m' δ2 R2 ∧ Ok K G2 H' R2 ∧ Le G H R G2 H' R2 ∧ DE K G2 σ' δ2, fun σ' H' p => p, h1 rfl G3 H3 σ2 _ ok3 (en2.mono l3.g) ⟨fun a b e f g' p q' l w' => ?_, c3.rt, c3.nx, fun a b e f g' p q' l w' => ?_, c3.xe⟩⟩
    · obtain ⟨m', hm, p⟩ := p
      exact ⟨m', hm, a, b, f, p, q', (l2.trans l3).trans l, w'⟩
    · obtain ⟨m', hm, p⟩ := p
      exact ⟨m', hm, a, b, f, p, q', (l2.trans l3).trans l, w'⟩
  | false =>
    rw [if_neg Bool.false_ne_true]
    exact c.nx δ2 R2 σ2 G3 H3 (h2 rfl) ok3 (l2.trans l3) (en2.mono l3.g)
/-! ### owned objects change -/
/-- xs.append(e) -/
theorem x_app {i : Nat} {a : Addr} {ds : List PyData} {w : PyData} (h1 : Ev K δ R ta (.r a)) (hi : R[i]? = some (a, .lst ds)) (h : Ev K δ R te (.d w)) (hz : ds.length < 50000) (n : P.nx δ (R.set i (a, .lst (ds ++ [w])))) :
    XS K Ek δ R (tDrop (tBM K "list" rAppend ta (tCons te tNil))) P := fun G H σ D ok en c => h1 G H σ _ ok en fun v G1 H1 ok1 l1 q1 => by
  cases (show v = .ref a from q1)
  obtain ⟨ws, e1, _, _⟩ := ok1.at hi
  refine ⟨.inl ⟨rfl, ws, SqL.of e1⟩, h G1 H1 σ _ ok1 (en.mono l1.g) fun u G2 H2 ok2 l2 q2 => ?_⟩
  obtain ⟨vs, e2, e3, e4⟩ := ok2.at hi
  have el := e4.len
  refine ⟨a, vs, u, rfl, rfl, e2, lim_lt e3, ?_⟩
  obtain ⟨ok3, l3⟩ := ok2.write (o := .lst (vs ++ [u])) (q := .lst (ds ++ [w])) hi ⟨_, upd_same, by rw [List.length_append]; show vs.length + 1 ≤ 50000; omega, e4.app (.cons q2 .nil)⟩
  exact c.nx δ _ σ _ _ n ok3 ((l1.trans l2).trans l3) (((en.mono l1.g).mono l2.g).mono l3.g)
/-- xs.extend(ys) -/
theorem x_ext {i : Nat} {a : Addr} {ds es : List PyData} (h1 : Ev K δ R ta (.r a)) (hi : R[i]? = some (a, .lst ds)) (h : Ev K δ R te (.d (.list es))) (hz : ds.length + es.length ≤ 50000) (n : P.nx δ (R.set i (a, .lst (ds ++ es)))) :
    XS K Ek δ R (tDrop (tBM K "list" rExtend ta (tCons te tNil))) P := fun G H σ D ok en c => h1 G H σ _ ok en fun v G1 H1 ok1 l1 q1 => by
  cases (show v = .ref a from q1)
  obtain ⟨ws, e1, _, _⟩ := ok1.at hi
  refine ⟨.inl ⟨rfl, ws, SqL.of e1⟩, h G1 H1 σ _ ok1 (en.mono l1.g) fun u G2 H2 ok2 l2 q2 => ?_⟩
  obtain ⟨vs, e2, e3, e4⟩ := ok2.at hi
  have el := e4.len
  cases (show Hv G2 u (.list es) from q2) with
  | @lst b us _ f1 f2 f3 =>
    have fl := f3.len
    refine ⟨a, b, vs, us, rfl, rfl, e2, ok2.ex _ _ f1, lim_le (by omega), ?_⟩
    obtain ⟨ok3, l3⟩ := ok2.write (o := .lst (vs ++ us)) (q := .lst (ds ++ es)) hi ⟨_, upd_same, by rw [List.length_append]; omega, e4.app f3⟩
    exact c.nx δ _ σ _ _ n ok3 ((l1.trans l2).trans l3) (((en.mono l1.g).mono l2.g).mono l3.g)
/-- xs[i] = e -/
theorem x_setL {i j : Nat} {a : Addr} {ds : List PyData} {w : PyData} {k : Int} (h : Ev K δ R te (.d w)) (h1 : Ev K δ R ta (.r a)) (h2 : Ev K δ R tb (.d (.int k))) (hi : R[i]? = some (a, .lst ds)) (hj : ixN ds.length k = some j) (n : P.nx δ (R.set i (a, .lst (ds.set j w)))) :
    XS K Ek δ R (tAsg te (gSub ta tb rSetL)) P := fun G H σ D ok en c => h G H σ _ ok en fun u G1 H1 ok1 l1 q1 => h1 G1 H1 σ _ ok1 (en.mono l1.g) fun v G2 H2 ok2 l2 q2 => h2 G2 H2 σ _ ok2 ((en.mono l1.g).mono l2.g) fun x G3 H3 ok3 l3 q3 => by
  cases (show v = .ref a from q2)
  cases (show Hv G3 x (.int k) from q3)
  obtain ⟨vs, e1, e2, e3⟩ := ok3.at hi
  have el := e3.len
  refine ⟨a, vs, k, j, rfl, rfl, e1, by rw [el]; exact hj, ?_⟩
  obtain ⟨ok4, l4⟩ := ok3.write (o := .lst (vs.set j u)) (q := .lst (ds.set j w)) hi ⟨_, upd_same, by rw [List.length_set]; exact e2, e3.set (Hv.mono (l2.g.trans l3.g) _ q1) j⟩
  exact c.nx δ _ σ _ _ n ok4 (((l1.trans l2).trans l3).trans l4) ((((en.mono l1.g).mono l2.g).mono l3.g).mono l4.g)
/-- xs.clear() -/
theorem x_clear {i : Nat} {a : Addr} {ds : List PyData} (h1 : Ev K δ R ta (.r a)) (hi : R[i]? = some (a, .lst ds)) (n : P.nx δ (R.set i (a, .lst []))) : XS K Ek δ R (tDrop (tBM0 K "list" rClear ta)) P := fun G H σ D ok en c => h1 G H σ _ ok en fun v G1 H1 ok1 l1 q1 => by
  cases (show v = .ref a from q1)
  obtain ⟨ws, e1, _, _⟩ := ok1.at hi
  obtain ⟨ok3, l3⟩ := ok1.write (o := .lst []) (q := .lst []) hi ⟨[], upd_same, Nat.zero_le _, .nil⟩
  exact ⟨.inl ⟨rfl, ws, SqL.of e1⟩, a, ws, rfl, rfl, e1, c.nx δ _ σ _ _ n ok3 (l1.trans l3) ((en.mono l1.g).mono l3.g)⟩
/-- an attribute is stored -/
def putFD (f : Str) (v : Fl.D) : List (Str × Fl.D) → List (Str × Fl.D)
  | [] => [(f, v)]
  | (g, w) :: r => if g = f then (g, v) :: r else (g, w) :: putFD f v r
theorem Fvs.put {f : Str} {v : V} (q : HD K G v d) : ∀ {vs : List (Str × V)} {ds : List (Str × Fl.D)}, Fvs K G vs ds → Fvs K G (putF f v vs) (putFD f d ds)
  | _, _, .nil => .cons q .nil
  | _, _, .cons (k := k) h t => by
    unfold putF putFD
    by_cases e : k = f
    · rw [if_pos e, if_pos e]; exact .cons q t
    · rw [if_neg e, if_neg e]; exact .cons h (Fvs.put q t)
theorem x_fld {i : Nat} {a C : Addr} {fs : List (Str × Fl.D)} {f : Str} (h : Ev K δ R te d) (h1 : Ev K δ R ta (.r a)) (hi : R[i]? = some (a, .ins C fs)) (hl : fs.length < 1000) (n : P.nx δ (R.set i (a, .ins C (putFD f d fs)))) (hc : Cls K C) (hn : NoAttr K C f) :
    XS K Ek δ R (sFld K ta te f) P := fun G H σ D ok en c => h G H σ _ ok en fun u G1 H1 ok1 l1 q1 => h1 G1 H1 σ _ ok1 (en.mono l1.g) fun v G2 H2 ok2 l2 q2 => by
  cases (show v = .ref a from q2)
  obtain ⟨dx, vs, e, fv⟩ := ok2.at hi
  obtain ⟨ok4, l4⟩ := ok2.write (o := .ins C dx (putF f u vs)) (q := .ins C (putFD f d fs)) hi ⟨dx, _, upd_same, fv.put (q1.mono l2.g)⟩
  exact ⟨a, C, dx, vs, rfl, e, hc, hn, by rw [fv.len]; exact hl, c.nx δ _ σ _ _ n ok4 ((l1.trans l2).trans l4) (((en.mono l1.g).mono l2.g).mono l4.g)⟩
/-- an attribute is a new own list -/
theorem x_fldF {i : Nat} {a C : Addr} {fs : List (Str × Fl.D)} {f : Str} {ds : List PyData} (h : EvF K δ R te ds) (h1 : ∀ R', Ev K δ R' ta (.r a)) (hi : R[i]? = some (a, .ins C fs)) (hl : fs.length < 1000) (n : ∀ b, P.nx δ ((b, .lst ds) :: R.set i (a, .ins C (putFD f (.r b) fs)))) (hc : Cls K C) (hn : NoAttr K C f) :
    XS K Ek δ R (sFld K ta te f) P := fun G H σ D ok en c => h G H σ _ ok en fun b G1 H1 ok1 l1 => h1 _ G1 H1 σ _ ok1 (en.mono l1.g) fun v G2 H2 ok2 l2 q2 => by
  cases (show v = .ref a from q2)
  have hi' : ((b, RO.lst ds) :: R)[i + 1]? = some (a, .ins C fs) := by simpa using hi
  obtain ⟨dx, vs, e, fv⟩ := ok2.at hi'
  obtain ⟨ok4, l4⟩ := ok2.write (o := .ins C dx (putF f (.ref b) vs)) (q := .ins C (putFD f (.r b) fs)) hi' ⟨dx, _, upd_same, fv.put (d := .r b) rfl⟩
  exact ⟨a, C, dx, vs, rfl, e, hc, hn, by rw [fv.len]; exact hl, c.nx δ _ σ _ _ (n b) ok4 ((l1.trans l2).trans l4) (((en.mono l1.g).mono l2.g).mono l4.g)⟩
/-- an attribute is a new empty dict -/
theorem x_fldD {i : Nat} {a C : Addr} {fs : List (Str × Fl.D)} {f : Str} (h1 : ∀ R', Ev K δ R' ta (.r a)) (hi : R[i]? = some (a, .ins C fs)) (hl : fs.length < 1000) (n : ∀ b, P.nx δ ((b, .dic []) :: R.set i (a, .ins C (putFD f (.r b) fs)))) (hc : Cls K C) (hn : NoAttr K C f) :
    XS K Ek δ R (sFld K ta tDNewK f) P := fun G H σ D ok en c b hb => by
  obtain ⟨ok1, l1⟩ := ok.laid (o := .dK []) (q := .dic []) hb ⟨[], upd_same, Nat.zero_le _, .nil⟩
  refine h1 _ G _ σ _ ok1 (en.mono l1.g) fun v G2 H2 ok2 l2 q2 => ?_
  cases (show v = .ref a from q2)
  have hi' : ((b, RO.dic []) :: R)[i + 1]? = some (a, .ins C fs) := by simpa using hi
  obtain ⟨dx, vs, e, fv⟩ := ok2.at hi'
  obtain ⟨ok4, l4⟩ := ok2.write (o := .ins C dx (putF f (.ref b) vs)) (q := .ins C (putFD f (.r b) fs)) hi' ⟨dx, _, upd_same, fv.put (d := .r b) rfl⟩
  exact ⟨a, C, dx, vs, rfl, e, hc, hn, by rw [fv.len]; exact hl, c.nx δ _ σ _ _ (n b) ok4 ((l1.trans l2).trans l4) (((en.mono l1.g).mono l2.g).mono l4.g)⟩
/-- d[k] = v -/
def putD {κ : Type} [DecidableEq κ] (kvs : List (κ × Fl.D)) (k : κ) (v : Fl.D) : List (κ × Fl.D) := if (kvs.any fun kv => decide (kv.1 = k)) = true then kvs.map (fun kv => if kv.1 = k then (kv.1, v) else kv) else kvs ++ [(k, v)]
def dropD {κ : Type} [DecidableEq κ] (kvs : List (κ × Fl.D)) (k : κ) : List (κ × Fl.D) := kvs.filter fun kv => decide (kv.1 ≠ k)
theorem Fvs.app1 {κ : Type} {k : κ} {v : V} (q : HD K G v d) : ∀ {vs : List (κ × V)} {ds : List (κ × Fl.D)}, Fvs K G vs ds → Fvs K G (vs ++ [(k, v)]) (ds ++ [(k, d)])
  | _, _, .nil => .cons q .nil
  | _, _, .cons h t => .cons h (Fvs.app1 q t)
theorem Fvs.mapPut {κ : Type} [DecidableEq κ] {k : κ} {v : V} (q : HD K G v d) : ∀ {vs : List (κ × V)} {ds : List (κ × Fl.D)}, Fvs K G vs ds → Fvs K G (vs.map fun kv => if kv.1 = k then (kv.1, v) else kv) (ds.map fun kv => if kv.1 = k then (kv.1, d) else kv)
  | _, _, .nil => .nil
  | _, _, .cons (k := j) h t => by
    simp only [List.map_cons]
    by_cases e : j = k
    · rw [if_pos e, if_pos e]; exact .cons q (Fvs.mapPut q t)
    · rw [if_neg e, if_neg e]; exact .cons h (Fvs.mapPut q t)
theorem Fvs.anyKey {κ : Type} [DecidableEq κ] {k : κ} : ∀ {vs : List (κ × V)} {ds : List (κ × Fl.D)}, Fvs K G vs ds → (vs.any fun kv => decide (kv.1 = k)) = (ds.any fun kv => decide (kv.1 = k))
  | _, _, .nil => rfl
  | _, _, .cons h t => by
    rw [List.any_cons, List.any_cons, Fvs.anyKey t]
theorem Fvs.putK {κ : Type} [DecidableEq κ] {k : κ} {v : V} {vs : List (κ × V)} {ds : List (κ × Fl.D)} (h : Fvs K G vs ds) (q : HD K G v d) : Fvs K G (L2.putK vs k v) (putD ds k d) := by
  unfold L2.putK putD
  rw [h.anyKey]
  by_cases e : (ds.any fun kv => decide (kv.1 = k)) = true
  · rw [if_pos e, if_pos e]; exact h.mapPut q
  · rw [if_neg e, if_neg e]; exact h.app1 q
theorem Fvs.dropK {κ : Type} [DecidableEq κ] {k : κ} : ∀ {vs : List (κ × V)} {ds : List (κ × Fl.D)}, Fvs K G vs ds → Fvs K G (L2.dropK vs k) (dropD ds k)
  | _, _, .nil => .nil
  | _, _, .cons (k := j) (v := v) (d := e) (vs := vs) (ds := ds) h t => by
    by_cases q : j = k
    · have e1 : L2.dropK ((j, v) :: vs) k = L2.dropK vs k := dropK_pos q
      have e2 : dropD ((j, e) :: ds) k = dropD ds k := by unfold dropD; rw [List.filter_cons, if_neg (by simp [q])]
      rw [e1, e2]; exact Fvs.dropK t
    · have e1 : L2.dropK ((j, v) :: vs) k = (j, v) :: L2.dropK vs k := dropK_neg q
      have e2 : dropD ((j, e) :: ds) k = (j, e) :: dropD ds k := by unfold dropD; rw [List.filter_cons, if_pos (by simp [q])]
      rw [e1, e2]; exact .cons h (Fvs.dropK t)
theorem putK_len {κ : Type} [DecidableEq κ] (c : List (κ × V)) (k : κ) (x : V) : (L2.putK c k x).length ≤ c.length + 1 := by
  unfold L2.putK
  split
  · rw [List.length_map]; omega
  · rw [List.length_append]; simp
theorem x_dput {i : Nat} {a : Addr} {kvs : List (Key × Fl.D)} {k : Key} (h : Ev K δ R te d) (h1 : Ev K δ R ta (.r a)) (h2 : Ev K δ R tb (.d (keyD k))) (hi : R[i]? = some (a, .dic kvs)) (hz : kvs.length < 50000) (n : P.nx δ (R.set i (a, .dic (putD kvs k d)))) :
    XS K Ek δ R (sDPut ta tb te) P := fun G H σ D ok en c => h G H σ _ ok en fun u G1 H1 ok1 l1 q1 => h1 G1 H1 σ _ ok1 (en.mono l1.g) fun v G2 H2 ok2 l2 q2 => h2 G2 H2 σ _ ok2 ((en.mono l1.g).mono l2.g) fun x G3 H3 ok3 l3 q3 => by
  cases (show v = .ref a from q2)
  have ex := Hv.key (show Hv G3 x (keyD k) from q3)
  subst ex
  obtain ⟨vs, e1, e2, fv⟩ := ok3.at hi
  have fl := fv.len
  have pl := putK_len vs k u
  obtain ⟨ok4, l4⟩ := ok3.write (o := .dK (L2.putK vs k u)) (q := .dic (putD kvs k d)) hi ⟨_, upd_same, by omega, fv.putK (q1.mono (l2.g.trans l3.g))⟩
  exact ⟨a, _, rfl, DPut.k e1 (lim_lt e2), c.nx δ _ σ _ _ n ok4 (((l1.trans l2).trans l3).trans l4) ((((en.mono l1.g).mono l2.g).mono l3.g).mono l4.g)⟩
/-- d.pop(k), dropped -/
theorem x_dpop {i : Nat} {a : Addr} {kvs : List (Key × Fl.D)} {k : Key} (h1 : Ev K δ R ta (.r a)) (h2 : Ev K δ R tb (.d (keyD k))) (hi : R[i]? = some (a, .dic kvs)) (hl : valD kvs k = some d) (n : P.nx δ (R.set i (a, .dic (dropD kvs k)))) :
    XS K Ek δ R (tDrop (tDPop1 ta tb)) P := fun G H σ D ok en c => h1 G H σ _ ok en fun v G1 H1 ok1 l1 q1 => by
  cases (show v = .ref a from q1)
  obtain ⟨ws, f1, f2, f3⟩ := ok1.at hi
  refine ⟨a, rfl, .inl ⟨ws, .inl f1⟩, h2 G1 H1 σ _ ok1 (en.mono l1.g) fun x G2 H2 ok2 l2 q2 => ?_⟩
  have ex := Hv.key (show Hv G2 x (keyD k) from q2)
  subst ex
  obtain ⟨vs, e1, e2, fv⟩ := ok2.at hi
  obtain ⟨w, g1, g2⟩ := fv.some hl
  have fl := dropK_le vs k
  obtain ⟨ok4, l4⟩ := ok2.write (o := .dK (L2.dropK vs k)) (q := .dic (dropD kvs k)) hi ⟨_, upd_same, by omega, fv.dropK⟩
  exact ⟨vs, k, w, e1, rfl, g1, c.nx δ _ σ _ _ n ok4 ((l1.trans l2).trans l4) (((en.mono l1.g).mono l2.g).mono l4.g)⟩
end

/-! ### defs: what they promise, and how they are called -/
abbrev Fn := List D → Res → (D → Res → Prop) → (Value → Res → Prop) → Prop
inductive HDs (K : PySem.W.Frag) (G : Hp) : List V → List D → Prop
  | nil : HDs K G [] []
  | cons {v : V} {vs : List V} {d : D} {ds : List D} : HD K G v d → HDs K G vs ds → HDs K G (v :: vs) (d :: ds)
theorem HDs.len {K : PySem.W.Frag} {G : Hp} : ∀ {vs : List V} {ds : List D}, HDs K G vs ds → vs.length = ds.length
  | _, _, .nil => rfl
  | _, _, .cons h t => by simp [HDs.len t]
theorem HDs.get {K : PySem.W.Frag} {G : Hp} : ∀ {vs : List V} {ds : List D} {i : Nat} {d : D}, HDs K G vs ds → ds[i]? = some d → ∃ v, vs[i]? = some v ∧ HD K G v d
  | _, _, i, d, .nil, e => by simp at e
  | _, _, 0, d, .cons h t, e => by simp at e; subst e; exact ⟨_, rfl, h⟩
  | _, _, i + 1, d, .cons h t, e => by
    obtain ⟨v, a, b⟩ := HDs.get (i := i) t (by simpa using e)
    exact ⟨v, by simpa using a, b⟩
theorem hds_of {K : PySem.W.Frag} {G : Hp} : ∀ {vs : List V} {ds : List D}, vs.length = ds.length → (∀ (i : Nat) (v : V) (d : D), vs[i]? = some v → ds[i]? = some d → HD K G v d) → HDs K G vs ds
  | [], [], _, _ => .nil
  | [], d :: ds, h, _ => by simp at h
  | v :: vs, [], h, _ => by simp at h
  | v :: vs, d :: ds, h, q => .cons (q 0 v d rfl rfl) (hds_of (by simpa using h) fun i a b e f => q (i + 1) a b (by simpa using e) (by simpa using f))
def spD (K : PySem.W.Frag) (Φ : Fn) : Sp := fun vs H Q E => ∃ (G : Hp) (ds : List D) (R : Res) (N : D → Res → Prop) (M : Value → Res → Prop), HDs K G vs ds ∧ Ok K G H R ∧ Φ ds R N M ∧
  (∀ d R' v G' H', N d R' → Ok K G' H' R' → Le G H R G' H' R' → HD K G' v d → Q v H') ∧ (∀ c R' G' H', M c R' → Ok K G' H' R' → Le G H R G' H' R' → E c none H')
def startD (N : List Str) (ds : List D) : DEnv := ds.map some ++ List.replicate (N.length - ds.length) none
theorem start_de {K : PySem.W.Frag} {G : Hp} {N : List Str} {vs : List V} {ds : List D} (h : HDs K G vs ds) : DE K G (L2.start N vs) (startD N ds) := by
  have e := h.len
  refine ⟨by simp [L2.start, startD, e], fun i d hi => ?_⟩
  unfold startD at hi
  unfold L2.start
  by_cases z : i < ds.length
  · rw [List.getElem?_append_left (by simpa using z), List.getElem?_map] at hi
    cases q : ds[i]? with
    | none => rw [q] at hi; cases hi
    | some d' =>
      rw [q] at hi
      have hd : d' = d := Option.some.inj (Option.some.inj hi)
      subst hd
      obtain ⟨v, a, b⟩ := h.get q
      exact ⟨v, by rw [List.getElem?_append_left (by simpa [e] using z), List.getElem?_map, a]; rfl, b⟩
  · rw [List.getElem?_append_right (by simpa using z), List.getElem?_replicate] at hi
    split at hi <;> cases hi
/-- what a body reaches -/
def endsOf (N : D → Res → Prop) (M : Value → Res → Prop) : Post := ⟨fun _ R' => N (.d .none) R', N, fun _ _ => False, fun _ _ => False, fun c _ R' => M c R'⟩
theorem fn_sem {K : PySem.W.Frag} {Φ : Fn} {N : List Str} {t : XK → TS} {vs : List V} {H : Hp} {Q : VK} {E : XK} (h : ∀ (E : XK) (ds : List D) (R : Res) (N' : D → Res → Prop) (M' : Value → Res → Prop), Φ ds R N' M' → XS K (fun c d _ H => E c d H) (startD N ds) R (t E) (endsOf N' M'))
    (hs : spD K Φ vs H Q E) : t E { nx := fun _ H' => Q .non H', rt := Q } (L2.start N vs) H := by
  obtain ⟨G, ds, R, N', M', hd, ok, hp, hn, hm⟩ := hs
  exact h E ds R N' M' hp G H _ _ ok (start_de hd) ⟨fun δ' R' σ' G' H' p q l w => hn _ R' _ G' H' p q l (show Hv G' .non .none from .non), hn, fun δ' R' σ' G' H' p => p.elim, fun δ' R' σ' G' H' p => p.elim, fun c δ' R' σ' G' H' p q l w => hm c R' G' H' p q l⟩
theorem sp_len {K : PySem.W.Frag} {Φ : Fn} {n : Nat} {vs : List V} {H : Hp} {Q : VK} {E : XK} (h : ∀ ds R N M, Φ ds R N M → ds.length = n) (hs : spD K Φ vs H Q E) : vs.length = n := by
  obtain ⟨G, ds, R, N', M', hd, ok, hp, _⟩ := hs
  rw [hd.len]
  exact h _ _ _ _ hp
section
variable {K : PySem.W.Frag} {Ek : WX} {G G' H H' : Hp} {R R1 A B : Res} {δ δ' : DEnv} {ta tb te : TE} {tA : TA} {d x : D} {ds : List D} {Φ : Fn} {E : XK} {N : D → Res → Prop} {M : Value → Res → Prop}
/-- a call: R is A, then what the callee owns, then B -/
theorem ee_call {S : L2.St → XK} (ha : EvA K δ (A ++ R1 ++ B) tA ds) (hp : Φ ds R1 (fun d R' => N d (A ++ R' ++ B)) (fun c R' => M c (A ++ R' ++ B))) (hE : ∀ c R' σ H', M c R' → Ek c none σ H' → S σ c none H') : EvE K Ek δ (A ++ R1 ++ B) (tCallS (spD K Φ) S tA) N M := fun G H σ Q ok en k j =>
  ha G H σ _ ok en fun vs G1 H1 ok1 l1 ⟨q1, q2⟩ => ⟨G1, ds, R1, _, _, hds_of q1 q2, ok1.part, hp, fun d R' v G' H' n ok' le hv => by
    obtain ⟨ok2, l2⟩ := ok1.whole ok' le
    exact k d _ v G' H' n ok2 (l1.trans l2) hv, fun c R' G' H' m ok' le => by
    obtain ⟨ok2, l2⟩ := ok1.whole ok' le
    exact hE c _ σ H' m (j c _ G' H' m ok2 (l1.trans l2))⟩
theorem ee_callE (h : EvE K Ek δ R (tCallS (spD K Φ) (fun _ => E) tA) N M) : EvE K Ek δ R (tCall (spD K Φ) [] E tA) N M := fun G H σ Q ok en k j => by
  have q := h G H σ Q ok en k j
  show tA σ H fun vs H1 => spD K Φ (vs ++ []) H1 Q E
  have e : (fun (vs : List V) H1 => spD K Φ (vs ++ []) H1 Q E) = fun vs H1 => spD K Φ vs H1 Q E := by funext vs H1; rw [List.append_nil]
  rw [e]
  exact q
/-- a method -/
def tMethS' (C : Addr) (m : Str) (sp : Sp) (E : L2.St → XK) (ta : TE) (t : TA) : TE := fun σ H Q => ta σ H fun x H1 => ∃ a dx fs, x = .ref a ∧ H1 a = some (.ins C dx fs) ∧ fs.lookup m = none ∧ t σ H1 fun vs H2 => sp (x :: vs) H2 Q (E σ)
theorem ee_meth {S : L2.St → XK} {C p : Addr} {m : Str} {i : Nat} {fs : List (Str × D)} (h1 : Ev K δ (A ++ R1 ++ B) ta (.r p)) (hi : (A ++ R1 ++ B)[i]? = some (p, .ins C fs)) (hl : fs.lookup m = none) (ha : EvA K δ (A ++ R1 ++ B) tA ds)
    (hp : Φ (.r p :: ds) R1 (fun d R' => N d (A ++ R' ++ B)) (fun c R' => M c (A ++ R' ++ B))) (hE : ∀ c R' σ H', M c R' → Ek c none σ H' → S σ c none H') : EvE K Ek δ (A ++ R1 ++ B) (tMethS' C m (spD K Φ) S ta tA) N M := fun G H σ Q ok en k j =>
  h1 G H σ _ ok en fun v G0 H0 ok0 l0 q0 => by
    cases (show v = .ref p from q0)
    obtain ⟨dx, vs0, e0, fv⟩ := ok0.at hi
    refine ⟨p, dx, vs0, rfl, e0, fv.lookN hl, ha G0 H0 σ _ ok0 (en.mono l0.g) fun vs G1 H1 ok1 l1 ⟨q1, q2⟩ => ⟨G1, .r p :: ds, R1, _, _, .cons rfl (hds_of q1 q2), ok1.part, hp, fun d R' v G' H' n ok' le hv => ?_, fun c R' G' H' m ok' le => ?_⟩⟩
    · obtain ⟨ok2, l2⟩ := ok1.whole ok' le
      exact k d _ v G' H' n ok2 ((l0.trans l1).trans l2) hv
    · obtain ⟨ok2, l2⟩ := ok1.whole ok' le
      exact hE c _ σ H' m (j c _ G' H' m ok2 ((l0.trans l1).trans l2))
theorem ee_methE {C : Addr} {m : Str} (h : EvE K Ek δ R (tMethS' C m (spD K Φ) (fun _ => E) ta tA) N M) : EvE K Ek δ R (tMeth C m (spD K Φ) [] E ta tA) N M := fun G H σ Q ok en k j => by
  have q := h G H σ Q ok en k j
  have e : tMeth C m (spD K Φ) [] E ta tA = tMethS' C m (spD K Φ) (fun _ => E) ta tA := by
    funext σ H Q
    unfold tMeth tMethS'
    simp only [List.append_nil]
  rw [e]
  exact q
/-- C(..): __init__'s promise at the new instance -/
def tMakeS (C : Addr) (sp : Sp) (S : L2.St → XK) (t : TA) : TE := fun σ H Q => t σ H fun vs H1 => ∀ x dx, H1 x = none → H1 dx = none → dx ≠ x → sp (.ref x :: vs) (upd (upd H1 dx (.own x)) x (.ins C dx [])) (fun v H2 => v = .non ∧ Q (.ref x) H2) (S σ)
theorem ee_make {S : L2.St → XK} {C : Addr} (ha : EvA K δ R tA ds) (hp : ∀ x, Φ (.r x :: ds) [(x, .ins C [])] (fun d R' => d = .d .none ∧ N (.r x) (R' ++ R)) (fun c _ => M c R)) (hE : ∀ c R' σ H', M c R' → Ek c none σ H' → S σ c none H') : EvE K Ek δ R (tMakeS C (spD K Φ) S tA) N M := fun G H σ Q ok en k j =>
  ha G H σ _ ok en fun vs G1 H1 ok1 l1 ⟨q1, q2⟩ => fun x dx nx ndx ne => by
    obtain ⟨ok2, l2⟩ := ok1.aside (p := dx) (o := .own x) ndx
    have nx2 : upd H1 dx (.own x) x = none := by rw [upd_ne ne.symm]; exact nx
    obtain ⟨ok3, l3⟩ := ok2.laid (p := x) (o := .ins C dx []) (q := .ins C []) nx2 ⟨dx, [], upd_same, .nil⟩
    have ok3' : Ok K G1 (upd (upd H1 dx (.own x)) x (.ins C dx [])) ([] ++ [(x, RO.ins C [])] ++ R) := ok3
    have l3' : Le G1 (upd H1 dx (.own x)) R G1 (upd (upd H1 dx (.own x)) x (.ins C dx [])) ([] ++ [(x, RO.ins C [])] ++ R) := l3
    refine ⟨G1, .r x :: ds, [(x, .ins C [])], _, _, .cons rfl (hds_of q1 q2), ok3'.part, hp x, fun d R' v G' H' n ok' le hv => ?_, fun c R' G' H' m ok' le => ?_⟩
    · obtain ⟨ok4, l4⟩ := ok3'.whole ok' le
      obtain ⟨rfl, n⟩ := n
      cases (show Hv G' v .none from hv)
      exact ⟨rfl, k (.r x) (R' ++ R) (.ref x) G' H' n ok4 (((l1.trans l2).trans l3').trans l4) rfl⟩
    · obtain ⟨ok4, l4⟩ := ok3'.whole ok' le
      have ok5 : Ok K G' H' R := Ok.part (A := R') (B := []) (by simpa using ok4)
      have l5 : Le G H R G' H' R := by
        have q := ((l1.trans l2).trans l3').trans l4
        exact ⟨q.g, q.h, q.n, fun a m => .inl m, q.dm⟩
      exact hE c R σ H' m (j c R G' H' m ok5 l5)
end
end Fl
/-! More rules: operators one by one, counts, calls by form, raise, try. -/
namespace Fl
open PySem PySem.Spec PyProof.Rows L2
section
variable {K : PySem.W.Frag} {Ek : WX} {G G' H H' : Hp} {R R1 A B : Res} {δ δ' : DEnv} {ta tb tc te tl : TE} {d x y z : D} {r : R2} {t u : TS} {P : Post} {tt : TT}
theorem rv_minus {i j : Int} : RV K R rMinus (.d (.int i)) (.d (.int j)) (.d (.int (i - j))) := rv_I0 fun _ => .int _
theorem rv_lt {i j : Int} : RV K R rLt (.d (.int i)) (.d (.int j)) (.d (.bool (decide (i < j)))) := rv_I0 fun _ => .bl _
theorem rv_le {i j : Int} : RV K R rLe (.d (.int i)) (.d (.int j)) (.d (.bool (decide (i ≤ j)))) := rv_I0 fun _ => .bl _
theorem rv_gt {i j : Int} : RV K R rGt (.d (.int i)) (.d (.int j)) (.d (.bool (decide (j < i)))) := rv_I0 fun _ => .bl _
theorem rv_ge {i j : Int} : RV K R rGe (.d (.int i)) (.d (.int j)) (.d (.bool (decide (j ≤ i)))) := rv_I0 fun _ => .bl _
theorem rv_div {i j : Int} (h : CDiv i j) : RV K R rDiv (.d (.int i)) (.d (.int j)) (.d (.int (i / j))) := rv_I h fun _ => .int _
theorem rv_mod {i j : Int} (h : 0 < j) : RV K R rMod (.d (.int i)) (.d (.int j)) (.d (.int (i % j))) := rv_I h fun _ => .int _
theorem rv_pow {i j : Int} (h : CPow i j) : RV K R rPow (.d (.int i)) (.d (.int j)) (.d (.int (i ^ j.toNat))) := rv_I h fun _ => .int _
theorem rv_times {i j : Int} (h : CMul i j) : RV K R rTimes (.d (.int i)) (.d (.int j)) (.d (.int (i * j))) := rv_I h fun _ => .int _
def rNeg : V → Hp → VK → Prop := rU fun i => .int (-i)
theorem un_neg' {X : Cx} : UnR X (unaryOp .USub) rNeg := un_neg
theorem ev_neg {i : Int} (h : Ev K δ R te (.d (.int i))) : Ev K δ R (tUn rNeg te) (.d (.int (-i))) := fun G H σ Q ok en k => h G H σ _ ok en fun v G1 H1 ok1 l1 q1 => by
  cases (show Hv G1 v (.int i) from q1)
  exact ⟨i, rfl, k _ G1 H1 ok1 l1 (show Hv G1 _ _ from .int _)⟩
/-! ### counts -/
def rCnt (K : PySem.W.Frag) : V → List V → Hp → VK → Prop := fun x vs H Q => ∃ (p : Addr) (ys : List V) (es : List PyData) (y : V) (d : PyData), x = .ref p ∧ vs = [y] ∧ SqL K H p ys ∧ DpAll K H ys es ∧ Dp K H y d ∧ PyData.plainAll es = true ∧ d.plain = true ∧ min (PyData.depthAll es) d.depth ≤ 60 ∧ Q (.int (es.countP fun e => PyData.eqv e d : Nat)) H
theorem mt_cnt {X : Cx} (hu : X.A.units + 64 < cLine) : MtR X "list.count" (rCnt X.K) := by
  intro pins s σ H x xs v us Q I rx rxs h
  obtain ⟨p, ys, es, y, d, rfl, rfl, hs, ha, hd, pe, pd, hm, q⟩ := h
  cases rx
  obtain ⟨w, rfl, ru⟩ := rxs.one
  obtain ⟨its, rv, pl, hlen⟩ := I.list hs
  obtain ⟨as, r1⟩ := Dp.readsAll I es ys its ha rv
  obtain ⟨bs, r2⟩ := Dp.reads I d y w hd ru
  exact SeqAt.count_list_data pl.isList (by simpa using r1) r2 pe pd (by omega) ⟨.int _, H, I.tok _, ⟨_, rfl⟩, q⟩
theorem ev_cnt {es : List PyData} {w : PyData} (h1 : Ev K δ R ta d) (hl : Ls R d es) (h2 : Ev K δ R tb (.d w)) (hm : min (PyData.depthAll es) w.depth ≤ 60) : Ev K δ R (tBM K "list" (rCnt K) ta (tCons tb tNil)) (.d (.int (es.countP fun e => PyData.eqv e w : Nat))) := fun G H σ Q ok en k =>
  h1 G H σ _ ok en fun v G1 H1 ok1 l1 q1 => by
    obtain ⟨a, vs, rfl, ea, la, hv⟩ := hl.hv ok1 q1
    refine ⟨.inl ⟨rfl, vs, SqL.of ea⟩, h2 G1 H1 σ _ ok1 (en.mono l1.g) fun u G2 H2 ok2 l2 q2 => ?_⟩
    obtain ⟨a', vs', e', ea', la', hv'⟩ := hl.hv ok2 (q1.mono l2.g)
    cases e'
    have m := Hvs.mono ok2.ex _ hv'
    exact ⟨a, vs', es, u, w, rfl, rfl, SqL.of ea', Hvs.dp _ m, Hv.dp _ (Hv.mono ok2.ex _ q2), Hvs.plain _ m, Hv.plain _ q2, hm, k _ G2 H2 ok2 (l1.trans l2) (show Hv G2 _ _ from .int _)⟩
/-! ### join -/
def rJoin (K : PySem.W.Frag) : V → List V → Hp → VK → Prop := fun x xs H Q => ∃ a p, ∃ ys : List Str, x = .str a ∧ xs = [.ref p] ∧ (SqL K H p (ys.map V.str) ∨ SqT K H p (ys.map V.str)) ∧ (ys.map (·.length)).sum + ys.length * a.length ≤ 16777216 ∧ Q (.str (Txt.join a ys)) H
theorem ev_join {ys : List Str} {a : Str} (h1 : Ev K δ R ta (.d (.str a))) (h2 : Ev K δ R tb d) (hl : Ls R d (ys.map .str)) (hz : (ys.map (·.length)).sum + ys.length * a.length ≤ 16777216) : Ev K δ R (tM1 (rJoin K) ta tb) (.d (.str (Txt.join a ys))) := fun G H σ Q ok en k =>
  h1 G H σ _ ok en fun v G1 H1 ok1 l1 q1 => by
    cases (show Hv G1 v (.str a) from q1)
    refine ⟨⟨a, rfl⟩, h2 G1 H1 σ _ ok1 (en.mono l1.g) fun u G2 H2 ok2 l2 q2 => ?_⟩
    obtain ⟨p, vs, rfl, ea, la, hv⟩ := hl.hv ok2 q2
    have e := hv.strs
    subst e
    exact ⟨a, p, ys, rfl, rfl, .inl (SqL.of ea), hz, k _ G2 H2 ok2 (l1.trans l2) (show Hv G2 _ _ from .str _)⟩
/-! ### list(range(a, b)) -/
theorem evf_listRg1 {n : Int} (h : Ev K δ R ta (.d (.int n))) (hn : 0 ≤ n ∧ n ≤ 50000) : EvF K δ R (tLstRg (tRg1 ta)) (rngD 0 n.toNat) := fun G H σ Q ok en k => h G H σ _ ok en fun v G1 H1 ok1 l1 q1 => by
  cases (show Hv G1 v (.int n) from q1)
  refine ⟨n, rfl, ⟨by omega, by omega, by omega, by omega, by omega⟩, fun p hp => ?_⟩
  have e1 : rgV 0 n = (List.range n.toNat).map fun i => V.int (0 + (i : Nat)) := by unfold rgV; rw [Int.sub_zero]
  have hv : Hvs G1 (rgV 0 n) (rngD 0 n.toNat) := by
    rw [e1]
    unfold rngD
    generalize List.range n.toNat = l
    induction l with
    | nil => exact .nil
    | cons a l ih => exact .cons (.int _) ih
  obtain ⟨ok', le⟩ := ok1.laid (o := .lst (rgV 0 n)) (q := .lst (rngD 0 n.toNat)) hp ⟨_, upd_same, by rw [hv.len, rngD_len]; omega, hv⟩
  exact k p _ _ ok' (l1.trans le)
theorem evf_listRg2 {a n : Int} (h1 : Ev K δ R ta (.d (.int a))) (h2 : Ev K δ R tb (.d (.int n))) (hn : -50000 ≤ a ∧ a ≤ n + 1 ∧ n ≤ 50000 ∧ n - a ≤ 50000) : EvF K δ R (tLstRg (tRg2 ta tb)) (rngD a (n - a).toNat) := fun G H σ Q ok en k =>
  h1 G H σ _ ok en fun v G1 H1 ok1 l1 q1 => h2 G1 H1 σ _ ok1 (en.mono l1.g) fun w G2 H2 ok2 l2 q2 => by
    cases (show Hv G1 v (.int a) from q1)
    cases (show Hv G2 w (.int n) from q2)
    refine ⟨a, n, rfl, rfl, ⟨by omega, by omega, by omega, by omega, by omega⟩, fun p hp => ?_⟩
    have hv : Hvs G2 (rgV a n) (rngD a (n - a).toNat) := by
      unfold rgV rngD
      generalize List.range (n - a).toNat = l
      induction l with
      | nil => exact .nil
      | cons b l ih => exact .cons (.int _) ih
    obtain ⟨ok', le⟩ := ok2.laid (o := .lst (rgV a n)) (q := .lst (rngD a (n - a).toNat)) hp ⟨_, upd_same, by rw [hv.len, rngD_len]; omega, hv⟩
    exact k p _ _ ok' ((l1.trans l2).trans le)
/-! ### calls by form -/
section
variable {tA : TA} {ds : List D} {Φ : Fn} {E : XK} {S : L2.St → XK} {N : D → Res → Prop} {M : Value → Res → Prop}
/-- the callee owns nothing ahead -/
theorem ee_callP (ha : EvA K δ R tA ds) (hp : Φ ds [] (fun d R' => N d (R' ++ R)) (fun c R' => M c (R' ++ R))) (hE : ∀ c R' σ H', M c R' → Ek c none σ H' → S σ c none H') : EvE K Ek δ R (tCallS (spD K Φ) S tA) N M := ee_call (A := []) (R1 := []) (B := R) ha hp hE
theorem ev_callP (ha : EvA K δ R tA ds) (hp : Φ ds [] (fun d' R' => d' = d ∧ R' ++ R = R) (fun _ _ => False)) : Ev K δ R (tCallS (spD K Φ) S tA) d :=
  ev_ee (ee_callP (N := fun d' R' => d' = d ∧ R' = R) (M := fun _ _ => False) ha hp (fun _ _ _ _ m => m.elim))
theorem evf_ee {es : List PyData} (h : EvE K (fun _ _ _ _ => False) δ R te (fun d' R' => ∃ a, d' = .r a ∧ R' = (a, .lst es) :: R) fun _ _ => False) : EvF K δ R te es := fun G H σ Q ok en k => h G H σ Q ok en (fun d' R' v G' H' q ok' le hv => by
  obtain ⟨a, rfl, rfl⟩ := q
  cases (show v = .ref a from hv)
  exact k a G' H' ok' le) fun c R' G' H' q => q.elim
theorem evf_callP {es : List PyData} (ha : EvA K δ R tA ds) (hp : Φ ds [] (fun d' R' => ∃ a, d' = .r a ∧ R' ++ R = (a, .lst es) :: R) (fun _ _ => False)) : EvF K δ R (tCallS (spD K Φ) S tA) es :=
  evf_ee (ee_callP (N := fun d' R' => ∃ a, d' = .r a ∧ R' = (a, .lst es) :: R) (M := fun _ _ => False) ha hp (fun _ _ _ _ m => m.elim))
/-- the callee owns a part: the first, the last, all -/
theorem ee_call1 (ha : EvA K δ (R1 ++ B) tA ds) (hp : Φ ds R1 (fun d R' => N d (R' ++ B)) (fun c R' => M c (R' ++ B))) (hE : ∀ c R' σ H', M c R' → Ek c none σ H' → S σ c none H') : EvE K Ek δ (R1 ++ B) (tCallS (spD K Φ) S tA) N M := ee_call (A := []) ha hp hE
theorem ee_call2 (ha : EvA K δ (A ++ R1) tA ds) (hp : Φ ds R1 (fun d R' => N d (A ++ R')) (fun c R' => M c (A ++ R'))) (hE : ∀ c R' σ H', M c R' → Ek c none σ H' → S σ c none H') : EvE K Ek δ (A ++ R1) (tCallS (spD K Φ) S tA) N M := by
  have e : ∀ X : Res, A ++ X = A ++ X ++ [] := fun X => (List.append_nil _).symm
  have hp' : Φ ds R1 (fun d R' => N d (A ++ R' ++ [])) (fun c R' => M c (A ++ R' ++ [])) := by
    simp only [List.append_nil]
    exact hp
  rw [e R1] at ha ⊢
  exact ee_call ha hp' hE
theorem ee_call3 (ha : EvA K δ R tA ds) (hp : Φ ds R N M) (hE : ∀ c R' σ H', M c R' → Ek c none σ H' → S σ c none H') : EvE K Ek δ R (tCallS (spD K Φ) S tA) N M := ee_call2 (A := []) ha hp hE
variable {C p : Addr} {m : Str} {i : Nat} {fs : List (Str × D)}
theorem ee_meth1 (h1 : Ev K δ (R1 ++ B) ta (.r p)) (hi : (R1 ++ B)[i]? = some (p, .ins C fs)) (hl : fs.lookup m = none) (ha : EvA K δ (R1 ++ B) tA ds) (hp : Φ (.r p :: ds) R1 (fun d R' => N d (R' ++ B)) (fun c R' => M c (R' ++ B))) (hE : ∀ c R' σ H', M c R' → Ek c none σ H' → S σ c none H') :
    EvE K Ek δ (R1 ++ B) (tMethS' C m (spD K Φ) S ta tA) N M := ee_meth (A := []) h1 hi hl ha hp hE
theorem ee_meth2 (h1 : Ev K δ (A ++ R1) ta (.r p)) (hi : (A ++ R1)[i]? = some (p, .ins C fs)) (hl : fs.lookup m = none) (ha : EvA K δ (A ++ R1) tA ds) (hp : Φ (.r p :: ds) R1 (fun d R' => N d (A ++ R')) (fun c R' => M c (A ++ R'))) (hE : ∀ c R' σ H', M c R' → Ek c none σ H' → S σ c none H') :
    EvE K Ek δ (A ++ R1) (tMethS' C m (spD K Φ) S ta tA) N M := by
  have e : ∀ X : Res, A ++ X = A ++ X ++ [] := fun X => (List.append_nil _).symm
  have hp' : Φ (.r p :: ds) R1 (fun d R' => N d (A ++ R' ++ [])) (fun c R' => M c (A ++ R' ++ [])) := by
    simp only [List.append_nil]
    exact hp
  rw [e R1] at h1 hi ha ⊢
  exact ee_meth h1 hi hl ha hp' hE
theorem ee_meth3 (h1 : Ev K δ R ta (.r p)) (hi : R[i]? = some (p, .ins C fs)) (hl : fs.lookup m = none) (ha : EvA K δ R tA ds) (hp : Φ (.r p :: ds) R N M) (hE : ∀ c R' σ H', M c R' → Ek c none σ H' → S σ c none H') :
    EvE K Ek δ R (tMethS' C m (spD K Φ) S ta tA) N M := ee_meth2 (A := []) h1 hi hl ha hp hE
end
/-! ### raise, try -/
def tRz (W : WX) (c : Value) : TS := fun _ σ H => W c none σ H
theorem x_raise {c : Value} (h : P.xe c δ R) : XS K Ek δ R (tRz Ek c) P := fun G H σ D ok en k => k.xe c δ R σ G H h ok .refl en
/-- try: body, except c1: s1, except c2: s2, .. -/
def tTry (K : PySem.W.Frag) (Wout : WX) (l : List (Value × (Addr → Value → Option Addr → TS))) (tb : WX → TS) : TS := fun D σ H => tb (wMany K Wout D l) D σ H
/-- how a raised c is met -/
def Met (K : PySem.W.Frag) (Ek : WX) (c : Value) (δ : DEnv) (R : Res) (P : Post) : List (Value × (Addr → Value → Option Addr → TS)) → Prop
  | [] => P.xe c δ R
  | (n, ts) :: r => ∃ b, PySem.W.exmOne K c n = some b ∧ (b = true → ∀ a, XS K Ek δ R (ts a c none) P) ∧ (b = false → Met K Ek c δ R P r)
theorem met_ok {D : Ends} {σ : L2.St} {c : Value} : ∀ {l : List (Value × (Addr → Value → Option Addr → TS))}, Met K Ek c δ R P l → Ok K G H R → DE K G σ δ → Cn K Ek P D G H R → wMany K Ek D l c none σ H
  | [], h, ok, en, k => k.xe c δ R σ G H h ok .refl en
  | (n, ts) :: r, ⟨b, h1, h2, h3⟩, ok, en, k => ⟨b, h1, fun e a _ => h2 e a G H σ D ok en k, fun e => met_ok (h3 e) ok en k⟩
theorem x_try {l : List (Value × (Addr → Value → Option Addr → TS))} {tb : WX → TS} (h : ∀ W, XS K W δ R (tb W) { P with xe := fun c δ' R' => Met K Ek c δ' R' P l }) : XS K Ek δ R (tTry K Ek l tb) P := fun G H σ D ok en k =>
  h _ G H σ D ok en ⟨k.nx, k.rt, k.bk, k.ct, fun c δ' R' σ' G' H' m ok' le en' => met_ok m ok' en' (k.mono le)⟩
/-- try: body, except n as x: suite; x stands in slot i -/
def tTryAs (K : PySem.W.Frag) (c : Value) (i : Nat) (ts : Addr → Value → Option Addr → TS) (Wout : WX) (tb : WX → TS) : TS := fun D σ H => tb (wAs K c i ts Wout D) D σ H
theorem x_tryAs {c : Value} {i : Nat} {ts : Addr → Value → Option Addr → TS} {tb : WX → TS} {Hx : Value → DEnv → Res → Prop} (h : ∀ W, XS K W δ R (tb W) { P with xe := Hx })
    (hh : ∀ e δ' R', Hx e δ' R' → ∃ b, PySem.W.exmOne K e c = some b ∧ (b = true → ∀ a, XS K Ek (δ'.set i (some (.r a))) R' (ts a e none) { P with nx := fun δ2 R2 => P.nx (δ2.set i none) R2, bk := fun δ2 R2 => P.bk (δ2.set i none) R2, ct := fun δ2 R2 => P.ct (δ2.set i none) R2 }) ∧ (b = false → P.xe e δ' R')) :
    XS K Ek δ R (tTryAs K c i ts Ek tb) P := fun G H σ D ok en k =>
  h _ G H σ D ok en ⟨k.nx, k.rt, k.bk, k.ct, fun e δ' R' σ' G' H' m ok' le en' => by
    obtain ⟨b, h1, h2, h3⟩ := hh e δ' R' m
    refine ⟨b, h1, fun q a _ => ?_, fun q => k.xe e δ' R' σ' G' H' (h3 q) ok' le en'⟩
    refine h2 q a G' H' _ _ ok' (en'.set (d := .r a) rfl) ⟨fun δ2 R2 σ2 G2 H2 p o l w => (k.mono le).nx _ R2 _ G2 H2 p o l w.unset, (k.mono le).rt, fun δ2 R2 σ2 G2 H2 p o l w => (k.mono le).bk _ R2 _ G2 H2 p o l w.unset, fun δ2 R2 σ2 G2 H2 p o l w => (k.mono le).ct _ R2 _ G2 H2 p o l w.unset, (k.mono le).xe⟩⟩
/-- isinstance(e, c), e the error that a suite holds -/
theorem ev_isE {Dd a : Addr} {c : V} {cv : Value} {b : Bool} (h : Ev K δ R ta (.r a)) (hc : ∀ u, RelV c u → u = cv) (hk : PySem.W.kitOne K (.ref Dd) cv = some b) : Ev K δ R (tCB (rIsE K Dd a) (tCons ta (tCons (tC c) tNil))) (.d (.bool b)) := fun G H σ Q ok en k => h G H σ _ ok en fun v G1 H1 ok1 l1 q1 => by
  cases (show v = .ref a from q1)
  exact ⟨c, cv, b, rfl, hc, hk, k _ G1 H1 ok1 l1 (show Hv G1 _ _ from .bl _)⟩
end
section
variable {X : Cx} {D : Ends}
theorem ps_rz {W : WX} {C : Addr} {e : Expr} {pos : Pos} (hc : X.calm = true) (tk : Takes X W) (he : PMk X e (fun _ H Q => Q (.ref C) none H)) : PS X (.Raise (some e) none pos) (tRz W (.ref C)) := ps_raise hc tk he
theorem ps_try' {body : List Stmt} {h₀ : ExceptHandler} {hds : List ExceptHandler} {l : List (Value × (Addr → Value → Option Addr → TS))} {pos : Pos} {tb : WX → TS} {Wout : WX} (hs : X.stack = X.env :: X.outer) (hf : X.env.frame = some X.env.locals) (tk : Takes X Wout)
    (hb : ∀ (W : WX) (pn : List (Addr × Obj)) (xe : Value → Shared → Prop), Takes (X.tr pn xe) W → PassesOwn (model X.prog X.w) X.A X.env xe → PSs (X.tr pn xe) body (tb W))
    (hh : HdsOk X (h₀ :: hds) l) : PS X (.Try body (h₀ :: hds) [] [] pos) (tTry X.K Wout l tb) := ps_try_many hs hf tk hb hh
end
end Fl
/-! Calls of what the text defines: defs, methods, classes, in each surrounding. -/
namespace Fl
open PySem PySem.Spec PyProof.Rows L2
section
variable (P : Program) (w : World) (K : PySem.W.Frag) (mg : Str → Option Value) (base : Heap)
structure Cl (k : Nat) (x : Str) (ps : List Str) (sp : Sp) : Prop where
  ex : ∃ (f : Addr) (fd : FuncData), FnOk P w K mg base (L2.CX P w) k f fd ps sp ∧ mg x = some (.ref f) ∧ PySem.W.keepIn K (.ref f) = true ∧ Binds K fd ps []
structure Mt (k : Nat) (C : Addr) (m : Str) (ps : List Str) (sp : Sp) : Prop where
  ex : ∃ (f : Addr) (fd : FuncData), FnOk P w K mg base (L2.CX P w) k f fd ps sp ∧ Cls K C ∧ Meth K C m f ∧ Binds K fd ps []
structure Mc (k : Nat) (x : Str) (C : Addr) (ps : List Str) (sp : Sp) : Prop where
  ex : ∃ (f : Addr) (fd : FuncData), FnOk P w K mg base (L2.CX P w) k f fd ps sp ∧ Mk K C f ∧ mg x = some (.ref C) ∧ Binds K fd ps []
end
/-- what a callee may let out is taken at the caller's slots -/
def Pas (X : Cx) (S : L2.St → XK) : Prop := ∀ σ, PassesAt (L2.CX X.prog X.w) X σ (S σ)
theorem pasN {X : Cx} : Pas X (fun _ => E0) := fun σ pins H s e s' I c => passL pins σ H s e s' I c
theorem pasX {X : Cx} {E : XK} (tk : Takes X (fun cls d _ H => E cls d H)) : Pas X (fun _ => E) := fun σ => passAt (W := fun cls d _ H => E cls d H) tk σ
theorem pasT {X : Cx} {W : WX} (tk : Takes X W) : Pas X (WE W) := fun σ => passAt tk σ
section
variable {X : Cx} {k j : Nat} {C : Addr} {x m : Str} {ps : List Str} {sp : Sp} {S : L2.St → XK} {p pos apos : Pos} {e o : Expr} {es : List Expr} {ta : TE} {t : TA}
theorem pe_cl (c : Cl X.prog X.w X.K X.mg X.base k x ps sp) (hr : Room j X.A) (hk : k ≤ j) (hg : Gl X x) (hx : Pas X S) (ha : PA X (e :: es) t)
    (hdb : (x == ("__debug__" : Str)) = false := by decide) (he : starEach (e :: es) X.env = (false, eval e X.env) :: starEach es X.env := by rfl) (hpl : (backTo pos (starEach es X.env)).any (·.1) = false := by rfl) :
    PE X (.Call (.Name x p) (e :: es) [] pos) (tCallS sp S t) := by
  obtain ⟨f, fd, F, hm, kp, b⟩ := c.ex
  exact pe_callS F (hr.mono hk) hg hm kp b hx ha hdb he hpl
theorem pe_mtS {pl : Sem Bool} (c : Mt X.prog X.w X.K X.mg X.base k C m ps sp) (hr : Room j X.A) (hk : k ≤ j) (hx : Pas X S) (ho : PE X o ta) (ha : PA X (e :: es) t)
    (hst : starEach (e :: es) X.env = (false, eval e X.env) :: starEach es X.env := by rfl) (hpl : (backTo pos (starEach es X.env)).any (·.1) = false := by rfl)
    (ht : eval (.Call (.Attribute o m apos) (e :: es) [] pos) X.env = (do
      let ov ← eval o X.env
      standAt apos.atName
      let (f, first) ← holding [ov] (getMethod ov m pl)
      callWith pos f first (backTo pos (starEach (e :: es) X.env)) (backToKw pos (keywordEach [] X.env))) := by rfl) :
    PE X (.Call (.Attribute o m apos) (e :: es) [] pos) (tMethS' C m sp S ta t) := by
  obtain ⟨f, fd, F, hc, hm, b⟩ := c.ex
  refine ⟨fun pins s σ H Q I h => ?_⟩
  refine PySem.W.methodCall_KW (pl := pl) (thn (ho.run pins s σ H _ I h) fun u s1 ⟨x, H1, I1, rx, a, dx, fs, ex, ea, l, q⟩ => ?_) ht
  subst ex
  obtain rfl : u = Value.ref a := rx
  refine getmeth_ok I1 ea hc hm l ?_
  refine PySem.W.callWith_K (first := [.ref a]) (h₀ := X.base) I.ok.mod.kin hm.kp (thn (ha.run pos pins s1 σ H1 _ I1 q) fun us s2 ⟨vs, H2, I2, r, q2⟩ => ⟨I2.kIn, ?_⟩) hst hpl
  exact run_fnS (us := .ref a :: us) (vs := .ref a :: vs) F (hr.mono hk) b (hx σ) I2 (.cons rfl r) q2
theorem pe_mtS0 {pl : Sem Bool} (c : Mt X.prog X.w X.K X.mg X.base k C m ps sp) (hr : Room j X.A) (hk : k ≤ j) (hx : Pas X S) (ho : PE X o ta)
    (ht : eval (.Call (.Attribute o m apos) [] [] pos) X.env = (do
      let ov ← eval o X.env
      standAt apos.atName
      let (f, first) ← holding [ov] (getMethod ov m pl)
      callWith pos f first (backTo pos (starEach [] X.env)) (backToKw pos (keywordEach [] X.env))) := by rfl) :
    PE X (.Call (.Attribute o m apos) [] [] pos) (tMethS' C m sp S ta tNil) := by
  obtain ⟨f, fd, F, hc, hm, b⟩ := c.ex
  refine ⟨fun pins s σ H Q I h => ?_⟩
  refine PySem.W.methodCall_KW (pl := pl) (thn (ho.run pins s σ H _ I h) fun u s1 ⟨x, H1, I1, rx, a, dx, fs, ex, ea, l, q⟩ => ?_) ht
  subst ex
  obtain rfl : u = Value.ref a := rx
  refine getmeth_ok I1 ea hc hm l ?_
  exact PySem.W.callWith_K0 (first := [.ref a]) I1.kIn hm.kp (run_fnS (us := [.ref a]) (vs := [.ref a]) F (hr.mono hk) b (hx σ) I1 (.cons rfl .nil) q)
theorem pe_mkS (c : Mc X.prog X.w X.K X.mg X.base k x C ps sp) (hr : Room j X.A) (hk : k + 1 ≤ j) (hg : Gl X x) (hx : Pas X S) (ha : PA X (e :: es) t)
    (hdb : (x == ("__debug__" : Str)) = false := by decide) (he : starEach (e :: es) X.env = (false, eval e X.env) :: starEach es X.env := by rfl) (hpl : (backTo pos (starEach es X.env)).any (·.1) = false := by rfl) :
    PE X (.Call (.Name x p) (e :: es) [] pos) (tMakeS C sp S t) := by
  obtain ⟨f, fd, F, M, hm, b⟩ := c.ex
  refine ⟨fun pins s σ H Q I h => ?_⟩
  refine wpAny_Call_Name_kw (ld_glob I hg hm ?_ hdb)
  refine PySem.W.callWith_K (h₀ := X.base) I.ok.mod.kin M.kp (thn (ha.run pos pins s σ H _ I h) fun us s1 ⟨vs, H1, I1, r, q⟩ => ⟨I1.kIn, ?_⟩) he hpl
  refine thn (Q := EP X pins σ fun v H2 => Q v H2) ?_ fun _ _ z => z
  have hq := q (s1.heap.objs.size + 1) s1.heap.objs.size (I1.hok.fresh (Nat.le_succ _)) (I1.hok.fresh (Nat.le_refl _)) (Nat.ne_of_lt (Nat.lt_succ_self _))
  have I2 := Inv.made (C := C) I1
  have r2 : Vals (V.ref (s1.heap.objs.size + 1) :: vs) (Value.ref (s1.heap.objs.size + 1) :: us) := .cons rfl r
  have hl : (Value.ref (s1.heap.objs.size + 1) :: us).length = ps.length := by
    have e := r2.length
    rw [F.len _ _ _ _ hq] at e
    exact e.symm
  have bb := b _ (Value.ref (s1.heap.objs.size + 1) :: us) I2.kIn (by rw [List.append_nil]; exact hl)
  rw [List.append_nil] at bb
  refine wpAny_call (make_map (f := f) I1.kIn M.makes M.init (beq_iff_eq.mp M.fn) (codeAny_mono (F.run _ X.stack _ _ ⟨Value.ref (s1.heap.objs.size + 1) :: us, []⟩ (Value.ref (s1.heap.objs.size + 1) :: us) _ _ (S σ) ((hr.mono hk).make C us [])
    (I2.env0.make C us []) bb r2 hq) fun r s' hq' => ?_))
  cases r with
  | error e => exact hx σ pins _ _ e s' I2 hq'
  | ok fl =>
    cases fl with
    | ret u =>
      obtain ⟨v, H', I3, rv, ev, q3⟩ := I2.after hq'
      subst ev
      exact ⟨rv, ⟨V.ref (s1.heap.objs.size + 1), H', I3, rfl, q3⟩⟩
    | next => exact False.elim hq'
    | brk => exact False.elim hq'
    | cont => exact False.elim hq'
end
theorem op_isN' {X : Cx} : OpR X (compareOp .Is) rIsN := op_isN
theorem op_notN' {X : Cx} : OpR X (compareOp .IsNot) rNotN := op_notN
theorem m1_of {X : Cx} {o : Expr} {m : Str} {apos cpos : Pos} {e : Expr} (h1 : attributeBase o m X.env (eval o X.env) = eval o X.env := by rfl)
    (h2 : ((backTo cpos (starEach [e] X.env)).all (fun x => !x.1) && (backToKw cpos (keywordEach [] X.env)).all (fun x => x.1.isSome) && decide (([e] : List Expr).length + ([] : List Keyword).length + (if ([] : List Keyword).isEmpty then 0 else 1) < 30)) = true := by rfl)
    (h3 : (apos.endLine == cpos.line) = true := by rfl) (h4 : backTo cpos (starEach [e] X.env) = [(false, eval e X.env)] := by rfl) : M1 X o m apos e cpos := ⟨h1, h2, h3, h4⟩
/-- a def holds its promise: a reading of its body, and what that reaches -/
theorem cl_of {P : Program} {w : World} {K : PySem.W.Frag} {mg : Str → Option Value} {base : Heap} {x qual : Str} {st : Stmt} {f : Addr} {fd : FuncData} {N ps : List Str} {k : Nat} {Φ : Fn} (t : XK → TS) (F : Fun K x qual st f fd) (S : FnScope N ps (defScope st))
    (len : ∀ ds R N' M', Φ ds R N' M' → ds.length = ps.length)
    (sem : ∀ (E : XK) (ds : List D) (R : Res) (N' : D → Res → Prop) (M' : Value → Res → Prop), Φ ds R N' M' → XS K (fun c d _ H => E c d H) (startD N ds) R (t E) (endsOf N' M'))
    (der : ∀ (cdv : Value) (A : Around) (outer : List Env) (s : Shared) (H : Hp) (E : XK), Room k (A.deeper (envOfC qual (defScope st) s.heap.objs.size f cdv)) → PSs (cxOf (L2.CX P w) P w K mg base N qual (defScope st) f cdv A outer s H E) (defBody st) (t E)) :
    FnOk P w K mg base (L2.CX P w) (k + 1) f fd ps (spD K Φ) :=
  F.okX S (fun vs H Q E h => sp_len len h) fun cdv A outer s H vs Q E hr h => ⟨t E, der cdv A outer s H E hr, fn_sem (t := t) sem h⟩
end Fl
/-! Forms for lists that are told by a map; the addresses of the classes. -/
namespace Fl
open PySem PySem.Spec PyProof.Rows L2
/-- where the text's classes stand -/
structure Ad where
  C : Addr
  bf : Addr
  ng : Addr
  nf : Addr
  nb : Addr
  ns : Addr
  sh : Addr
  oc : Addr
  bt : Addr
  le : Addr
def cutL {α : Type} (xs : List α) (lo hi : Option Int) : List α := (xs.drop (HT.sIx xs.length 0 lo)).take (HT.sIx xs.length xs.length hi - HT.sIx xs.length 0 lo)
theorem cutD_map {α : Type} (f : α → PyData) (xs : List α) (lo hi : Option Int) : cutD (xs.map f) lo hi = (cutL xs lo hi).map f := by
  unfold cutD cutL
  rw [List.length_map, List.map_take, List.map_drop]
theorem cutL_from {α : Type} (xs : List α) (n : Nat) : cutL xs (some (n : Int)) none = xs.drop n := by
  unfold cutL
  have e1 : HT.sIx xs.length 0 (some (n : Int)) = min n xs.length := by
    show (if (n : Int) < 0 then ((n : Int) + xs.length).toNat else min (n : Int).toNat xs.length) = _
    rw [if_neg (by omega)]
    simp
  have e2 : HT.sIx xs.length xs.length none = xs.length := rfl
  rw [e1, e2]
  by_cases h : n ≤ xs.length
  · rw [Nat.min_eq_left h]
    rw [List.take_of_length_le (by rw [List.length_drop]; omega)]
  · rw [Nat.min_eq_right (by omega), List.drop_of_length_le (Nat.le_refl _), List.drop_of_length_le (by omega)]
    simp
theorem cutL_upto {α : Type} (xs : List α) (n : Nat) : cutL xs none (some (n : Int)) = xs.take n := by
  unfold cutL
  have e1 : HT.sIx xs.length xs.length (some (n : Int)) = min n xs.length := by
    show (if (n : Int) < 0 then ((n : Int) + xs.length).toNat else min (n : Int).toNat xs.length) = _
    rw [if_neg (by omega)]
    simp
  have e2 : HT.sIx xs.length 0 none = 0 := rfl
  rw [e1, e2, List.drop_zero, Nat.sub_zero]
  by_cases h : n ≤ xs.length
  · rw [Nat.min_eq_left h]
  · rw [Nat.min_eq_right (by omega), List.take_of_length_le (Nat.le_refl _), List.take_of_length_le (by omega)]
theorem cutL_mid {α : Type} (xs : List α) (m n : Nat) : cutL xs (some (m : Int)) (some (n : Int)) = (xs.drop m).take (n - m) := by
  unfold cutL
  have e1 : ∀ k d : Nat, HT.sIx xs.length d (some (k : Int)) = min k xs.length := fun k d => by
    show (if (k : Int) < 0 then ((k : Int) + xs.length).toNat else min (k : Int).toNat xs.length) = _
    rw [if_neg (by omega)]
    simp
  rw [e1, e1]
  by_cases h : m ≤ xs.length
  · rw [Nat.min_eq_left h]
    apply List.ext_getElem?
    intro i
    rw [List.getElem?_take, List.getElem?_take, List.getElem?_drop]
    by_cases h1 : i < n - m
    · rw [if_pos h1]
      by_cases h2 : i < min n xs.length - m
      · rw [if_pos h2]
      · rw [if_neg h2, List.getElem?_eq_none (by omega)]
    · rw [if_neg h1, if_neg (by omega)]
  · have e2 : min m xs.length = xs.length := by omega
    rw [e2, List.drop_of_length_le (Nat.le_refl _), List.drop_of_length_le (by omega)]
    simp
section
variable {K : PySem.W.Frag} {Ek : WX} {R : Res} {δ : DEnv} {ta tb te tl : TE} {d x y z : D} {α : Type}
theorem evf_slM {tl th : TO} {lo hi : Option Int} {f : α → PyData} {xs : List α} (h : Ev K δ R te d) (h1 : EvO K δ R tl lo) (h2 : EvO K δ R th hi) (hl : Ls R d (xs.map f)) : EvF K δ R (tSl (rSlL K) te tl th) ((cutL xs lo hi).map f) := evf_is (evf_sl h h1 h2 hl) (cutD_map f xs lo hi)
theorem ei_rng1M {n : Int} (h : Ev K δ R ta (.d (.int n))) (hn : 0 ≤ n ∧ n ≤ 50000) : EvI K δ R (iRng1 (tCons ta tNil)) ((List.range n.toNat).map fun (i : Nat) => .int (i : Int)) := ei_is (ei_rng1 h hn) (by unfold rngD; simp)
theorem ei_rng2M {a n : Int} (h1 : Ev K δ R ta (.d (.int a))) (h2 : Ev K δ R tb (.d (.int n))) (hn : -50000 ≤ a ∧ a ≤ n + 1 ∧ n ≤ 50000 ∧ n - a ≤ 50000) : EvI K δ R (iRng2 (tCons ta (tCons tb tNil))) ((List.range (n - a).toNat).map fun (i : Nat) => .int (a + (i : Int))) := ei_rng2 h1 h2 hn
theorem rvf_plusM {f : α → PyData} {xs ys : List α} (hx : Ls R x (xs.map f)) (hy : Ls R y (ys.map f)) (hl : xs.length + ys.length ≤ 50000) : RVF K R rPlus x y ((xs ++ ys).map f) := by
  rw [List.map_append]
  exact rvf_plus hx hy (by rw [List.length_map, List.length_map]; exact hl)
theorem atI_some {xs : List α} {i : Nat} {v : α} (h : xs[i]? = some v) : atI xs (i : Int) = some v := atI_nat h
theorem atI_back {xs : List α} {v : α} (h : xs.getLast? = some v) : atI xs (-1) = some v := by
  have hne : xs ≠ [] := by intro e; subst e; cases h
  have e : xs = xs.dropLast ++ [v] := by
    rw [List.getLast?_eq_some_getLast hne] at h
    rw [← Option.some.inj h]
    exact (List.dropLast_concat_getLast hne).symm
  rw [e]
  exact atI_last _ _
theorem rv_ixLM {f : α → PyData} {xs : List α} {i : Int} {e : α} (h : Ls R x (xs.map f)) (ha : atI xs i = some e) : RV K R (rIx K) x (.d (.int i)) (.d (f e)) := rv_ixL h (atI_map ha)
end
/-! ### == of data told by a map -/
theorem eqv_ints : ∀ (a b : List Int), PyData.eqvAll (a.map .int) (b.map .int) = decide (a = b)
  | [], [] => rfl
  | [], _ :: _ => rfl
  | _ :: _, [] => rfl
  | x :: a, y :: b => by
    show (PyData.eqv (.int x) (.int y) && PyData.eqvAll (a.map .int) (b.map .int)) = _
    rw [eqv_ints a b]
    show ((x == y) && decide (a = b)) = decide (x :: a = y :: b)
    rw [Bool.eq_iff_iff]
    simp
theorem eqv_bools : ∀ (a b : List Bool), PyData.eqvAll (a.map .bool) (b.map .bool) = decide (a = b)
  | [], [] => rfl
  | [], _ :: _ => rfl
  | _ :: _, [] => rfl
  | x :: a, y :: b => by
    show (PyData.eqv (.bool x) (.bool y) && PyData.eqvAll (a.map .bool) (b.map .bool)) = _
    rw [eqv_bools a b]
    show ((x == y) && decide (a = b)) = decide (x :: a = y :: b)
    rw [Bool.eq_iff_iff]
    simp
theorem eqv_strs : ∀ (a b : List Str), PyData.eqvAll (a.map .str) (b.map .str) = decide (a = b)
  | [], [] => rfl
  | [], _ :: _ => rfl
  | _ :: _, [] => rfl
  | x :: a, y :: b => by
    show (PyData.eqv (.str x) (.str y) && PyData.eqvAll (a.map .str) (b.map .str)) = _
    rw [eqv_strs a b]
    show ((x == y) && decide (a = b)) = decide (x :: a = y :: b)
    rw [Bool.eq_iff_iff]
    simp
mutual
theorem eqv_self : ∀ d : PyData, d.plain = true → PyData.eqv d d = true := fun d h => SeqAt.eqv_refl_plain d h
end
/-! ### sides -/
def sds (u : Bool) : Str := if u then "up" else "down"
def sd (u : Bool) : PyData := .str (sds u)
theorem sds_inj {a b : Bool} (h : sds a = sds b) : a = b := by
  revert h
  cases a <;> cases b <;> decide
theorem sds_up (u : Bool) : (sds u == ("up" : Str)) = u := by cases u <;> decide
theorem sds_down (u : Bool) : (sds u == ("down" : Str)) = !u := by cases u <;> decide
theorem eqv_up (u : Bool) : PyData.eqv (sd u) (.str "up") = u := sds_up u
theorem eqv_down (u : Bool) : PyData.eqv (sd u) (.str "down") = !u := sds_down u
theorem eqv_sd (a b : Bool) : PyData.eqv (sd a) (sd b) = (a == b) := by
  show (sds a == sds b) = _
  revert a b
  decide
theorem eqv_sds (a b : List Bool) : PyData.eqvAll (a.map sd) (b.map sd) = decide (a = b) := by
  have e : ∀ l : List Bool, l.map sd = (l.map sds).map PyData.str := fun l => by rw [List.map_map]; rfl
  rw [e, e, eqv_strs, Bool.eq_iff_iff]
  simp only [decide_eq_true_eq]
  constructor
  · intro h
    exact (List.map_inj_right (fun x y => sds_inj)).mp h
  · intro h; rw [h]
/-! ### depth -/
theorem dep_all {α : Type} {f : α → PyData} {n : Nat} : ∀ (xs : List α), (∀ x, (f x).depth ≤ n) → PyData.depthAll (xs.map f) ≤ n
  | [], _ => Nat.zero_le _
  | x :: xs, h => by
    show max (f x).depth (PyData.depthAll (xs.map f)) ≤ n
    exact Nat.max_le.mpr ⟨h x, dep_all xs h⟩
theorem dep_l {a b : PyData} (h : a.depth ≤ 60) : min a.depth b.depth ≤ 64 := by omega
theorem dep_r {a b : PyData} (h : b.depth ≤ 60) : min a.depth b.depth ≤ 64 := by omega
theorem dep_map {α : Type} {f : α → PyData} {xs : List α} (h : ∀ x, (f x).depth ≤ 10) : (PyData.list (xs.map f)).depth ≤ 60 := by
  show PyData.depthAll (xs.map f) + 1 ≤ 60
  have := dep_all xs h
  omega
end Fl
namespace Fl
open PySem PySem.Spec PyProof.Rows L2
section
variable {K : PySem.W.Frag} {Ek : WX} {R : Res} {δ : DEnv} {te : TE} {d d' : D} {t u : TS} {P : Post} {tt : TT}
/-! ### forms that leave an equation -/
theorem x_retI (h : Ev K δ R te d') (e : d' = d) (n : P.rt d R) : XS K Ek δ R (tRet te) P := x_ret (ev_is h e) n
theorem x_asgI {i : Nat} (h : Ev K δ R te d') (e : d' = d) (n : P.nx (δ.set i (some d)) R) : XS K Ek δ R (tAsg te (gName i)) P := x_asg (ev_is h e) n
theorem x_ifI {b b' : Bool} (h : EvT K δ R tt b') (e : b' = b) (h1 : b = true → XS K Ek δ R t P) (h2 : b = false → XS K Ek δ R u P) : XS K Ek δ R (tIfS tt t u) P := x_if (et_is h e) h1 h2
theorem x_retFI {ds es : List PyData} (h : EvF K δ R te es) (e : es = ds) (n : ∀ a, P.rt (.r a) ((a, .lst ds) :: R)) : XS K Ek δ R (tRet te) P := x_retF (evf_is h e) n
theorem x_asgFI {i : Nat} {ds es : List PyData} (h : EvF K δ R te es) (e : es = ds) (n : ∀ a, P.nx (δ.set i (some (.r a))) ((a, .lst ds) :: R)) : XS K Ek δ R (tAsg te (gName i)) P := x_asgF (evf_is h e) n
/-- a loop over a list of α -/
theorem x_forI {α : Type} {wi : TI} {g : TG} {xs : List α} {enc : α → PyData} (I : Nat → DEnv → Res → Prop) (h : EvI K δ R wi (xs.map enc)) (h0 : I 0 δ R)
    (hs : ∀ (i : Nat) (w : α) δ' R', xs[i]? = some w → I i δ' R' → ∃ δ2, EvG K δ' g (enc w) δ2 ∧ XS K Ek δ2 R' t { P with nx := I (i + 1), ct := I (i + 1), bk := P.nx })
    (hd : ∀ δ' R', I xs.length δ' R' → P.nx δ' R') : XS K Ek δ R (tFor wi g t) P :=
  x_for I h h0 (fun i w δ' R' e p => by
    rw [List.getElem?_map] at e
    cases q : xs[i]? with
    | none => rw [q] at e; cases e
    | some x =>
      rw [q] at e
      cases e
      exact hs i x δ' R' q p) (fun δ' R' p => hd δ' R' (by rw [List.length_map] at p; exact p))
end
/-- what a def's body reaches, from its promise -/
abbrev Sem (K : PySem.W.Frag) (Φ : Fn) (N : List Str) (t : XK → TS) : Prop := ∀ (E : XK) (ds : List D) (R : Res) (N' : D → Res → Prop) (M' : Value → Res → Prop), Φ ds R N' M' → XS K (fun c d _ H => E c d H) (startD N ds) R (t E) (endsOf N' M')
/-- a list of two new own lists -/
theorem x_asgLL {K : PySem.W.Frag} {Ek : WX} {R : Res} {δ : DEnv} {ta tb : TE} {P : Post} {i : Nat} {xs ys : List PyData} (h1 : EvF K δ R ta xs) (h2 : ∀ a, EvF K δ ((a, .lst xs) :: R) tb ys) (n : ∀ a b c, P.nx (δ.set i (some (.r c))) ((c, .lsr [a, b]) :: (b, .lst ys) :: (a, .lst xs) :: R)) : XS K Ek δ R (tAsg (tLst (tCons ta (tCons tb tNil))) (gName i)) P := fun G H σ D ok en c =>
  h1 G H σ _ ok en fun a G1 H1 ok1 l1 => h2 a G1 H1 σ _ ok1 (en.mono l1.g) fun b G2 H2 ok2 l2 => ⟨by show 2 ≤ sizeLine; decide, fun p hp => by
    obtain ⟨ok3, l3⟩ := ok2.laid (o := .lst [.ref a, .ref b]) (q := .lsr [a, b]) hp ⟨upd_same, by show 2 ≤ 50000; decide⟩
    exact c.nx _ _ _ _ _ (n a b p) ok3 ((l1.trans l2).trans l3) (((en.mono l1.g).mono l2.g).set (d := .r p) rfl)⟩
/-- a call whose arguments may be own lists: read as data, the answer a scalar -/
inductive VwA (R : Res) : List D → List D → Prop
  | nil : VwA R [] []
  | same {d : D} {ds es : List D} (h : VwA R ds es) : VwA R (d :: ds) (d :: es)
  | vw {d : D} {x : PyData} {ds es : List D} (v : Vw R d x) (h : VwA R ds es) : VwA R (d :: ds) (.d x :: es)
def scalD : PyData → Bool
  | .list _ => false
  | .tuple _ => false
  | _ => true
theorem Hv.scal {G G' : Hp} {v : V} {x : PyData} (h : Hv G v x) (s : scalD x = true) : Hv G' v x := by
  cases h with
  | non => exact .non
  | bl b => exact .bl b
  | int i => exact .int i
  | str x => exact .str x
  | lst _ _ _ => cases s
  | tup _ _ _ => cases s
theorem VwA.hds {K : PySem.W.Frag} {G H : Hp} {R : Res} (ok : Ok K G H R) : ∀ {ds es : List D} {vs : List V}, VwA R ds es → HDs K G vs ds → HDs K H vs es
  | _, _, _, .nil, .nil => .nil
  | _, _, _, .same h, .cons a b => .cons (a.mono ok.ex) (VwA.hds ok h b)
  | _, _, _, .vw v h, .cons a b => .cons (v.hv ok a) (VwA.hds ok h b)
theorem ev_callZ {K : PySem.W.Frag} {R : Res} {δ : DEnv} {tA : TA} {ds es : List D} {Φ : Fn} {S : L2.St → XK} {x : PyData} (ha : EvA K δ R tA ds) (hv : VwA R ds es) (hp : Φ es [] (fun d' R' => d' = .d x ∧ R' = []) (fun _ _ => False)) (sc : scalD x = true) : Ev K δ R (tCallS (spD K Φ) S tA) (.d x) := fun G H σ Q ok en k =>
  ha G H σ _ ok en fun vs G1 H1 ok1 l1 ⟨q1, q2⟩ => ⟨H1, es, [], _, _, hv.hds ok1 (hds_of q1 q2), ⟨Gx.refl _, fun p hp => absurd hp List.not_mem_nil, List.nodup_nil⟩, hp, fun d R' v G' H' n ok' le h => by
    obtain ⟨rfl, rfl⟩ := n
    have gx : Gx H1 H' := fun a o e => le.h a o e (by simp)
    refine k v G1 H' ⟨ok1.ex.trans gx, fun p hp => ⟨(ok1.own p hp).1, Own1.mono (Gx.refl _) (fun o e => gx _ _ e) (ok1.own p hp).2⟩, ok1.nd⟩ ⟨l1.g, fun a o e m => gx _ _ (l1.h a o e m), l1.n, l1.r, fun a e => le.dm a (l1.dm a e)⟩ (Hv.scal h sc), fun c R' G' H' m => m.elim⟩
end Fl
namespace Fl
open PySem PySem.Spec PyProof.Rows L2
/-! Written lists at a reckoned place. -/
theorem eqv_int (a b : Int) : PyData.eqv (.int a) (.int b) = decide (a = b) := by
  show (a == b) = decide (a = b)
  rw [Bool.eq_iff_iff]; simp
theorem eqv_bool (a b : Bool) : PyData.eqv (.bool a) (.bool b) = decide (a = b) := by
  show (a == b) = decide (a = b)
  rw [Bool.eq_iff_iff]; simp
theorem eqv_str (a b : Str) : PyData.eqv (.str a) (.str b) = decide (a = b) := by
  show (a == b) = decide (a = b)
  rw [Bool.eq_iff_iff]; simp
theorem eqv_list (a b : List PyData) : PyData.eqv (.list a) (.list b) = PyData.eqvAll a b := rfl
def pws : List Int := [1, 2, 4, 8, 16, 32, 64, 128]
theorem pws_pos (c : Int) : ∀ k : Nat, CDiv c (pws.getD k 1)
  | 0 => show CDiv c 1 from ⟨by decide, by decide⟩
  | 1 => show CDiv c 2 from ⟨by decide, by decide⟩
  | 2 => show CDiv c 4 from ⟨by decide, by decide⟩
  | 3 => show CDiv c 8 from ⟨by decide, by decide⟩
  | 4 => show CDiv c 16 from ⟨by decide, by decide⟩
  | 5 => show CDiv c 32 from ⟨by decide, by decide⟩
  | 6 => show CDiv c 64 from ⟨by decide, by decide⟩
  | 7 => show CDiv c 128 from ⟨by decide, by decide⟩
  | k + 8 => show CDiv c 1 from ⟨by decide, by decide⟩
theorem pws_at : ∀ k : Nat, k < 8 → ([.int 1, .int 2, .int 4, .int 8, .int 16, .int 32, .int 64, .int 128] : List PyData)[k]? = some (.int (pws.getD k 1))
  | 0, _ => rfl
  | 1, _ => rfl
  | 2, _ => rfl
  | 3, _ => rfl
  | 4, _ => rfl
  | 5, _ => rfl
  | 6, _ => rfl
  | 7, _ => rfl
  | k + 8, h => by omega
section
variable {K : PySem.W.Frag} {R : Res} {δ : DEnv} {ta tb tc : TE}
theorem ev_pws {i : Int} (h : Ev K δ R tb (.d (.int i))) (hi : 0 ≤ i ∧ i < 8) : Ev K δ R (tOp (rIx K) (tLst (tCons (tC (.int 1)) (tCons (tC (.int 2)) (tCons (tC (.int 4)) (tCons (tC (.int 8)) (tCons (tC (.int 16)) (tCons (tC (.int 32)) (tCons (tC (.int 64)) (tCons (tC (.int 128)) tNil))))))))) tb) (.d (.int (pws.getD i.toNat 1))) := by
  refine ev_op (x := .d (.list [.int 1, .int 2, .int 4, .int 8, .int 16, .int 32, .int 64, .int 128])) (ev_frz (evf_lst (ex_cons ev_int (ex_cons ev_int (ex_cons ev_int (ex_cons ev_int (ex_cons ev_int (ex_cons ev_int (ex_cons ev_int (ex_cons ev_int ex_nil)))))))) (by decide))) h (rv_ixL (.d _) ?_)
  have e : ((i.toNat : Nat) : Int) = i := by omega
  have q := atI_some (pws_at i.toNat (by omega))
  rw [e] at q
  exact q
/-- [a, b][i], i 0 or 1 -/
theorem ev_pair {i : Int} {x y : PyData} (ha : Ev K δ R ta (.d x)) (hb : Ev K δ R tb (.d y)) (h : Ev K δ R tc (.d (.int i))) (hi : i = 0 ∨ i = 1) : Ev K δ R (tOp (rIx K) (tLst (tCons ta (tCons tb tNil))) tc) (.d (if i = 0 then x else y)) := by
  refine ev_op (ev_frz (evf_lst (ex_cons ha (ex_cons hb ex_nil)) (by show 2 ≤ 50000; decide))) h (rv_ixL (.d _) ?_)
  rcases hi with rfl | rfl <;> rfl
theorem ev_pairB {b : Bool} {x y : PyData} (ha : Ev K δ R ta (.d x)) (hb : Ev K δ R tb (.d y)) (h : Ev K δ R tc (.d (.bool b))) : Ev K δ R (tOp (rIx K) (tLst (tCons ta (tCons tb tNil))) (tCB rInt1 (tCons tc tNil))) (.d (if b = true then y else x)) := by
  refine ev_is (ev_pair ha hb (ev_int1 h) (by cases b <;> decide)) ?_
  cases b <;> rfl
theorem ev_updown {i : Int} (h : Ev K δ R tc (.d (.int i))) (hi : i = 0 ∨ i = 1) : Ev K δ R (tOp (rIx K) (tLst (tCons (tC (.str "up")) (tCons (tC (.str "down")) tNil))) tc) (.d (sd (decide (i = 0)))) :=
  ev_is (ev_pair ev_str ev_str h hi) (by rcases hi with rfl | rfl <;> rfl)
end
end Fl
namespace Fl
open PySem PySem.Spec PyProof.Rows L2
/-! The ends. -/
/-- what a law promises -/
def Φ_top : Fn := fun ds R N M => ∃ ns, ds = [.s ns] ∧ R = [] ∧ ns.length ≤ 63 ∧ ∀ R', N (.d (.bool true)) R'
theorem law_start {K : PySem.W.Frag} {H : Hp} {a : Addr} {ns : List Int} (hl : ns.length ≤ 63) (hs : SqL K H a (ns.map V.int)) : spD K Φ_top [.ref a] H (fun v _ => v = .bl true) fun _ _ _ => False :=
  ⟨H, [.s ns], [], fun d _ => d = .d (.bool true), fun _ _ => False, .cons ⟨a, rfl, hs⟩ .nil, ⟨Gx.refl H, fun p hp => absurd hp List.not_mem_nil, List.nodup_nil⟩, ⟨ns, rfl, rfl, hl, fun _ => rfl⟩, fun d R' v G' H' n ok le h => by
    subst n
    cases (show Hv G' v (.bool true) from h)
    rfl, fun _ _ _ _ m => m.elim⟩
theorem walk_fl {l : PySem.W.OpenLaw} {k : Nat} {q : Program} {loose : List Str} {XP : (Str → Option Value) → Heap → Prop} {YP : World → Heap → Prop} {d : DefRec} {K : Params → PySem.W.Frag}
    (hn : l.most = some 63) (hdf : d.params.defaults = []) (hr : Room k callerA) (hY : ∀ (w : World) (h : Heap), YP w h → (K w.params).In h)
    (F : ∀ (w : World) (mg : Str → Option Value) (fa : Addr) (h : Heap), (K w.params).In h → h.Ns mainGlobals mg → mg d.name = some (.ref fa) →
      ∃ fd : FuncData, (∀ (s : Shared) (u : Value), BindsTo s fd ⟨[u], []⟩ [(("script" : Str), u)]) ∧ ∀ base : Heap, (K w.params).In base → base.Ns mainGlobals mg → FnOk l.prog w (K w.params) mg base (L2.CX l.prog w) k fa fd ["script"] (spD (K w.params) Φ_top)) :
    PySem.W.WalkO q loose XP YP l.row.toRowW d [] (fun f vs => PySem.call f vs) :=
  L2.walk_of (n := 63) (k := k) (x := "script") (CX := fun w => L2.CX l.prog w) (sp := fun w => spD (K w.params) Φ_top) hn (by decide) hdf hr hY F (fun _ _ _ _ hl _ hS => law_start hl hS) fun _ _ _ _ _ z => by
    obtain ⟨_, _, _, _, _, _, _, _, _, _, _, _, z⟩ := z
    exact z.elim
theorem pe_gcn {X : Cx} {x : Str} {pos : Pos} {v : V} (hg : Gl X x) (h : ∃ u, X.mg x = some u ∧ RelV v u) (hd : (x == ("__debug__" : Str)) = false := by decide) : PE X (.Name x pos) (tC v) := by
  obtain ⟨u, hm, r⟩ := h
  exact pe_glob hg hm r hd
end Fl
namespace Fl
open PySem PySem.Spec PyProof.Rows L2
/-! What is owned, in another order or in part; a part of it handed to a callee. -/
theorem adr_sub {R0 R : Res} (s : ∀ p ∈ R0, p ∈ R) {a : Addr} (m : a ∈ adr R0) : a ∈ adr R := by
  obtain ⟨p, hp, rfl⟩ := List.mem_map.mp m
  exact List.mem_map.mpr ⟨p, s p hp, rfl⟩
section
variable {K : PySem.W.Frag} {Ek : WX} {G G' H H' : Hp} {R R0 R' R1 : Res} {δ δ' : DEnv} {ta tb tc te tl : TE} {d x y z : D} {t u : TS} {P : Post} {tt : TT} {D : Ends}
theorem Ok.sub (ok : Ok K G H R) (s : ∀ p ∈ R0, p ∈ R) (nd : (adr R0).Nodup) : Ok K G H R0 := ⟨ok.ex, fun p hp => ok.own p (s p hp), nd⟩
theorem Le.subL (s : ∀ p ∈ R0, p ∈ R) (le : Le G H R0 G' H' R') : Le G H R G' H' R' := ⟨le.g, fun a o e n => le.h a o e fun m => n (adr_sub s m), fun a e => (le.n a e).imp id (fun q => q.imp id (adr_sub s)), fun a m => (le.r a m).imp (adr_sub s) id, le.dm⟩
theorem Le.subR (s : ∀ p ∈ R0, p ∈ R') (le : Le G H R G' H' R') : Le G H R G' H' R0 := ⟨le.g, le.h, le.n, fun a m => le.r a (adr_sub s m), le.dm⟩
theorem Cn.subL (c : Cn K Ek P D G H R) (s : ∀ p ∈ R0, p ∈ R) : Cn K Ek P D G H R0 :=
  ⟨fun a b e f g p q l => c.nx a b e f g p q (l.subL s), fun a b e f g p q l => c.rt a b e f g p q (l.subL s), fun a b e f g p q l => c.bk a b e f g p q (l.subL s), fun a b e f g p q l => c.ct a b e f g p q (l.subL s), fun a b e f g h p q l => c.xe a b e f g h p q (l.subL s)⟩
theorem XS.sub (h : XS K Ek δ R0 t P) (s : ∀ p ∈ R0, p ∈ R) (nd : (adr R).Nodup → (adr R0).Nodup) : XS K Ek δ R t P := fun G H σ D ok en c => h G H σ D (ok.sub s (nd ok.nd)) en (c.subL s)
theorem XS.dropL (h : XS K Ek δ R0 t P) (s : R0.Sublist R) : XS K Ek δ R t P := h.sub (fun p hp => s.subset hp) fun nd => nd.sublist (s.map _)
theorem XS.perm (h : XS K Ek δ R0 t P) (s : R0.Perm R) : XS K Ek δ R t P := h.sub (fun p hp => s.subset hp) fun nd => ((s.map (·.1)).nodup_iff).mpr nd
theorem Ok.perm (ok : Ok K G H R) (s : R.Perm R0) : Ok K G H R0 := ok.sub (fun p hp => s.symm.subset hp) (((s.map (·.1)).nodup_iff).mp ok.nd)
theorem Le.permR (le : Le G H R G' H' R') (s : R'.Perm R0) : Le G H R G' H' R0 := le.subR fun p hp => s.symm.subset hp
theorem XS.forget (h : XS K Ek δ R t P) {p : Addr × RO} : XS K Ek δ (p :: R) t P := h.dropL (List.sublist_cons_self p R)
/-- R1 stands in R; f puts another in its place -/
inductive Inn (X : Res) : Res → (Res → Res) → Prop
  | one : Inn X X fun Y => Y
  | here (B : Res) : Inn X (X ++ B) fun Y => Y ++ B
  | there (Z : Res) {R : Res} {f : Res → Res} (h : Inn X R f) : Inn X (Z ++ R) fun Y => Z ++ f Y
  | cons (z : Addr × RO) {R : Res} {f : Res → Res} (h : Inn X R f) : Inn X (z :: R) fun Y => z :: f Y
theorem Inn.eq {X : Res} {f : Res → Res} (h : Inn X R f) : ∃ A B, R = A ++ X ++ B ∧ ∀ Y, f Y = A ++ Y ++ B := by
  induction h with
  | one => exact ⟨[], [], by simp, fun Y => by simp⟩
  | here B => exact ⟨[], B, by simp, fun Y => by simp⟩
  | there Z h ih =>
    obtain ⟨A, B, rfl, e⟩ := ih
    exact ⟨Z ++ A, B, by simp, fun Y => by simp [e]⟩
  | cons z h ih =>
    obtain ⟨A, B, rfl, e⟩ := ih
    exact ⟨z :: A, B, by simp, fun Y => by simp [e]⟩
section
variable {tA : TA} {ds : List Fl.D} {Φ : Fn} {S : L2.St → XK} {N : Fl.D → Res → Prop} {M : Value → Res → Prop} {f : Res → Res} {C p : Addr} {m : Str} {fs : List (Str × Fl.D)}
theorem ee_callN (hi : Inn R1 R f) (ha : EvA K δ R tA ds) (hp : Φ ds R1 (fun d R' => N d (f R')) (fun c R' => M c (f R'))) (hE : ∀ c R' σ H', M c R' → Ek c none σ H' → S σ c none H') : EvE K Ek δ R (tCallS (spD K Φ) S tA) N M := by
  obtain ⟨A, B, rfl, e⟩ := hi.eq
  obtain rfl : f = fun Y => A ++ Y ++ B := funext e
  exact ee_call ha hp hE
theorem ee_methN (h1 : Ev K δ R ta (.r p)) (hi : Inn R1 R f) (h0 : R1[0]? = some (p, .ins C fs)) (hl : fs.lookup m = none) (ha : EvA K δ R tA ds) (hp : Φ (.r p :: ds) R1 (fun d R' => N d (f R')) (fun c R' => M c (f R'))) (hE : ∀ c R' σ H', M c R' → Ek c none σ H' → S σ c none H') :
    EvE K Ek δ R (tMethS' C m (spD K Φ) S ta tA) N M := by
  obtain ⟨A, B, rfl, e⟩ := hi.eq
  obtain rfl : f = fun Y => A ++ Y ++ B := funext e
  have q : (A ++ R1 ++ B)[A.length]? = some (p, RO.ins C fs) := by
    have l1 : 0 < R1.length := by
      cases R1 with
      | nil => simp at h0
      | cons _ _ => simp
    rw [List.append_assoc, List.getElem?_append_right (Nat.le_refl _), Nat.sub_self, List.getElem?_append_left l1]
    exact h0
  exact ee_meth (i := A.length) h1 q hl ha hp hE
theorem ev_eeP (h : EvE K (fun _ _ _ _ => False) δ R te (fun d' R' => d' = d ∧ R'.Perm R) fun _ _ => False) : Ev K δ R te d := fun G H σ Q ok en k => h G H σ Q ok en (fun d' R' v G' H' q ok' le hv => by
  obtain ⟨rfl, pr⟩ := q
  exact k v G' H' (ok'.perm pr) (le.permR pr) hv) fun c R' G' H' q => q.elim
theorem evf_eeP {es : List PyData} (h : EvE K (fun _ _ _ _ => False) δ R te (fun d' R' => ∃ a, d' = .r a ∧ R'.Perm ((a, .lst es) :: R)) fun _ _ => False) : EvF K δ R te es := fun G H σ Q ok en k => h G H σ Q ok en (fun d' R' v G' H' q ok' le hv => by
  obtain ⟨a, rfl, pr⟩ := q
  cases (show v = .ref a from hv)
  exact k a G' H' (ok'.perm pr) (le.permR pr)) fun c R' G' H' q => q.elim
theorem Inn.back (hi : Inn R1 R f) : f R1 = R := by
  obtain ⟨A, B, rfl, e⟩ := hi.eq
  exact e R1
theorem Inn.new {q : Addr × RO} (hi : Inn R1 R f) : (f (q :: R1)).Perm (q :: R) := by
  obtain ⟨A, B, rfl, e⟩ := hi.eq
  rw [e]
  simp only [List.append_assoc, List.cons_append]
  exact List.perm_middle
theorem ev_methN (h1 : Ev K δ R ta (.r p)) (hi : Inn R1 R f) (h0 : R1[0]? = some (p, .ins C fs)) (hl : fs.lookup m = none) (ha : EvA K δ R tA ds) (hp : f R1 = R → Φ (.r p :: ds) R1 (fun d' R' => d' = d ∧ f R' = R) (fun _ _ => False)) : Ev K δ R (tMethS' C m (spD K Φ) S ta tA) d :=
  ev_ee (ee_methN (Ek := fun _ _ _ _ => False) (N := fun d' R' => d' = d ∧ R' = R) (M := fun _ _ => False) h1 hi h0 hl ha (hp hi.back) fun _ _ _ _ z => z.elim)
theorem evf_methN {es : List PyData} (h1 : Ev K δ R ta (.r p)) (hi : Inn R1 R f) (h0 : R1[0]? = some (p, .ins C fs)) (hl : fs.lookup m = none) (ha : EvA K δ R tA ds) (hp : (∀ q, (f (q :: R1)).Perm (q :: R)) → Φ (.r p :: ds) R1 (fun d' R' => ∃ a, d' = .r a ∧ (f R').Perm ((a, .lst es) :: R)) (fun _ _ => False)) : EvF K δ R (tMethS' C m (spD K Φ) S ta tA) es :=
  evf_eeP (ee_methN (Ek := fun _ _ _ _ => False) (N := fun d' R' => ∃ a, d' = .r a ∧ R'.Perm ((a, .lst es) :: R)) (M := fun _ _ => False) h1 hi h0 hl ha (hp fun _ => hi.new) fun _ _ _ _ z => z.elim)
theorem ev_callN (hi : Inn R1 R f) (ha : EvA K δ R tA ds) (hp : f R1 = R → Φ ds R1 (fun d' R' => d' = d ∧ f R' = R) (fun _ _ => False)) : Ev K δ R (tCallS (spD K Φ) S tA) d :=
  ev_ee (ee_callN (Ek := fun _ _ _ _ => False) (N := fun d' R' => d' = d ∧ R' = R) (M := fun _ _ => False) hi ha (hp hi.back) fun _ _ _ _ z => z.elim)
theorem evf_callN {es : List PyData} (hi : Inn R1 R f) (ha : EvA K δ R tA ds) (hp : (∀ q, (f (q :: R1)).Perm (q :: R)) → Φ ds R1 (fun d' R' => ∃ a, d' = .r a ∧ (f R').Perm ((a, .lst es) :: R)) (fun _ _ => False)) : EvF K δ R (tCallS (spD K Φ) S tA) es :=
  evf_eeP (ee_callN (Ek := fun _ _ _ _ => False) (N := fun d' R' => ∃ a, d' = .r a ∧ R'.Perm ((a, .lst es) :: R)) (M := fun _ _ => False) hi ha (hp fun _ => hi.new) fun _ _ _ _ z => z.elim)
end
/-! ### comprehensions over an own list -/
def IsItR (K : PySem.W.Frag) (J : It) (G : Hp) (R : Res) (us : List PyData) : Prop := ∀ G2 H2 : Hp, Gx G G2 → Ok K G2 H2 R → (∀ i, us.length ≤ i → J.stop i H2) ∧ ∀ (i : Nat) (u : PyData), us[i]? = some u → J.go i H2 ∧ ∀ x H', J.yld i H2 x H' → StepTo K G2 H2 x H' u
def EvIR (K : PySem.W.Frag) (δ : DEnv) (R : Res) (wi : TI) (us : List PyData) : Prop := ∀ (G H : Hp) (σ : L2.St) (Q : It → Hp → Prop), Ok K G H R → DE K G σ δ →
  (∀ J G' H', Ok K G' H' R → Le G H R G' H' R → us.length ≤ 50000 → IsItR K J G' R us → Q J H') → wi σ H Q
theorem eir_own {i : Nat} {a : Addr} {us : List PyData} (h : Ev K δ R tl (.r a)) (hi : R[i]? = some (a, .lst us)) : EvIR K δ R (iList K tl) us := fun G H σ Q ok en k => h G H σ _ ok en fun v G1 H1 ok1 l1 q1 => by
  cases (show v = .ref a from q1)
  obtain ⟨vs, e1, e2, e3⟩ := ok1.at hi
  refine ⟨a, rfl, ⟨vs, SqL.of e1⟩, k _ G1 H1 ok1 l1 (by rw [← e3.len]; exact e2) fun G2 H2 gx ok2 => ?_⟩
  obtain ⟨ws, f1, f2, f3⟩ := ok2.at hi
  have el := f3.len
  refine ⟨fun j hj => ⟨ws, SqL.of f1, by omega⟩, fun j u hu => ?_⟩
  obtain ⟨w, h1, h2⟩ := f3.getd hu
  exact ⟨⟨ws, w, SqL.of f1, h1⟩, fun x H' ⟨y1, y2⟩ => .inl ⟨y1, by
    have q := y2 ws (SqL.of f1)
    rw [h1] at q
    cases q
    exact h2⟩⟩
theorem evf_lcGR {wi : TI} {j : Nat} {vs : List Nat} {us : List PyData} (g : Nat → PyData) (hi : EvIR K δ R wi us) (hj : j ∈ vs)
    (he : ∀ (i : Nat) (u : PyData), us[i]? = some u → Ev K ((wipeD δ vs).set j (some (.d u))) R te (.d (g i))) :
    EvF K δ R (tLc wi (gName j) tYes te vs) ((List.range us.length).map g) := fun G H σ Q ok en k => hi G H σ _ ok en fun J G1 H1 ok1 l1 hlen it => by
  intro Dl hD
  let acc := fun n => (List.range n).map g
  have acc_len : ∀ n, (acc n).length ≤ n := fun n => by
    show ((List.range n).map g).length ≤ n
    simp
  have acc_yes : ∀ n, acc (n + 1) = acc n ++ [g n] := fun n => by
    show (List.range (n + 1)).map g = (List.range n).map g ++ [g n]
    rw [List.range_succ, List.map_append]
    rfl
  let W : Nat → Hp → Prop := fun n H2 => ∃ G2, Ok K G2 H2 ((Dl, .lst (acc n)) :: R) ∧ Le G H R G2 H2 ((Dl, .lst (acc n)) :: R) ∧ Gx G1 G2
  have start : W 0 (upd H1 Dl (.lst [])) := by
    obtain ⟨ok2, l2⟩ := ok1.laid (p := Dl) (o := .lst []) (q := .lst []) hD ⟨[], upd_same, Nat.zero_le _, .nil⟩
    exact ⟨G1, ok2, l1.trans l2, Gx.refl _⟩
  refine ⟨fun i m H2 => m = us.length - i ∧ i ≤ us.length ∧ W i H2, ⟨us.length, by simp, Nat.zero_le _, start⟩, ?_⟩
  rintro i m H2 ⟨rfl, hle, G2, ok2, l2, gx⟩
  obtain ⟨st, go⟩ := it G2 H2 gx (ok_pre ok2)
  by_cases hlt : i < us.length
  · obtain ⟨u, hu⟩ : ∃ u, us[i]? = some u := ⟨us[i], List.getElem?_eq_getElem hlt⟩
    obtain ⟨hg, hy⟩ := go i u hu
    refine .inr ⟨hg, W (i + 1), fun H' p => ⟨us.length - (i + 1), by omega, rfl, hlt, p⟩, fun x H3 y => ?_⟩
    obtain ⟨G3, ok3, l3, hv⟩ := (hy x H3 y).ok (ok_pre ok2)
    obtain ⟨ok3', l3'⟩ := ok_pre_whole ok2 ok3 l3
    have enw : DE K G3 (L2.wipe σ vs) (wipeD δ vs) := (en.wipe vs).mono (l2.g.trans l3.g)
    show L2.wipe ((L2.wipe σ vs).set j (some x)) vs = L2.wipe σ vs ∧ _
    refine ⟨wipe_set hj, ?_⟩
    show tYes _ _ _
    refine (et_yes (K := K)) G3 H3 _ _ ok3 (enw.set (d := .d u) hv) fun G4 H4 ok4 l4 => ?_
    obtain ⟨ok4', l4'⟩ := ok_pre_whole ok3' ok4 l4
    rw [if_pos rfl]
    refine he i u hu G4 H4 _ _ ok4 ((enw.set (d := .d u) hv).mono l4.g) fun y G5 H5 ok5 l5 q5 => ?_
    obtain ⟨ok5', l5'⟩ := ok_pre_whole ok4' ok5 l5
    obtain ⟨ws, e1, e2, e3⟩ := ok5'.at (i := 0) rfl
    have el := e3.len
    have al := acc_len i
    refine ⟨ws, e1, lim_lt e2, G5, ?_⟩
    have w := ok5'.write (i := 0) (a := Dl) (o := .lst (ws ++ [y])) (q := .lst (acc (i + 1))) rfl ⟨_, upd_same, by rw [List.length_append]; show ws.length + 1 ≤ 50000; omega, by rw [acc_yes i]; exact e3.app (.cons q5 .nil)⟩
    obtain ⟨ok6, l6⟩ := w
    exact ⟨ok6, (((l2.trans l3').trans l4').trans l5').trans l6, ((gx.trans l3.g).trans l4.g).trans l5.g⟩
  · have e : i = us.length := by omega
    subst e
    exact .inl ⟨st _ (Nat.le_refl _), k Dl G2 H2 ok2 l2⟩
/-- [None for x in an own list] and its like -/
theorem evf_lcR0 {i j : Nat} {vs : List Nat} {us : List PyData} {a : Addr} {w : PyData} (h : Ev K δ R tl (.r a)) (hi : R[i]? = some (a, .lst us)) (hj : j ∈ vs) (he : ∀ u, Ev K ((wipeD δ vs).set j (some (.d u))) R te (.d w)) :
    EvF K δ R (tLc (iList K tl) (gName j) tYes te vs) (List.replicate us.length w) :=
  evf_is (evf_lcGR (fun _ => w) (eir_own h hi) hj fun _ u _ => he u) (by rw [List.map_const', List.length_range])
/-! ### dicts keyed by tuples -/
def keyT (ks : List Key) : PyData := .tuple (ks.map keyD)
theorem Hvs.keys {G : Hp} : ∀ {ks : List Key} {vs : List V}, Hvs G vs (ks.map keyD) → vs = ks.map kV
  | [], _, h => by cases h; rfl
  | k :: ks, _, h => by
    cases h with
    | cons h1 h2 => rw [Hv.key h1, Hvs.keys h2]; rfl
theorem Hv.keyT {G : Hp} {v : V} {ks : List Key} (h : Hv G v (keyT ks)) : ∃ b, v = .ref b ∧ G b = some (.tup (ks.map kV)) := by
  cases h with
  | tup h1 h2 h3 => exact ⟨_, rfl, by rw [← h3.keys]; exact h1⟩
def valT (kvs : List (List Key × Int)) (k : List Key) : Option Int := (kvs.find? fun kv => decide (kv.1 = k)).map (·.2)
def putT (kvs : List (List Key × Int)) (k : List Key) (v : Int) : List (List Key × Int) := if (kvs.any fun kv => decide (kv.1 = k)) = true then kvs.map (fun kv => if kv.1 = k then (kv.1, v) else kv) else kvs ++ [(k, v)]
abbrev encKT (kvs : List (List Key × Int)) : List (List Key × V) := kvs.map fun p => (p.1, V.int p.2)
theorem valV_T (kvs : List (List Key × Int)) (k : List Key) : valV (encKT kvs) k = (valT kvs k).map V.int := by
  induction kvs with
  | nil => rfl
  | cons p r ih =>
    by_cases e : p.1 = k
    · have q : valT (p :: r) k = some p.2 := by simp [valT, List.find?_cons, e]
      rw [q]
      exact valV_pos e
    · have q : valT (p :: r) k = valT r k := by simp [valT, List.find?_cons, e]
      rw [q, ← ih]
      exact valV_neg e
theorem putK_T (kvs : List (List Key × Int)) (k : List Key) (v : Int) : L2.putK (encKT kvs) k (V.int v) = encKT (putT kvs k v) := by
  unfold L2.putK putT
  have e : ((encKT kvs).any fun kv => decide (kv.1 = k)) = (kvs.any fun kv => decide (kv.1 = k)) := by
    simp [encKT, List.any_map, Function.comp_def]
  rw [e]
  split
  · simp only [encKT, List.map_map]
    refine List.map_congr_left fun p _ => ?_
    show (if p.1 = k then (p.1, V.int v) else (p.1, V.int p.2)) = ((if p.1 = k then (p.1, v) else p).1, V.int (if p.1 = k then (p.1, v) else p).2)
    split <;> rfl
  · simp [encKT]
theorem ev_dgetT {i : Nat} {a : Addr} {kvs : List (List Key × Int)} {k : List Key} {n : Int} (h1 : Ev K δ R ta (.r a)) (h2 : Ev K δ R tb (.d (keyT k))) (hi : R[i]? = some (a, .dit kvs)) (hl : valT kvs k = some n) : Ev K δ R (tDGet ta tb) (.d (.int n)) := fun G H σ Q ok en kk =>
  h1 G H σ _ ok en fun v G1 H1 ok1 l1 q1 => h2 G1 H1 σ _ ok1 (en.mono l1.g) fun w G2 H2 ok2 l2 q2 => by
    cases (show v = .ref a from q1)
    obtain ⟨b, rfl, eb⟩ := Hv.keyT (show Hv G2 w (keyT k) from q2)
    obtain ⟨e, _⟩ := ok2.at hi
    have q := DGet.t (k := k) e (ok2.ex _ _ eb)
    rw [valV_T, hl] at q
    exact ⟨a, _, rfl, q, kk _ G2 H2 ok2 (l1.trans l2) (show Hv G2 _ _ from .int _)⟩
theorem ev_dinT {i : Nat} {a : Addr} {kvs : List (List Key × Int)} {k : List Key} (h2 : Ev K δ R tb (.d (keyT k))) (h1 : Ev K δ R ta (.r a)) (hi : R[i]? = some (a, .dit kvs)) : Ev K δ R (tDIn tb ta) (.d (.bool (valT kvs k).isSome)) := fun G H σ Q ok en kk =>
  h2 G H σ _ ok en fun w G1 H1 ok1 l1 q1 => h1 G1 H1 σ _ ok1 (en.mono l1.g) fun v G2 H2 ok2 l2 q2 => by
    cases (show v = .ref a from q2)
    obtain ⟨b, rfl, eb⟩ := Hv.keyT (show Hv G1 w (keyT k) from q1)
    obtain ⟨e, _⟩ := ok2.at hi
    refine ⟨a, _, rfl, DGet.t (k := k) e (ok2.ex _ _ (l2.g _ _ eb)), ?_⟩
    rw [valV_T, Option.isSome_map]
    exact kk _ G2 H2 ok2 (l1.trans l2) (show Hv G2 _ _ from .bl _)
theorem putT_len (kvs : List (List Key × Int)) (k : List Key) (v : Int) : (putT kvs k v).length ≤ kvs.length + 1 := by
  unfold putT
  split
  · simp
  · simp
theorem x_dputT {i : Nat} {a : Addr} {kvs : List (List Key × Int)} {k : List Key} {n : Int} (h : Ev K δ R te (.d (.int n))) (h1 : Ev K δ R ta (.r a)) (h2 : Ev K δ R tb (.d (keyT k))) (hi : R[i]? = some (a, .dit kvs)) (hz : kvs.length < 50000) (nx : P.nx δ (R.set i (a, .dit (putT kvs k n)))) :
    XS K Ek δ R (sDPut ta tb te) P := fun G H σ D ok en c => h G H σ _ ok en fun u G1 H1 ok1 l1 q1 => h1 G1 H1 σ _ ok1 (en.mono l1.g) fun v G2 H2 ok2 l2 q2 => h2 G2 H2 σ _ ok2 ((en.mono l1.g).mono l2.g) fun x G3 H3 ok3 l3 q3 => by
  cases (show v = .ref a from q2)
  cases (show Hv G1 u (.int n) from q1)
  obtain ⟨b, rfl, eb⟩ := Hv.keyT (show Hv G3 x (keyT k) from q3)
  obtain ⟨e, hl⟩ := ok3.at hi
  have pl := putT_len kvs k n
  have pq : DPut H3 a (.ref b) (V.int n) (upd H3 a (.dT (encKT (putT kvs k n)))) := by
    rw [← putK_T]
    exact DPut.t e (ok3.ex _ _ eb) (by rw [List.length_map]; exact lim_lt (Nat.le_of_lt hz))
  obtain ⟨ok4, l4⟩ := ok3.write (o := .dT (encKT (putT kvs k n))) (q := .dit (putT kvs k n)) hi ⟨upd_same, by omega⟩
  exact ⟨a, _, rfl, pq, c.nx δ _ σ _ _ nx ok4 (((l1.trans l2).trans l3).trans l4) ((((en.mono l1.g).mono l2.g).mono l3.g).mono l4.g)⟩
/-- x = {}, a dict that is keyed by tuples -/
theorem x_asgNT {i : Nat} (n : ∀ a, P.nx (δ.set i (some (.r a))) ((a, .dit []) :: R)) : XS K Ek δ R (tAsg tDNewT (gName i)) P := fun G H σ D ok en c => by
  intro p hp
  obtain ⟨ok1, l1⟩ := ok.laid (o := .dT []) (q := .dit []) hp ⟨upd_same, Nat.zero_le _⟩
  exact c.nx _ _ _ _ _ (n p) ok1 l1 ((en.mono l1.g).set (d := .r p) rfl)
end
/-! ### text * int -/
def repS (z : Str) (n : Nat) : Str := ⟨(List.replicate n z.cps.toList).flatten.toArray⟩
theorem rep_fold (z : Array Nat) : ∀ (n : Nat) (acc : Array Nat), (List.replicate n z).foldl (· ++ ·) acc = (acc.toList ++ (List.replicate n z.toList).flatten).toArray
  | 0, acc => by simp
  | n + 1, acc => by
    rw [List.replicate_succ, List.foldl_cons, rep_fold z n (acc ++ z), List.replicate_succ, List.flatten_cons]
    simp
theorem repS_len (z : Str) (n : Nat) : (repS z n).length = n * z.length := by
  show ((List.replicate n z.cps.toList).flatten.toArray).size = n * z.cps.size
  rw [List.size_toArray, List.length_flatten, List.map_replicate, List.sum_replicate_nat, Array.length_toList]
def rRepS : R2 := fun x y H Q => ∃ (z : Str) (n : Int), x = .str z ∧ y = .int n ∧ 2 ≤ n ∧ n ≤ 1000 ∧ 1 ≤ z.length ∧ z.length ≤ 10 ∧ Q (.str (repS z n.toNat)) H
theorem op_repS {X : Cx} : OpR X (binaryOp .Mult) rRepS := by
  intro pins s σ H x y v u Q I rx ry h
  obtain ⟨z, n, rfl, rfl, h1, h2, h3, h4, q⟩ := h
  obtain ⟨t, rfl⟩ := rx
  obtain ⟨t', rfl⟩ := ry
  have e1 : ¬ n < 1 := by omega
  have e2 : (n == 1 || z.length == 0) = false := by
    rw [Bool.or_eq_false_iff]
    exact ⟨beq_eq_false_iff_ne.mpr (by omega), beq_eq_false_iff_ne.mpr (by omega)⟩
  have hb : n.toNat * z.length ≤ 10000 := Nat.le_trans (Nat.mul_le_mul (show n.toNat ≤ 1000 by omega) h4) (by decide)
  have hz : z.length * n.toNat ≤ 10000 := by rw [Nat.mul_comm]; exact hb
  refine PySem.P.mul_str ?_ (fun _ _ => ?_) (fun _ _ => ?_) ?_
  · rw [decide_eq_false (show ¬ n < -(2 ^ 63 : Int) by omega), decide_eq_false (show ¬ n ≥ 2 ^ 63 by omega)]
    rfl
  · have d : (100 : Int) ≤ (2 ^ 63 - 1) / n := (Int.le_ediv_iff_mul_le (by omega)).mpr (by omega)
    omega
  · show decide (z.length * n.toNat > sizeLine) = false
    rw [decide_eq_false_iff_not]
    exact Nat.not_lt.mpr (lim_le (by omega))
  · rw [if_neg e1, e2, if_neg Bool.false_ne_true]
    have ef : (⟨(List.replicate n.toNat z.cps).foldl (· ++ ·) #[]⟩ : Str) = repS z n.toNat := by
      rw [rep_fold]
      rfl
    rw [ef]
    refine ⟨?_, ⟨.str _, H, I.tok _, ⟨_, rfl⟩, q⟩⟩
    rw [repS_len]
    exact lim_le (by omega)
theorem rv_repS {K : PySem.W.Frag} {R : Res} {z : Str} {n : Int} (h : 2 ≤ n ∧ n ≤ 1000) (hz : 1 ≤ z.length ∧ z.length ≤ 10) : RV K R rRepS (.d (.str z)) (.d (.int n)) (.d (.str (repS z n.toNat))) := fun G H v w Q ok h1 h2 k => by
  cases (show Hv G v (.str z) from h1)
  cases (show Hv G w (.int n) from h2)
  exact ⟨z, n, rfl, rfl, h.1, h.2, hz.1, hz.2, k _ G H ok .refl (show Hv G _ _ from .str _)⟩
/-! ### a suite that speaks of one class -/
def tG (p : Prop) (t : TS) : TS := fun D σ H => p ∧ t D σ H
theorem pss_g {X : Cx} {ss : List Stmt} {p : Prop} {t : TS} (f : p → PSs X ss t) : PSs X ss (tG p t) := ⟨fun pins s σ H D I h => (f h.1).run pins s σ H D I h.2⟩
theorem x_g {K : PySem.W.Frag} {Ek : WX} {δ : DEnv} {R : Res} {t : TS} {P : Post} {p : Prop} (hp : p) (h : XS K Ek δ R t P) : XS K Ek δ R (tG p t) P := fun G H σ D ok en c => ⟨hp, h G H σ D ok en c⟩
theorem zc_of {c cE : Value} {xE : Option Addr} {o : Obj} (h : cE = c ∧ xE = none) (z : Zc cE xE o) : Zc c none o := by
  obtain ⟨rfl, rfl⟩ := h
  exact z
/-! ### isinstance of an error, by what k_is can tell -/
theorem kit_ref {K : PySem.W.Frag} {C : Addr} {t : Value} {b : Bool} (hd : PySem.W.hasDictIn K C = true) (ht : PySem.W.typeIn K (.ref C) = some (.type "type")) (h4 : PySem.W.subIn K t (.ref C) = some b) (hself : PySem.W.subIn K t t = some true) : PySem.W.kitOne K t (.ref C) = some b := by
  obtain ⟨cd, hc, _⟩ := PySem.W.any_some hd
  unfold PySem.W.kitOne
  split
  · rename_i e
    have e' : t = .ref C := beq_iff_eq.mp e
    rw [← e', hself] at h4
    exact h4
  · have e2 : ((PySem.W.clsIn K C).isSome && PySem.W.typeIn K (.ref C) == some (.type "type")) = true := by rw [hc, ht] <;> rfl
    show (if ((PySem.W.clsIn K C).isSome && PySem.W.typeIn K (.ref C) == some (.type "type")) = true then PySem.W.subIn K t (.ref C) else none) = some b
    rw [if_pos e2]
    exact h4
theorem kit_tyE {K : PySem.W.Frag} {C : Addr} {b : Bool} (h : PySem.W.subIn K (.ref C) (.type "ValueError") = some b) : PySem.W.kitOne K (.ref C) (.type "ValueError") = some b := by
  unfold PySem.W.kitOne
  rw [if_neg (by intro z; have := beq_iff_eq.mp z; cases this)]
  show (if PySem.W.kitMeta "ValueError" = true then PySem.W.subIn K (.ref C) (.type "ValueError") else none) = some b
  rw [if_pos (by decide +kernel)]
  exact h
/-! ### expressions that change what is owned -/
section
variable {K : PySem.W.Frag} {Ek : WX} {R : Res} {δ : DEnv} {ta tb tc te : TE} {x y z : D} {r : R2} {P : Post} {N N1 N' : D → Res → Prop} {M M' : Value → Res → Prop}
theorem ee_op (ha : Ev K δ R ta x) (hb : EvE K Ek δ R tb N1 M) (hr : ∀ d R', N1 d R' → ∃ z, RV K R' r x d z ∧ N z R') : EvE K Ek δ R (tOp r ta tb) N M := fun G H σ Q ok en k j =>
  ha G H σ _ ok en fun v G1 H1 ok1 l1 h1 => hb G1 H1 σ _ ok1 (en.mono l1.g) (fun d R' w G2 H2 n ok2 l2 h2 => by
    obtain ⟨z, rv, nz⟩ := hr d R' n
    exact rv G2 H2 v w Q ok2 (h1.mono l2.g) h2 fun u G3 H3 ok3 l3 h3 => k z R' u G3 H3 nz ok3 ((l1.trans l2).trans l3) h3) fun c R' G2 H2 m ok2 l2 => j c R' G2 H2 m ok2 (l1.trans l2)
theorem x_appE {i : Nat} {a : Addr} {ds : List PyData} (h1 : Ev K δ R ta (.r a)) (hi : R[i]? = some (a, .lst ds)) (h : EvE K Ek δ R te N M)
    (n : ∀ d R', N d R' → ∃ w i' ds', d = .d w ∧ R'[i']? = some (a, .lst ds') ∧ ds'.length < 50000 ∧ P.nx δ (R'.set i' (a, .lst (ds' ++ [w])))) (m : ∀ c R', M c R' → P.xe c δ R') :
    XS K Ek δ R (tDrop (tBM K "list" rAppend ta (tCons te tNil))) P := fun G H σ D ok en c => h1 G H σ _ ok en fun v G1 H1 ok1 l1 q1 => by
  cases (show v = .ref a from q1)
  obtain ⟨ws, e1, _, _⟩ := ok1.at hi
  refine ⟨.inl ⟨rfl, ws, SqL.of e1⟩, h G1 H1 σ _ ok1 (en.mono l1.g) (fun d R' u G2 H2 nn ok2 l2 q2 => ?_) fun e R' G2 H2 mm ok2 l2 => c.xe e δ R' σ G2 H2 (m e R' mm) ok2 (l1.trans l2) ((en.mono l1.g).mono l2.g)⟩
  obtain ⟨w, i', ds', rfl, hi', hz, nx⟩ := n d R' nn
  obtain ⟨vs, e2, e3, e4⟩ := ok2.at hi'
  have el := e4.len
  refine ⟨a, vs, u, rfl, rfl, e2, lim_lt e3, ?_⟩
  obtain ⟨ok3, l3⟩ := ok2.write (o := .lst (vs ++ [u])) (q := .lst (ds' ++ [w])) hi' ⟨_, upd_same, by rw [List.length_append]; show vs.length + 1 ≤ 50000; omega, e4.app (.cons q2 .nil)⟩
  exact c.nx δ _ σ _ _ nx ok3 ((l1.trans l2).trans l3) (((en.mono l1.g).mono l2.g).mono l3.g)
theorem EvE.sub (h : EvE K Ek δ R te N M) (n : ∀ d R', N d R' → ∃ R0, R0.Sublist R' ∧ N' d R0) (m : ∀ c R', M c R' → ∃ R0, R0.Sublist R' ∧ M' c R0) : EvE K Ek δ R te N' M' := fun G H σ Q ok en k j =>
  h G H σ Q ok en (fun d R' v G' H' q ok' le hv => by
    obtain ⟨R0, s, q'⟩ := n d R' q
    exact k d R0 v G' H' q' (ok'.sub (fun p hp => s.subset hp) (ok'.nd.sublist (s.map _))) (le.subR fun p hp => s.subset hp) hv) fun c R' G' H' q ok' le => by
    obtain ⟨R0, s, q'⟩ := m c R' q
    exact j c R0 G' H' q' (ok'.sub (fun p hp => s.subset hp) (ok'.nd.sublist (s.map _))) (le.subR fun p hp => s.subset hp)
/-- f(a, b, c, {}) -/
theorem ee_call4T {S : L2.St → XK} {Φ : Fn} (h1 : Ev K δ R ta x) (h2 : Ev K δ R tb y) (h3 : Ev K δ R tc z) (hp : ∀ a, Φ [x, y, z, .r a] [(a, .dit [])] (fun d R' => N d (R' ++ R)) (fun c R' => M c (R' ++ R))) (hE : ∀ c R' σ H', M c R' → Ek c none σ H' → S σ c none H') :
    EvE K Ek δ R (tCallS (spD K Φ) S (tCons ta (tCons tb (tCons tc (tCons tDNewT tNil))))) N M := fun G H σ Q ok en k j =>
  h1 G H σ _ ok en fun v1 G1 H1 ok1 l1 q1 => h2 G1 H1 σ _ ok1 (en.mono l1.g) fun v2 G2 H2 ok2 l2 q2 => h3 G2 H2 σ _ ok2 ((en.mono l1.g).mono l2.g) fun v3 G3 H3 ok3 l3 q3 => fun p hp' => by
    obtain ⟨ok4, l4⟩ := ok3.laid (o := .dT []) (q := .dit []) hp' ⟨upd_same, Nat.zero_le _⟩
    have ok4' : Ok K G3 (upd H3 p (.dT [])) ([] ++ [(p, RO.dit [])] ++ R) := ok4
    refine ⟨G3, [x, y, z, .r p], [(p, .dit [])], _, _, .cons (q1.mono (l2.g.trans l3.g)) (.cons (q2.mono l3.g) (.cons q3 (.cons rfl .nil))), ok4'.part, hp p, fun d R' v G' H' n ok' le hv => ?_, fun c R' G' H' m ok' le => ?_⟩
    · obtain ⟨ok5, l5⟩ := ok4'.whole ok' le
      exact k d _ v G' H' n ok5 ((((l1.trans l2).trans l3).trans l4).trans l5) hv
    · obtain ⟨ok5, l5⟩ := ok4'.whole ok' le
      exact hE c _ σ H' m (j c _ G' H' m ok5 ((((l1.trans l2).trans l3).trans l4).trans l5))
end
/-- return, and some of what is owned is let fall -/
theorem x_retS {K : PySem.W.Frag} {Ek : WX} {R R0 : Res} {δ : DEnv} {te : TE} {d : D} {P : Post} (h : Ev K δ R te d) (s : R0.Sublist R) (n : P.rt d R0) : XS K Ek δ R (tRet te) P := fun G H σ D ok en c =>
  h G H σ _ ok en fun v G' H' ok' le hv => c.rt d R0 v G' H' n (ok'.sub (fun p hp => s.subset hp) (ok'.nd.sublist (s.map _))) (le.subR fun p hp => s.subset hp) hv
/-! ### an own list is let go -/
section
variable {K : PySem.W.Frag} {Ek : WX} {G H : Hp} {R : Res} {δ : DEnv} {t : TS} {P : Post} {a : Addr} {ds : List PyData}
theorem Ok.frz (ok : Ok K G H ((a, .lst ds) :: R)) : ∃ G', Ok K G' H R ∧ Le G H ((a, .lst ds) :: R) G' H R ∧ Hv G' (.ref a) (.list ds) ∧ Gx G G' := by
  obtain ⟨ng, vs, e, hl, hv⟩ := ok.own _ List.mem_cons_self
  have nd : (a :: adr R).Nodup := ok.nd
  obtain ⟨nd1, nd2⟩ := List.nodup_cons.mp nd
  refine ⟨upd G a (.lst vs), ⟨fun b u q => ?_, fun y hy => ?_, nd2⟩, ⟨Gx.new ng, fun b o q _ => q, fun b q => ?_, fun b m => .inl (List.mem_cons_of_mem _ m), fun b q => q⟩, .lst upd_same hl (Hvs.mono (Gx.new ng) ds hv), Gx.new ng⟩
  · by_cases z : b = a
    · subst z; rw [upd_same] at q; cases q; exact e
    · rw [upd_ne z] at q; exact ok.ex b u q
  · obtain ⟨h1, h2⟩ := ok.own y (List.mem_cons_of_mem _ hy)
    have z : y.1 ≠ a := fun z => nd1 (z ▸ List.mem_map.mpr ⟨y, hy, rfl⟩)
    exact ⟨by rw [upd_ne z]; exact h1, Own1.mono (Gx.new ng) (fun _ q => q) h2⟩
  · by_cases z : b = a
    · subst z; exact .inr (.inr List.mem_cons_self)
    · rw [upd_ne z] at q; exact .inl q
theorem x_frz {i : Nat} (hi : δ[i]? = some (some (.r a))) (h : XS K Ek (δ.set i (some (.d (.list ds)))) R t P) : XS K Ek δ ((a, .lst ds) :: R) t P := fun G H σ D ok en c => by
  obtain ⟨G', ok', le, hv, gx⟩ := ok.frz
  obtain ⟨v, e, q⟩ := en.get i _ hi
  cases (show v = .ref a from q)
  refine h G' H σ D ok' ⟨by rw [List.length_set]; exact en.len, fun j d hj => ?_⟩ (c.mono le)
  by_cases z : i = j
  · subst z
    obtain ⟨hlt, _⟩ := List.getElem?_eq_some_iff.mp hi
    rw [List.getElem?_set_self hlt] at hj
    cases hj
    exact ⟨_, e, hv⟩
  · rw [List.getElem?_set_ne z] at hj
    exact (en.mono gx).get j d hj
end
/-- two statements with a word of what holds between -/
theorem x_seqM {K : PySem.W.Frag} {Ek : WX} {R : Res} {δ : DEnv} {t u : TS} {P : Post} (I : DEnv → Res → Prop) (h : XS K Ek δ R t { P with nx := I }) (k : ∀ δ' R', I δ' R' → XS K Ek δ' R' u P) : XS K Ek δ R (tSeq t u) P :=
  x_seq (h.post k (fun _ _ q => q) (fun _ _ q => q) (fun _ _ q => q) fun _ _ _ q => q)
end Fl

namespace Fl
open PySem PySem.Spec PyProof.Rows L2
/-! What boats cost: plain functions. -/
def costOf (bs : List Bool) (u : Bool) : Int := if u then 1 + (((bs.drop 1).filter fun b => !b).length : Int) else if bs.getLast? = some true then 0 else 1
def behindOf (bs : List Bool) (u : Bool) : List Bool := bs.map fun _ => u
def costs : List Bool → List Bool → Int
  | _, [] => 0
  | bs, u :: r => costOf bs u + costs (behindOf bs u) r
theorem behind_len (bs : List Bool) (u : Bool) : (behindOf bs u).length = bs.length := by simp [behindOf]
theorem costOf_ge (bs : List Bool) (u : Bool) : 0 ≤ costOf bs u := by
  unfold costOf
  split
  · omega
  · split <;> decide
/-- the levels behind the first i boats; what they cost -/
def lvAt (bs order : List Bool) : Nat → List Bool
  | 0 => bs
  | i + 1 => match order[i]? with
    | some u => behindOf bs u
    | none => bs
def cAt (bs order : List Bool) : Nat → Int
  | 0 => 0
  | i + 1 => match order[i]? with
    | some u => cAt bs order i + costOf (lvAt bs order i) u
    | none => cAt bs order i
theorem lvAt_len (bs order : List Bool) : ∀ i, (lvAt bs order i).length = bs.length
  | 0 => rfl
  | i + 1 => by
    cases h : order[i]? with
    | none => simp only [lvAt, h]
    | some u => simp only [lvAt, h]; exact behind_len _ _
theorem lvAt_step {bs order : List Bool} {i : Nat} {u : Bool} (h : order[i]? = some u) : lvAt bs order (i + 1) = behindOf (lvAt bs order i) u := by
  show (match order[i]? with | some u => behindOf bs u | none => bs) = _
  rw [h]
  unfold behindOf
  have e := lvAt_len bs order i
  apply List.ext_getElem
  · simp [e]
  · intro k h1 h2; simp
theorem cAt_step {bs order : List Bool} {i : Nat} {u : Bool} (h : order[i]? = some u) : cAt bs order (i + 1) = cAt bs order i + costOf (lvAt bs order i) u := by
  show (match order[i]? with | some u => cAt bs order i + costOf (lvAt bs order i) u | none => cAt bs order i) = _
  rw [h]
theorem behind_two (bs : List Bool) (u v : Bool) : behindOf (behindOf bs u) v = behindOf bs v := by
  unfold behindOf
  rw [List.map_map]
  rfl
theorem cAt_cons (bs : List Bool) (u : Bool) (r : List Bool) : ∀ i, i ≤ r.length → cAt bs (u :: r) (i + 1) = costOf bs u + cAt (behindOf bs u) r i ∧ lvAt bs (u :: r) (i + 1) = lvAt (behindOf bs u) r i
  | 0, _ => by
    rw [cAt_step (u := u) rfl]
    refine ⟨?_, rfl⟩
    show 0 + costOf bs u = costOf bs u + 0
    omega
  | i + 1, h => by
    obtain ⟨h1, h2⟩ := cAt_cons bs u r i (by omega)
    obtain ⟨v, hv⟩ : ∃ v, r[i]? = some v := ⟨r[i], List.getElem?_eq_getElem (by omega)⟩
    have e1 : (u :: r)[i + 1]? = some v := by simpa using hv
    rw [cAt_step e1, cAt_step hv, lvAt_step e1, lvAt_step hv, h1, h2]
    exact ⟨by omega, rfl⟩
theorem cAt_all : ∀ (bs order : List Bool), cAt bs order order.length = costs bs order
  | bs, [] => rfl
  | bs, u :: r => by
    show cAt bs (u :: r) (r.length + 1) = costOf bs u + costs (behindOf bs u) r
    rw [(cAt_cons bs u r r.length (Nat.le_refl _)).1, cAt_all (behindOf bs u) r]
/-! Orders that keep a patience. -/
structure Sd where
  ups : Int
  downs : Int
  last : Option Bool
  run : Int
def lastS : Option Bool → Str
  | none => ""
  | some u => sds u
theorem eqv_last (u : Bool) (l : Option Bool) : PyData.eqv (sd u) (.str (lastS l)) = decide (l = some u) := by
  cases l with
  | none => cases u <;> decide
  | some v => revert u v; decide
theorem eqv_lastU (l : Option Bool) : PyData.eqv (.str (lastS l)) (.str "up") = decide (l = some true) := by
  cases l with
  | none => decide
  | some v => cases v <;> decide
theorem lastS_inj {a b : Option Bool} (h : lastS a = lastS b) : a = b := by
  revert h
  cases a with
  | none => cases b with
    | none => intro _; rfl
    | some v => cases v <;> decide
  | some u => cases b with
    | none => cases u <;> decide
    | some v => cases u <;> cases v <;> decide
def Sd.key (s : Sd) : List Key := [.inl s.ups, .inl s.downs, .inr (lastS s.last), .inl s.run]
theorem Sd.key_inj {s t : Sd} (h : s.key = t.key) : s = t := by
  obtain ⟨a, b, c, d⟩ := s
  obtain ⟨a', b', c', d'⟩ := t
  unfold Sd.key at h
  injection h with h1 h
  injection h with h2 h
  injection h with h3 h
  injection h with h4 h
  have e3 := lastS_inj (Sum.inr.inj h3)
  have e1 := Sum.inl.inj h1
  have e2 := Sum.inl.inj h2
  have e4 := Sum.inl.inj h4
  dsimp only at e1 e2 e3 e4
  subst e1 e2 e3 e4
  rfl
def mayS (p : Int) (s : Sd) (u : Bool) : Bool := decide (0 < (if u = true then s.ups else s.downs)) && (decide ((if u = true then s.downs else s.ups) = 0) || (!(decide (s.last = some u)) || decide (s.run < p)))
def nxt (s : Sd) (u : Bool) : Sd := ⟨if u = true then s.ups - 1 else s.ups, if u = true then s.downs else s.downs - 1, some u, if s.last = some u then s.run + 1 else 1⟩
def lvS (m : Nat) (l : Option Bool) : List Bool := List.replicate m (decide (l = some true))
def lmin : List Int → Int
  | [] => 0
  | x :: r => r.foldl min x
def candS (p : Int) (s : Sd) : List Bool := [false, true].filter (mayS p s)
def restF (m : Nat) (p : Int) : Nat → Sd → Int
  | 0, _ => 0
  | n + 1, s => lmin ((candS p s).map fun u => costOf (lvS m s.last) u + restF m p n (nxt s u))
def Sd.sum (s : Sd) : Int := s.ups + s.downs
def restS (m : Nat) (p : Int) (s : Sd) : Int := restF m p s.sum.toNat s
structure OkS (s : Sd) : Prop where
  u0 : 0 ≤ s.ups
  u8 : s.ups ≤ 8
  d0 : 0 ≤ s.downs
  d8 : s.downs ≤ 8
  r0 : 0 ≤ s.run
  rb : s.run + s.sum ≤ 40
/-- the least of a list -/
structure IsMin (x : Int) (l : List Int) : Prop where
  mem : x ∈ l
  le : ∀ y ∈ l, x ≤ y
theorem IsMin.uniq {x y : Int} {l : List Int} (a : IsMin x l) (b : IsMin y l) : x = y := Int.le_antisymm (a.le _ b.mem) (b.le _ a.mem)
theorem foldl_min : ∀ (r : List Int) (x : Int), (r.foldl min x = x ∨ r.foldl min x ∈ r) ∧ r.foldl min x ≤ x ∧ ∀ y ∈ r, r.foldl min x ≤ y
  | [], x => ⟨.inl rfl, Int.le_refl _, fun y h => by simp at h⟩
  | z :: r, x => by
    obtain ⟨h1, h2, h3⟩ := foldl_min r (min x z)
    show ((r.foldl min (min x z)) = x ∨ _ ∈ z :: r) ∧ _ ≤ x ∧ _
    have m1 : min x z ≤ x := Int.min_le_left _ _
    have m2 : min x z ≤ z := Int.min_le_right _ _
    refine ⟨?_, by show r.foldl min (min x z) ≤ x; omega, fun y hy => ?_⟩
    · rcases h1 with h1 | h1
      · rw [h1]
        by_cases e : x ≤ z
        · left; omega
        · right
          have : min x z = z := by omega
          rw [show (z :: r).foldl min x = r.foldl min (min x z) from rfl, h1, this]
          exact List.mem_cons_self
      · right; exact List.mem_cons_of_mem _ h1
    · show r.foldl min (min x z) ≤ y
      rcases List.mem_cons.mp hy with e | hy
      · subst e; omega
      · exact h3 y hy
theorem lmin_min {l : List Int} (h : l ≠ []) : IsMin (lmin l) l := by
  cases l with
  | nil => exact absurd rfl h
  | cons x r =>
    obtain ⟨h1, h2, h3⟩ := foldl_min r x
    refine ⟨?_, fun y hy => ?_⟩
    · rcases h1 with h1 | h1
      · show r.foldl min x ∈ x :: r
        rw [h1]; exact List.mem_cons_self
      · exact List.mem_cons_of_mem _ h1
    · rcases List.mem_cons.mp hy with e | hy
      · subst e; exact h2
      · exact h3 y hy
theorem IsMin.lmin {x : Int} {l : List Int} (a : IsMin x l) : lmin l = x := (lmin_min (by intro z; rw [z] at a; simpa using a.mem)).uniq a
theorem may_pos {p : Int} {s : Sd} {u : Bool} (h : mayS p s u = true) : 0 < (if u = true then s.ups else s.downs) := by
  unfold mayS at h
  rw [Bool.and_eq_true] at h
  exact of_decide_eq_true h.1
theorem nxt_sum {p : Int} {s : Sd} {u : Bool} : (nxt s u).sum = s.sum - 1 := by
  unfold nxt Sd.sum
  cases u
  · show s.ups + (s.downs - 1) = _; omega
  · show s.ups - 1 + s.downs = _; omega
theorem nxt_ok {p : Int} {s : Sd} {u : Bool} (h : mayS p s u = true) (o : OkS s) : OkS (nxt s u) := by
  have hp := may_pos h
  have e := nxt_sum (p := p) (s := s) (u := u)
  have h1 := o.u0
  have h2 := o.u8
  have h3 := o.d0
  have h4 := o.d8
  have h5 := o.r0
  have h6 := o.rb
  have hr : (nxt s u).run = (if s.last = some u then s.run + 1 else 1) := rfl
  have q1 : 0 ≤ (nxt s u).ups ∧ (nxt s u).ups ≤ 8 := by
    show 0 ≤ (if u = true then s.ups - 1 else s.ups) ∧ (if u = true then s.ups - 1 else s.ups) ≤ 8
    cases u with
    | true => rw [if_pos rfl] at *; omega
    | false => rw [if_neg Bool.false_ne_true] at *; omega
  have q2 : 0 ≤ (nxt s u).downs ∧ (nxt s u).downs ≤ 8 := by
    show 0 ≤ (if u = true then s.downs else s.downs - 1) ∧ (if u = true then s.downs else s.downs - 1) ≤ 8
    cases u with
    | true => rw [if_pos rfl] at *; omega
    | false => rw [if_neg Bool.false_ne_true] at *; omega
  refine ⟨q1.1, q1.2, q2.1, q2.2, ?_, ?_⟩
  · rw [hr]; split <;> omega
  · rw [hr, e]
    unfold Sd.sum at *
    split <;> omega
theorem cand_mem {p : Int} {s : Sd} {u : Bool} : u ∈ candS p s ↔ mayS p s u = true := by
  unfold candS
  rw [List.mem_filter]
  cases u <;> simp
theorem cand_ne {p : Int} {s : Sd} (o1 : 0 ≤ s.ups) (o2 : 0 ≤ s.downs) (h : 0 < s.sum) : candS p s ≠ [] := by
  have key : ∃ u, mayS p s u = true := by
    unfold Sd.sum at h
    unfold mayS
    by_cases h1 : s.ups = 0
    · refine ⟨false, ?_⟩
      simp only [Bool.false_eq_true, if_false, Bool.and_eq_true, Bool.or_eq_true, decide_eq_true_eq]
      exact ⟨by omega, .inl h1⟩
    · by_cases h2 : s.downs = 0
      · refine ⟨true, ?_⟩
        simp only [if_true, Bool.and_eq_true, Bool.or_eq_true, decide_eq_true_eq]
        exact ⟨by omega, .inl h2⟩
      · cases hl : s.last with
        | none =>
          refine ⟨true, ?_⟩
          simp only [if_true, Bool.and_eq_true, Bool.or_eq_true, decide_eq_true_eq]
          exact ⟨by omega, .inr (.inl rfl)⟩
        | some u =>
          cases u with
          | true =>
            refine ⟨false, ?_⟩
            simp only [Bool.false_eq_true, if_false, Bool.and_eq_true, Bool.or_eq_true, decide_eq_true_eq]
            exact ⟨by omega, .inr (.inl (by decide))⟩
          | false =>
            refine ⟨true, ?_⟩
            simp only [if_true, Bool.and_eq_true, Bool.or_eq_true, decide_eq_true_eq]
            exact ⟨by omega, .inr (.inl (by decide))⟩
  obtain ⟨u, hu⟩ := key
  intro z
  have := cand_mem.mpr hu
  rw [z] at this
  simp at this
theorem restS_step {m : Nat} {p : Int} {s : Sd} (h : 0 < s.sum) : restS m p s = lmin ((candS p s).map fun u => costOf (lvS m s.last) u + restS m p (nxt s u)) := by
  obtain ⟨n, hn⟩ : ∃ n : Nat, s.sum.toNat = n + 1 := ⟨s.sum.toNat - 1, by omega⟩
  show restF m p s.sum.toNat s = _
  rw [hn]
  show lmin _ = lmin _
  congr 1
  refine List.map_congr_left fun u hu => ?_
  have e := nxt_sum (p := p) (s := s) (u := u)
  show _ + restF m p n (nxt s u) = _ + restF m p (nxt s u).sum.toNat (nxt s u)
  rw [e, show (s.sum - 1).toNat = n by omega]
theorem restS_zero {m : Nat} {p : Int} {s : Sd} (h : s.sum = 0) : restS m p s = 0 := by
  unfold restS
  rw [h]
  rfl
/-! ### what is known -/
structure Good (m : Nat) (p : Int) (kvs : List (List Key × Int)) : Prop where
  nd : (kvs.map (·.1)).Nodup
  at_ : ∀ kv ∈ kvs, ∃ s, kv.1 = s.key ∧ kv.2 = restS m p s ∧ OkS s
theorem good_nil (m : Nat) (p : Int) : Good m p [] := ⟨List.nodup_nil, fun kv h => by simp at h⟩
theorem valT_some {kvs : List (List Key × Int)} {k : List Key} {v : Int} (h : valT kvs k = some v) : (k, v) ∈ kvs := by
  unfold valT at h
  cases q : kvs.find? fun kv => decide (kv.1 = k) with
  | none => rw [q] at h; cases h
  | some kv =>
    rw [q] at h
    cases h
    have h1 := List.mem_of_find?_eq_some q
    have h2 := List.find?_some q
    have e := of_decide_eq_true h2
    rw [← e]
    exact h1
theorem Good.val {m : Nat} {p : Int} {kvs : List (List Key × Int)} (g : Good m p kvs) {s : Sd} {v : Int} (h : valT kvs s.key = some v) : v = restS m p s := by
  obtain ⟨t, e1, e2, _⟩ := g.at_ _ (valT_some h)
  dsimp only at e1 e2
  rw [e2, Sd.key_inj e1]
theorem valT_put (kvs : List (List Key × Int)) (k : List Key) (v : Int) : valT (putT kvs k v) k = some v := by
  unfold putT
  split
  · rename_i h
    induction kvs with
    | nil => simp at h
    | cons q r ih =>
      by_cases e : q.1 = k
      · simp [valT, List.find?_cons, e]
      · have h' : (r.any fun kv => decide (kv.1 = k)) = true := by
          rw [List.any_cons] at h
          simpa [e] using h
        have := ih h'
        simp only [List.map_cons]
        rw [if_neg e]
        unfold valT at this ⊢
        rw [List.find?_cons, decide_eq_false e]
        exact this
  · rename_i h
    unfold valT
    rw [List.find?_append]
    have e : kvs.find? (fun kv => decide (kv.1 = k)) = none := by
      rw [List.find?_eq_none]
      intro x hx hk
      exact h (List.any_eq_true.mpr ⟨x, hx, hk⟩)
    rw [e]
    simp
theorem Good.put {m : Nat} {p : Int} {kvs : List (List Key × Int)} (g : Good m p kvs) {s : Sd} (o : OkS s) : Good m p (putT kvs s.key (restS m p s)) := by
  unfold putT
  split
  · refine ⟨?_, fun kv h => ?_⟩
    · have e : (kvs.map fun kv => if kv.1 = s.key then (kv.1, restS m p s) else kv).map (·.1) = kvs.map (·.1) := by
        rw [List.map_map]
        refine List.map_congr_left fun q _ => ?_
        show (if q.1 = s.key then (q.1, restS m p s) else q).1 = q.1
        split <;> rfl
      rw [e]
      exact g.nd
    · obtain ⟨q, hq, rfl⟩ := List.mem_map.mp h
      by_cases e : q.1 = s.key
      · rw [if_pos e]
        exact ⟨s, e, rfl, o⟩
      · rw [if_neg e]
        exact g.at_ q hq
  · rename_i h
    refine ⟨?_, fun kv hk => ?_⟩
    · rw [List.map_append]
      refine List.nodup_append.mpr ⟨g.nd, by simp, fun x hx y hy e => ?_⟩
      obtain ⟨q, hq, rfl⟩ := List.mem_map.mp hx
      have e2 : y = s.key := by simpa using hy
      exact h (List.any_eq_true.mpr ⟨q, hq, by rw [e, e2]; simp⟩)
    · rcases List.mem_append.mp hk with hk | hk
      · exact g.at_ kv hk
      · have e : kv = (s.key, restS m p s) := by simpa using hk
        subst e
        exact ⟨s, rfl, rfl, o⟩
theorem len_of_sub {α : Type} [DecidableEq α] : ∀ {l m : List α}, l.Nodup → (∀ x ∈ l, x ∈ m) → l.length ≤ m.length
  | [], m, _, _ => Nat.zero_le _
  | x :: l, m, nd, s => by
    obtain ⟨h1, h2⟩ := List.nodup_cons.mp nd
    have hx := s x List.mem_cons_self
    have q : l.length ≤ (m.erase x).length := len_of_sub h2 fun y hy => (List.mem_erase_of_ne (by intro e; exact h1 (e ▸ hy))).mpr (s y (List.mem_cons_of_mem _ hy))
    rw [List.length_erase_of_mem hx] at q
    have := List.length_pos_of_mem hx
    rw [List.length_cons]
    omega
def allKeys : List (List Key) := (List.range 9).flatMap fun (a : Nat) => (List.range 9).flatMap fun (b : Nat) => [none, some true, some false].flatMap fun l => (List.range 41).map fun (r : Nat) => Sd.key ⟨a, b, l, r⟩
theorem flatMap_len {α β : Type} {f : α → List β} {n : Nat} : ∀ (l : List α), (∀ x, (f x).length = n) → (l.flatMap f).length = l.length * n
  | [], _ => by simp
  | x :: l, h => by
    rw [List.flatMap_cons, List.length_append, h x, flatMap_len l h, List.length_cons, Nat.add_mul]
    omega
theorem allKeys_len : allKeys.length = 9963 := by
  unfold allKeys
  rw [flatMap_len (n := 9 * (3 * 41))]
  · simp
  · intro a
    rw [flatMap_len (n := 3 * 41)]
    · simp
    · intro b
      rw [flatMap_len (n := 41)]
      · rfl
      · intro l; simp
theorem OkS.inAll {s : Sd} (o : OkS s) : s.key ∈ allKeys := by
  have h1 := o.u0
  have h2 := o.u8
  have h3 := o.d0
  have h4 := o.d8
  have h5 := o.r0
  have h6 := o.rb
  unfold Sd.sum at h6
  unfold allKeys
  refine List.mem_flatMap.mpr ⟨s.ups.toNat, List.mem_range.mpr (by omega), List.mem_flatMap.mpr ⟨s.downs.toNat, List.mem_range.mpr (by omega), List.mem_flatMap.mpr ⟨s.last, ?_, List.mem_map.mpr ⟨s.run.toNat, List.mem_range.mpr (by omega), ?_⟩⟩⟩⟩
  · cases s.last with
    | none => simp
    | some u => cases u <;> simp
  · have e1 : ((s.ups.toNat : Nat) : Int) = s.ups := by omega
    have e2 : ((s.downs.toNat : Nat) : Int) = s.downs := by omega
    have e3 : ((s.run.toNat : Nat) : Int) = s.run := by omega
    rw [e1, e2, e3]
theorem Good.len {m : Nat} {p : Int} {kvs : List (List Key × Int)} (g : Good m p kvs) : kvs.length ≤ 9963 := by
  have q := len_of_sub (l := kvs.map (·.1)) (m := allKeys) g.nd fun k hk => by
    obtain ⟨kv, h, rfl⟩ := List.mem_map.mp hk
    obtain ⟨s, e, _, o⟩ := g.at_ kv h
    rw [e]
    exact o.inAll
  rw [List.length_map, allKeys_len] at q
  exact q
/-! ### the law's own prices -/
theorem lvS_up (m : Nat) (hm : 1 ≤ m) (l : Option Bool) : costOf (lvS m l) true = if l = some true then 1 else (m : Int) := by
  unfold costOf lvS
  rw [if_pos rfl, List.drop_replicate]
  by_cases h : l = some true
  · rw [if_pos h, decide_eq_true h, List.filter_replicate, if_neg (by decide)]
    rfl
  · rw [if_neg h, decide_eq_false h, List.filter_replicate, if_pos (by decide), List.length_replicate]
    omega
theorem lvS_down (m : Nat) (hm : 1 ≤ m) (l : Option Bool) : costOf (lvS m l) false = if l = some true then 0 else 1 := by
  obtain ⟨k, rfl⟩ : ∃ k, m = k + 1 := ⟨m - 1, by omega⟩
  have e : ∀ b : Bool, (List.replicate (k + 1) b).getLast? = some b := fun b => by simp [List.getLast?_replicate]
  unfold costOf lvS
  rw [if_neg Bool.false_ne_true, e]
  by_cases h : l = some true
  · rw [if_pos h, decide_eq_true h, if_pos rfl]
  · rw [if_neg h, decide_eq_false h, if_neg (by decide)]
/-- all boats of the side that went last -/
theorem rest_same {m : Nat} (hm : 1 ≤ m) {p : Int} {u : Bool} : ∀ (n : Nat) (s : Sd), s.sum = n → s.last = some u → 0 ≤ s.ups → 0 ≤ s.downs → (if u = true then s.ups else s.downs) = s.sum → restS m p s = s.sum
  | 0, s, h, _, _, _, _ => by rw [restS_zero h, h]; rfl
  | n + 1, s, h, hl, h1, h2, h3 => by
    have pos : 0 < s.sum := by omega
    have e0 : s.sum = s.ups + s.downs := rfl
    rw [restS_step pos]
    have ms : mayS p s u = true := by
      unfold mayS
      rw [Bool.and_eq_true, decide_eq_true_eq, h3, Bool.or_eq_true, decide_eq_true_eq]
      refine ⟨pos, .inl ?_⟩
      cases u with
      | true => rw [if_pos rfl] at h3 ⊢; omega
      | false => rw [if_neg Bool.false_ne_true] at h3 ⊢; omega
    have mo : mayS p s (!u) = false := by
      unfold mayS
      rw [Bool.and_eq_false_iff]
      left
      rw [decide_eq_false_iff_not]
      cases u with
      | true => rw [if_pos rfl] at h3; show ¬ 0 < s.downs; omega
      | false => rw [if_neg Bool.false_ne_true] at h3; show ¬ 0 < s.ups; omega
    have ec : candS p s = [u] := by
      unfold candS
      cases u with
      | true => simp only [Bool.not_true] at mo; simp [List.filter, ms, mo]
      | false => simp only [Bool.not_false] at mo; simp [List.filter, ms, mo]
    have es := nxt_sum (p := p) (s := s) (u := u)
    have ih := rest_same hm (p := p) (u := u) n (nxt s u) (by omega) rfl (by
      show 0 ≤ (if u = true then s.ups - 1 else s.ups)
      cases u with
      | true => rw [if_pos rfl] at *; omega
      | false => rw [if_neg Bool.false_ne_true] at *; omega) (by
      show 0 ≤ (if u = true then s.downs else s.downs - 1)
      cases u with
      | true => rw [if_pos rfl] at *; omega
      | false => rw [if_neg Bool.false_ne_true] at *; omega) (by
      rw [es]
      show (if u = true then (if u = true then s.ups - 1 else s.ups) else (if u = true then s.downs else s.downs - 1)) = _
      cases u with
      | true => rw [if_pos rfl] at *; rw [if_pos rfl]; omega
      | false => rw [if_neg Bool.false_ne_true] at *; rw [if_neg Bool.false_ne_true]; omega)
    rw [ec]
    show costOf (lvS m s.last) u + restS m p (nxt s u) = _
    rw [ih, es, hl]
    cases u with
    | true => rw [lvS_up m hm, if_pos rfl]; omega
    | false => rw [lvS_down m hm, if_neg (by decide)]; omega
/-! ### orders -/
def ordF (p : Int) : Nat → Sd → List (List Bool)
  | 0, _ => [[]]
  | n + 1, s => (candS p s).flatMap fun u => (ordF p n (nxt s u)).map (u :: ·)
def ordS (p : Int) (s : Sd) : List (List Bool) := ordF p s.sum.toNat s
theorem ordS_step {p : Int} {s : Sd} (h : 0 < s.sum) : ordS p s = (candS p s).flatMap fun u => (ordS p (nxt s u)).map (u :: ·) := by
  obtain ⟨n, hn⟩ : ∃ n : Nat, s.sum.toNat = n + 1 := ⟨s.sum.toNat - 1, by omega⟩
  unfold ordS
  rw [hn]
  show (candS p s).flatMap _ = _
  congr 1
  funext u
  have e := nxt_sum (p := p) (s := s) (u := u)
  rw [e, show (s.sum - 1).toNat = n by omega]
theorem ordS_zero {p : Int} {s : Sd} (h : s.sum = 0) : ordS p s = [[]] := by
  unfold ordS
  rw [h]
  rfl
theorem behind_lv {lv : List Bool} {m : Nat} (h : lv.length = m) (u : Bool) : behindOf lv u = lvS m (some u) := by
  unfold behindOf lvS
  rw [List.map_const', h]
  congr 1
  cases u <;> decide
/-- the least that an order from levels lv costs -/
def firstS (m : Nat) (p : Int) (lv : List Bool) (s : Sd) (u : Bool) : Int := costOf lv u + restS m p (nxt s u)
def leastS (m : Nat) (p : Int) (lv : List Bool) (s : Sd) : Int := if s.sum = 0 then 0 else lmin ((candS p s).map (firstS m p lv s))
theorem least_rest {m : Nat} {p : Int} {s : Sd} (h : 0 ≤ s.sum) : leastS m p (lvS m s.last) s = restS m p s := by
  unfold leastS
  by_cases e : s.sum = 0
  · rw [if_pos e, restS_zero e]
  · rw [if_neg e, restS_step (by omega)]
    rfl
theorem orders_min {m : Nat} {p : Int} : ∀ (n : Nat) (s : Sd) (lv : List Bool), s.sum = n → 0 ≤ s.ups → 0 ≤ s.downs → lv.length = m → IsMin (leastS m p lv s) ((ordS p s).map (costs lv))
  | 0, s, lv, h, _, _, _ => by
    have h : s.sum = 0 := h
    rw [ordS_zero h]
    unfold leastS
    rw [if_pos h]
    exact ⟨by simp [costs], fun y hy => by
      have : y = 0 := by simpa [costs] using hy
      omega⟩
  | n + 1, s, lv, h, h1, h2, hl => by
    have pos : 0 < s.sum := by omega
    have ih : ∀ u, mayS p s u = true → IsMin (restS m p (nxt s u)) ((ordS p (nxt s u)).map (costs (behindOf lv u))) := fun u hu => by
      have es := nxt_sum (p := p) (s := s) (u := u)
      have hp := may_pos hu
      have q := orders_min (m := m) (p := p) n (nxt s u) (behindOf lv u) (by omega) (by
        show 0 ≤ (if u = true then s.ups - 1 else s.ups)
        cases u with
        | true => rw [if_pos rfl] at *; omega
        | false => rw [if_neg Bool.false_ne_true] at *; omega) (by
        show 0 ≤ (if u = true then s.downs else s.downs - 1)
        cases u with
        | true => rw [if_pos rfl] at *; omega
        | false => rw [if_neg Bool.false_ne_true] at *; omega) (by rw [behind_len]; exact hl)
      rw [behind_lv hl] at q ⊢
      have e : leastS m p (lvS m (some u)) (nxt s u) = restS m p (nxt s u) := least_rest (s := nxt s u) (by omega)
      rw [e] at q
      exact q
    have lm := lmin_min (l := (candS p s).map (firstS m p lv s)) (by
      intro z
      exact cand_ne h1 h2 pos (List.map_eq_nil_iff.mp z))
    unfold leastS
    rw [if_neg (by omega), ordS_step pos]
    constructor
    · obtain ⟨u, hu, e⟩ := List.mem_map.mp lm.mem
      obtain ⟨r, hr, er⟩ := List.mem_map.mp (ih u (cand_mem.mp hu)).mem
      rw [← e]
      refine List.mem_map.mpr ⟨u :: r, List.mem_flatMap.mpr ⟨u, hu, List.mem_map.mpr ⟨r, hr, rfl⟩⟩, ?_⟩
      show costOf lv u + costs (behindOf lv u) r = firstS m p lv s u
      rw [er]
      rfl
    · intro y hy
      obtain ⟨o, ho, rfl⟩ := List.mem_map.mp hy
      obtain ⟨u, hu, ho⟩ := List.mem_flatMap.mp ho
      obtain ⟨r, hr, rfl⟩ := List.mem_map.mp ho
      have a := lm.le _ (List.mem_map.mpr ⟨u, hu, rfl⟩)
      have b := (ih u (cand_mem.mp hu)).le _ (List.mem_map.mpr ⟨r, hr, rfl⟩)
      show _ ≤ costOf lv u + costs (behindOf lv u) r
      unfold firstS at a
      unfold firstS
      omega
/-! ### the best order -/
def pickS (m : Nat) (p : Int) (lv : List Bool) (s : Sd) : Bool := ((candS p s).filter fun u => decide (firstS m p lv s u = leastS m p lv s)).headD false
def bestF (m : Nat) (p : Int) : Nat → List Bool → Sd → List Bool
  | 0, _, _ => []
  | n + 1, lv, s => pickS m p lv s :: bestF m p n (behindOf lv (pickS m p lv s)) (nxt s (pickS m p lv s))
def bestS (m : Nat) (p : Int) (lv : List Bool) (s : Sd) : List Bool := bestF m p s.sum.toNat lv s
theorem bestS_step {m : Nat} {p : Int} {lv : List Bool} {s : Sd} (h : 0 < s.sum) : bestS m p lv s = pickS m p lv s :: bestS m p (behindOf lv (pickS m p lv s)) (nxt s (pickS m p lv s)) := by
  obtain ⟨n, hn⟩ : ∃ n : Nat, s.sum.toNat = n + 1 := ⟨s.sum.toNat - 1, by omega⟩
  unfold bestS
  rw [hn]
  have e := nxt_sum (p := p) (s := s) (u := pickS m p lv s)
  rw [e, show (s.sum - 1).toNat = n by omega]
  rfl
theorem bestS_zero {m : Nat} {p : Int} {lv : List Bool} {s : Sd} (h : s.sum = 0) : bestS m p lv s = [] := by
  unfold bestS
  rw [h]
  rfl
theorem pick_ok {m : Nat} {p : Int} {lv : List Bool} {s : Sd} (h1 : 0 ≤ s.ups) (h2 : 0 ≤ s.downs) (h : 0 < s.sum) : ∃ r, ((candS p s).filter fun u => decide (firstS m p lv s u = leastS m p lv s)) = pickS m p lv s :: r ∧ pickS m p lv s ∈ candS p s ∧ firstS m p lv s (pickS m p lv s) = leastS m p lv s := by
  have lm := lmin_min (l := (candS p s).map (firstS m p lv s)) (by
    intro z
    exact cand_ne h1 h2 h (List.map_eq_nil_iff.mp z))
  have el : leastS m p lv s = lmin ((candS p s).map (firstS m p lv s)) := by unfold leastS; rw [if_neg (by omega)]
  obtain ⟨u, hu, e⟩ := List.mem_map.mp lm.mem
  have hin : u ∈ (candS p s).filter fun u => decide (firstS m p lv s u = leastS m p lv s) := List.mem_filter.mpr ⟨hu, by rw [el, e]; simp⟩
  cases q : (candS p s).filter fun u => decide (firstS m p lv s u = leastS m p lv s) with
  | nil => rw [q] at hin; simp at hin
  | cons v r =>
    have ev : pickS m p lv s = v := by unfold pickS; rw [q]; rfl
    rw [ev]
    have hv : v ∈ (candS p s).filter fun u => decide (firstS m p lv s u = leastS m p lv s) := by rw [q]; exact List.mem_cons_self
    obtain ⟨a, b⟩ := List.mem_filter.mp hv
    exact ⟨r, rfl, a, of_decide_eq_true b⟩
/-- what the steps keep -/
theorem nxt_nn {p : Int} {s : Sd} {u : Bool} (hu : u ∈ candS p s) (h1 : 0 ≤ s.ups) (h2 : 0 ≤ s.downs) : 0 ≤ (nxt s u).ups ∧ 0 ≤ (nxt s u).downs := by
  have hp := may_pos (cand_mem.mp hu)
  constructor
  · show 0 ≤ (if u = true then s.ups - 1 else s.ups)
    cases u with
    | true => rw [if_pos rfl] at *; omega
    | false => rw [if_neg Bool.false_ne_true] at *; omega
  · show 0 ≤ (if u = true then s.downs else s.downs - 1)
    cases u with
    | true => rw [if_pos rfl] at *; omega
    | false => rw [if_neg Bool.false_ne_true] at *; omega
theorem least_next {m : Nat} {p : Int} {lv : List Bool} {s : Sd} {u : Bool} (hl : lv.length = m) (h : 0 < s.sum) : leastS m p (behindOf lv u) (nxt s u) = restS m p (nxt s u) := by
  rw [behind_lv hl]
  have es := nxt_sum (p := p) (s := s) (u := u)
  exact least_rest (s := nxt s u) (by omega)
theorem best_cost {m : Nat} {p : Int} : ∀ (n : Nat) (s : Sd) (lv : List Bool), s.sum = n → 0 ≤ s.ups → 0 ≤ s.downs → lv.length = m → costs lv (bestS m p lv s) = leastS m p lv s
  | 0, s, lv, h, _, _, _ => by
    have h : s.sum = 0 := h
    rw [bestS_zero h]
    unfold leastS
    rw [if_pos h]
    rfl
  | n + 1, s, lv, h, h1, h2, hl => by
    have pos : 0 < s.sum := by omega
    obtain ⟨_, _, hc, he⟩ := pick_ok (m := m) (p := p) (lv := lv) h1 h2 pos
    have es := nxt_sum (p := p) (s := s) (u := pickS m p lv s)
    obtain ⟨n1, n2⟩ := nxt_nn hc h1 h2
    rw [bestS_step pos]
    show costOf lv _ + costs (behindOf lv _) _ = _
    rw [best_cost (m := m) (p := p) n _ _ (by omega) n1 n2 (by rw [behind_len]; exact hl), least_next hl pos]
    exact he
/-- the first of the least -/
theorem best_first {m : Nat} {p : Int} : ∀ (n : Nat) (s : Sd) (lv : List Bool), s.sum = n → 0 ≤ s.ups → 0 ≤ s.downs → lv.length = m → ∃ r, ((ordS p s).filter fun o => decide (costs lv o = leastS m p lv s)) = bestS m p lv s :: r
  | 0, s, lv, h, _, _, _ => by
    have h : s.sum = 0 := h
    rw [bestS_zero h, ordS_zero h]
    refine ⟨[], ?_⟩
    unfold leastS
    rw [if_pos h]
    simp [costs]
  | n + 1, s, lv, h, h1, h2, hl => by
    have pos : 0 < s.sum := by omega
    obtain ⟨r0, hf, hc, he⟩ := pick_ok (m := m) (p := p) (lv := lv) h1 h2 pos
    have es := fun u => nxt_sum (p := p) (s := s) (u := u)
    rw [ordS_step pos, bestS_step pos]
    -- a part of the candidates
    have part : ∀ (cs : List Bool), (∀ u ∈ cs, u ∈ candS p s) → ∀ v r, (cs.filter fun u => decide (firstS m p lv s u = leastS m p lv s)) = v :: r →
        ∃ r', (((cs.flatMap fun u => (ordS p (nxt s u)).map (u :: ·))).filter fun o => decide (costs lv o = leastS m p lv s)) = (v :: bestS m p (behindOf lv v) (nxt s v)) :: r' := by
      intro cs
      induction cs with
      | nil => intro _ v r e; simp at e
      | cons u cs ih =>
        intro hs v r e
        have hu := hs u List.mem_cons_self
        obtain ⟨n1, n2⟩ := nxt_nn hu h1 h2
        have eu := es u
        have om := orders_min (m := m) (p := p) n (nxt s u) (behindOf lv u) (by omega) n1 n2 (by rw [behind_len]; exact hl)
        rw [least_next hl pos] at om
        rw [List.flatMap_cons, List.filter_append]
        by_cases q : firstS m p lv s u = leastS m p lv s
        · rw [List.filter_cons, if_pos (by rw [q]; simp)] at e
          have ev : u = v := by injection e
          subst ev
          obtain ⟨r1, hr1⟩ := best_first (m := m) (p := p) n (nxt s u) (behindOf lv u) (by omega) n1 n2 (by rw [behind_len]; exact hl)
          have ef : ((ordS p (nxt s u)).map (u :: ·)).filter (fun o => decide (costs lv o = leastS m p lv s)) = ((ordS p (nxt s u)).filter fun o => decide (costs (behindOf lv u) o = leastS m p (behindOf lv u) (nxt s u))).map (u :: ·) := by
            rw [List.filter_map]
            congr 1
            refine List.filter_congr fun o _ => ?_
            show decide (costOf lv u + costs (behindOf lv u) o = leastS m p lv s) = _
            rw [least_next hl pos, Bool.eq_iff_iff, decide_eq_true_eq, decide_eq_true_eq, ← q]
            unfold firstS
            omega
          rw [ef, hr1]
          exact ⟨_, rfl⟩
        · rw [List.filter_cons, if_neg (by simpa using q)] at e
          have e0 : ((ordS p (nxt s u)).map (u :: ·)).filter (fun o => decide (costs lv o = leastS m p lv s)) = [] := by
            rw [List.filter_eq_nil_iff]
            intro o ho hd
            obtain ⟨o', ho', rfl⟩ := List.mem_map.mp ho
            have hd' : costOf lv u + costs (behindOf lv u) o' = leastS m p lv s := of_decide_eq_true hd
            have b := om.le _ (List.mem_map.mpr ⟨o', ho', rfl⟩)
            have lm := lmin_min (l := (candS p s).map (firstS m p lv s)) (by
              intro z
              rw [List.map_eq_nil_iff.mp z] at hu
              simp at hu)
            have el : leastS m p lv s = lmin ((candS p s).map (firstS m p lv s)) := by unfold leastS; rw [if_neg (by omega)]
            have c := lm.le _ (List.mem_map.mpr ⟨u, hu, rfl⟩)
            rw [← el] at c
            unfold firstS at q c
            omega
          rw [e0, List.nil_append]
          exact ih (fun w hw => hs w (List.mem_cons_of_mem _ hw)) v r e
    exact part _ (fun u hu => hu) _ _ hf
theorem ordF_len {p : Int} : ∀ (n : Nat) (s : Sd), (ordF p n s).length ≤ 2 ^ n
  | 0, _ => by show 1 ≤ 1; omega
  | n + 1, s => by
    show ((candS p s).flatMap fun u => (ordF p n (nxt s u)).map (u :: ·)).length ≤ 2 ^ (n + 1)
    have h1 := ordF_len (p := p) n (nxt s false)
    have h2 := ordF_len (p := p) n (nxt s true)
    have e : 2 ^ (n + 1) = 2 ^ n + 2 ^ n := by rw [Nat.pow_succ]; omega
    unfold candS
    cases hf : mayS p s false <;> cases ht : mayS p s true <;> simp [List.filter, hf, ht] <;> omega
theorem ordS_len {p : Int} {s : Sd} {k : Nat} (h : s.sum ≤ k) : (ordS p s).length ≤ 2 ^ k := Nat.le_trans (ordF_len _ _) (Nat.pow_le_pow_right (by decide) (by omega))
def encO (o : List Bool) : PyData := .list (o.map sd)
theorem eqv_encO (a b : List Bool) : PyData.eqv (encO a) (encO b) = decide (a = b) := by
  show PyData.eqvAll (a.map sd) (b.map sd) = _
  exact eqv_sds a b
theorem ordF_each {p : Int} : ∀ (n : Nat) (s : Sd) (o : List Bool), o ∈ ordF p n s → o.length = n
  | 0, _, o, h => by
    have : o = [] := by simpa [ordF] using h
    rw [this]; rfl
  | n + 1, s, o, h => by
    obtain ⟨u, _, h⟩ := List.mem_flatMap.mp h
    obtain ⟨r, hr, rfl⟩ := List.mem_map.mp h
    rw [List.length_cons, ordF_each n _ r hr]
theorem ord_len {p : Int} {s : Sd} {k : Nat} (o : List Bool) (_x : Nat) (h : o ∈ ordS p s) (hs : s.sum.toNat ≤ k) : o.length ≤ k := by
  rw [ordF_each _ _ o h]
  exact hs
/-! Plans: what the code makes. -/
inductive Dd where
  | lt (g : Nat)
  | sl (b : Nat)
deriving DecidableEq
def encDd : Dd → PyData
  | .lt g => .tuple [.str "let", .int g]
  | .sl b => .tuple [.str "sail", .int b]
def srcM (lv : List Bool) (c : Nat) : Nat := c + ((lv.drop c).takeWhile fun b => !b).length
theorem srcM_end {lv : List Bool} {k : Nat} (h : lv.length ≤ k) : srcM lv k = k := by
  unfold srcM
  rw [List.drop_eq_nil_of_le h]; rfl
theorem srcM_stop {lv : List Bool} {k : Nat} (h : lv[k]? = some true) : srcM lv k = k := by
  obtain ⟨hl, e⟩ := List.getElem?_eq_some_iff.mp h
  unfold srcM
  rw [List.drop_eq_getElem_cons hl, e]; rfl
theorem srcM_go {lv : List Bool} {k : Nat} (h : lv[k]? = some false) : srcM lv k = srcM lv (k + 1) := by
  obtain ⟨hl, e⟩ := List.getElem?_eq_some_iff.mp h
  unfold srcM
  rw [List.drop_eq_getElem_cons hl, e, List.takeWhile_cons_of_pos (by rfl), List.length_cons]
  omega
theorem srcM_ge (lv : List Bool) (k : Nat) : k ≤ srcM lv k := by unfold srcM; omega
theorem srcM_le {lv : List Bool} {k : Nat} (h : k ≤ lv.length) : srcM lv k ≤ lv.length := by
  unfold srcM
  have := (List.takeWhile_sublist (l := lv.drop k) fun b => !b).length_le
  rw [List.length_drop] at this
  omega
def filledM (lv : List Bool) (c : Nat) : List Nat := ((List.range (srcM lv c + 1 - c)).map (c + ·)).reverse
def snkM (lv : List Bool) : Nat → Nat
  | 0 => 0
  | k + 1 => if lv[k]? = some true then snkM lv k else k + 1
theorem snkM_le (lv : List Bool) : ∀ k, snkM lv k ≤ k
  | 0 => Nat.le_refl _
  | k + 1 => by
    show (if lv[k]? = some true then snkM lv k else k + 1) ≤ k + 1
    have := snkM_le lv k
    split <;> omega
def emptiedM (lv : List Bool) (c : Nat) : List Nat := (List.range (c - snkM lv (c - 1))).map (snkM lv (c - 1) + ·)
def letL (lv : List Bool) (g : Nat) : List Bool := if 0 < g then (if g < lv.length then lv.set g false else lv).set (g - 1) true else if g < lv.length then lv.set g false else lv
theorem letL_len (lv : List Bool) (g : Nat) : (letL lv g).length = lv.length := by
  unfold letL
  split <;> split <;> simp
def letAllM (lv : List Bool) (gs : List Nat) : List Bool := gs.foldl letL lv
theorem letAll_len : ∀ (gs : List Nat) (lv : List Bool), (letAllM lv gs).length = lv.length
  | [], _ => rfl
  | g :: gs, lv => by show (letAllM (letL lv g) gs).length = _; rw [letAll_len gs, letL_len]
theorem filled_le {lv : List Bool} {c g : Nat} (hc : c ≤ lv.length) (h : g ∈ filledM lv c) : c ≤ g ∧ g ≤ lv.length := by
  unfold filledM at h
  rw [List.mem_reverse] at h
  obtain ⟨i, hi, rfl⟩ := List.mem_map.mp h
  have := List.mem_range.mp hi
  have := srcM_le hc
  omega
theorem emptied_le {lv : List Bool} {c g : Nat} (h : g ∈ emptiedM lv c) : g < c := by
  unfold emptiedM at h
  obtain ⟨i, hi, rfl⟩ := List.mem_map.mp h
  have := List.mem_range.mp hi
  omega
theorem filled_len {lv : List Bool} {c : Nat} (hc : c ≤ lv.length) : (filledM lv c).length ≤ lv.length + 1 := by
  unfold filledM
  rw [List.length_reverse, List.length_map, List.length_range]
  have := srcM_le hc
  omega
theorem emptied_len {lv : List Bool} {c : Nat} (hc : c ≤ lv.length) : (emptiedM lv c).length ≤ lv.length := by
  unfold emptiedM
  rw [List.length_map, List.length_range]
  omega
/-- levels and deeds -/
abbrev LD := List Bool × List Dd
def putM (st : LD) (gs : List Nat) : LD := (letAllM st.1 gs, st.2 ++ gs.map Dd.lt)
def sailM (b : Nat) (st : LD) : LD := (st.1, st.2 ++ [Dd.sl b])
def upStep (b : Nat) (st : LD) (c : Nat) : LD := sailM b (putM st (filledM st.1 c))
def downStep (b : Nat) (st : LD) (c : Nat) : LD := sailM b (putM st (emptiedM st.1 c))
def ups1 (n : Nat) : List Nat := (List.range n).map (1 + ·)
def upM (st : LD) (b : Nat) : LD := (ups1 st.1.length).foldl (upStep b) (sailM b (if st.1[0]? = some true then putM st (emptiedM st.1 1) else st))
def downM (st : LD) (b : Nat) : LD := (ups1 st.1.length).reverse.foldl (downStep b) (sailM b (if st.1.getLast? = some true then st else putM st (filledM st.1 st.1.length)))
def passM (u : Bool) (st : LD) (b : Nat) : LD := if u = true then upM st b else downM st b
def planAt (st : LD) (order : List Bool) : Nat → LD
  | 0 => st
  | i + 1 => match order[i]? with
    | some u => passM u (planAt st order i) i
    | none => planAt st order i
def planM (lv order : List Bool) : List Dd := (planAt (lv, []) order order.length).2
/-- sizes -/
structure Sz (n k : Nat) (st : LD) : Prop where
  l : st.1.length = n
  d : st.2.length ≤ k
theorem Sz.put {n k : Nat} {st : LD} {gs : List Nat} (h : Sz n k st) (hg : gs.length ≤ n + 1) : Sz n (k + n + 1) (putM st gs) := ⟨by show (letAllM _ _).length = n; rw [letAll_len, h.l], by show (st.2 ++ _).length ≤ _; rw [List.length_append, List.length_map]; have := h.d; omega⟩
theorem Sz.sail {n k : Nat} {st : LD} {b : Nat} (h : Sz n k st) : Sz n (k + 1) (sailM b st) := ⟨h.l, by show (st.2 ++ _).length ≤ _; rw [List.length_append]; have := h.d; simp; omega⟩
theorem Sz.mono {n k j : Nat} {st : LD} (h : Sz n k st) (hk : k ≤ j) : Sz n j st := ⟨h.l, Nat.le_trans h.d hk⟩
theorem mem_ups {n c : Nat} (h : c ∈ ups1 n) : 1 ≤ c ∧ c ≤ n := by
  obtain ⟨i, hi, rfl⟩ := List.mem_map.mp h
  have := List.mem_range.mp hi
  omega
theorem Sz.folds {n b : Nat} {f : LD → Nat → LD} (hf : ∀ k st c, c ≤ n → Sz n k st → Sz n (k + n + 2) (f st c)) : ∀ (l : List Nat) (k : Nat) (st : LD), (∀ c ∈ l, c ≤ n) → Sz n k st → Sz n (k + l.length * (n + 2)) (l.foldl f st)
  | [], k, st, _, h => by simpa using h
  | c :: l, k, st, hc, h => by
    have q := Sz.folds (b := b) hf l (k + n + 2) (f st c) (fun x hx => hc x (List.mem_cons_of_mem _ hx)) (hf k st c (hc c List.mem_cons_self) h)
    refine q.mono ?_
    rw [List.length_cons, Nat.add_mul]
    omega
theorem sz_up {n b : Nat} : ∀ k st c, c ≤ n → Sz n k st → Sz n (k + n + 2) (upStep b st c) := fun k st c hc h => by
  have := (h.put (gs := filledM st.1 c) (by rw [← h.l]; exact filled_len (by rw [h.l]; exact hc))).sail (b := b)
  exact this
theorem sz_down {n b : Nat} : ∀ k st c, c ≤ n → Sz n k st → Sz n (k + n + 2) (downStep b st c) := fun k st c hc h => by
  have := (h.put (gs := emptiedM st.1 c) (by have := emptied_len (lv := st.1) (c := c) (by rw [h.l]; exact hc); rw [h.l] at this; omega)).sail (b := b)
  exact this
theorem ups1_len (n : Nat) : (ups1 n).length = n := by simp [ups1]
theorem Sz.pass {n k b : Nat} {st : LD} {u : Bool} (h : Sz n k st) (hn : 1 ≤ n ∧ n ≤ 8) : Sz n (k + 100) (passM u st b) := by
  have e1 : (ups1 n).length * (n + 2) ≤ 80 := by
    rw [ups1_len]
    exact Nat.le_trans (Nat.mul_le_mul hn.2 (show n + 2 ≤ 10 by omega)) (by decide)
  unfold passM
  cases u with
  | true =>
    rw [if_pos rfl]
    unfold upM
    rw [h.l]
    have h1 : Sz n (k + n + 2) (sailM b (if st.1[0]? = some true then putM st (emptiedM st.1 1) else st)) := by
      split
      · exact (h.put (gs := emptiedM st.1 1) (by have := emptied_len (lv := st.1) (c := 1) (by rw [h.l]; exact hn.1); rw [h.l] at this; omega)).sail
      · exact (h.sail (b := b)).mono (by omega)
    have q := Sz.folds (b := b) (sz_up (b := b)) (ups1 n) _ _ (fun c hc => (mem_ups hc).2) h1
    exact q.mono (by omega)
  | false =>
    rw [if_neg Bool.false_ne_true]
    unfold downM
    rw [h.l]
    have h1 : Sz n (k + n + 2) (sailM b (if st.1.getLast? = some true then st else putM st (filledM st.1 n))) := by
      split
      · exact (h.sail (b := b)).mono (by omega)
      · exact (h.put (gs := filledM st.1 n) (by have := filled_len (lv := st.1) (c := n) (by rw [h.l]; omega); rw [h.l] at this; omega)).sail
    have q := Sz.folds (b := b) (sz_down (b := b)) (ups1 n).reverse _ _ (fun c hc => (mem_ups (List.mem_reverse.mp hc)).2) h1
    rw [List.length_reverse] at q
    exact q.mono (by omega)
theorem sz_plan {n : Nat} {lv order : List Bool} (hl : lv.length = n) (hn : 1 ≤ n ∧ n ≤ 8) : ∀ i, i ≤ order.length → Sz n (i * 100) (planAt (lv, []) order i)
  | 0, _ => ⟨hl, Nat.zero_le _⟩
  | i + 1, h => by
    obtain ⟨u, hu⟩ : ∃ u, order[i]? = some u := ⟨order[i], List.getElem?_eq_getElem (by omega)⟩
    show Sz n _ (match order[i]? with | some u => passM u (planAt (lv, []) order i) i | none => planAt (lv, []) order i)
    rw [hu]
    have q := (sz_plan (order := order) hl hn i (by omega)).pass (u := u) (b := i) hn
    exact q.mono (by omega)
/-- folds, turn by turn -/
def foldAt {α β : Type} (f : α → β → α) (z : α) (l : List β) : Nat → α := fun i => (l.take i).foldl f z
theorem foldAt_step {α β : Type} {f : α → β → α} {z : α} {l : List β} {i : Nat} {x : β} (h : l[i]? = some x) : foldAt f z l (i + 1) = f (foldAt f z l i) x := by
  unfold foldAt
  rw [List.take_succ, h, List.foldl_append]
  rfl
theorem foldAt_all {α β : Type} {f : α → β → α} {z : α} {l : List β} : foldAt f z l l.length = l.foldl f z := by
  unfold foldAt
  rw [List.take_length]
local macro_rules | `(tactic| walk_at "ls") => `(tactic| first | exact Ls.d _ | exact Ls.own (i := 0) rfl | exact Ls.own (i := 1) rfl | exact Ls.own (i := 2) rfl | exact Ls.own (i := 3) rfl | exact Ls.own (i := 4) rfl | exact Ls.own (i := 5) rfl | exact Ls.own (i := 6) rfl | exact Ls.own (i := 7) rfl | exact Ls.own (i := 8) rfl | exact Ls.own (i := 9) rfl | exact Ls.own (i := 10) rfl)
local macro_rules | `(tactic| walk_at "vw") => `(tactic| first | exact Vw.d _ | exact Vw.own (i := 0) rfl | exact Vw.own (i := 1) rfl | exact Vw.own (i := 2) rfl | exact Vw.own (i := 3) rfl | exact Vw.own (i := 4) rfl | exact Vw.own (i := 5) rfl)
local macro_rules | `(tactic| walk_at "sq") => `(tactic| first | exact Sq.t _ | (refine' Sq.l ?vwz1; walk_at "vw"))
local macro_rules | `(tactic| walk_at "dep") => `(tactic| first | exact dep_l (Nat.zero_le 60) | exact dep_r (Nat.zero_le 60) | exact dep_l (dep_map fun _ => Nat.zero_le 10) | exact dep_r (dep_map fun _ => Nat.zero_le 10) | exact dep_l (by decide) | exact dep_r (by decide))
local macro_rules | `(tactic| walk_at "ri") => `(tactic| first | rfl)
local macro_rules | `(tactic| walk_at "rv") => `(tactic| first
  | ((with_reducible exact rv_plusI))
  | ((with_reducible refine' rv_of_F (rvf_plusM ?xz2 ?yz2 ?lz2)); (case' xz2 => walk_at "ls"); (case' yz2 => walk_at "ls"))
  | ((with_reducible refine' rv_of_F (rvf_plus ?xzp ?yzp ?lzp)); (case' xzp => walk_at "ls"); (case' yzp => walk_at "ls"))
  | ((with_reducible refine' rv_plusS ?lz3))
  | ((with_reducible exact rv_minus)) | ((with_reducible exact rv_lt)) | ((with_reducible exact rv_le)) | ((with_reducible exact rv_gt)) | ((with_reducible exact rv_ge))
  | ((with_reducible refine' rv_div ?cz4); (try (case cz4 => first | exact ⟨by decide, by decide⟩ | exact pws_pos _ _)))
  | ((with_reducible refine' rv_mod ?cz5); (try (case cz5 => decide)))
  | ((with_reducible refine' rv_times ?cz6); (try (case cz6 => first | exact .inl ⟨by omega, by omega⟩ | exact .inr ⟨by omega, by omega⟩)))
  | ((with_reducible refine' rv_pow ?cz7); (try (case cz7 => exact ⟨by decide, by decide, by decide⟩)))
  | ((with_reducible refine' rv_eq ?xz8 ?yz8 ?mz8); (case' xz8 => walk_at "vw"); (case' yz8 => walk_at "vw"); (try (case mz8 => walk_at "dep")))
  | ((with_reducible refine' rv_ne ?xz9 ?yz9 ?mz9); (case' xz9 => walk_at "vw"); (case' yz9 => walk_at "vw"); (try (case mz9 => walk_at "dep")))
  | ((with_reducible exact rv_isN)) | ((with_reducible exact rv_notN))
  | ((with_reducible refine' rv_ixs ?hz10))
  | ((with_reducible refine' rv_ixT ?hz11))
  | ((with_reducible refine' rv_ixS ?lz12 ?hz12))
  | ((with_reducible refine' rv_ixLM ?xz13 ?hz13); (case' xz13 => walk_at "ls"))
  | ((with_reducible refine' rv_ixL ?xz14 ?hz14); (case' xz14 => walk_at "ls"))
  | ((with_reducible refine' rv_in ?xz15 ?yz15 ?mz15); (case' xz15 => walk_at "vw"); (case' yz15 => walk_at "sq"))
  | ((with_reducible refine' rv_nin ?xz16 ?yz16 ?mz16); (case' xz16 => walk_at "vw"); (case' yz16 => walk_at "sq")))
local macro_rules | `(tactic| walk_at "ea") => `(tactic| first
  | ((with_reducible exact ea_nil))
  | ((with_reducible refine' ea_cons ?hz17 ?tz17); (case' hz17 => walk_at "ev"); (case' tz17 => walk_at "ea")))
local macro_rules | `(tactic| walk_at "ex") => `(tactic| first
  | ((with_reducible exact ex_nil))
  | ((with_reducible refine' ex_cons ?hz18 ?tz18); (case' hz18 => walk_at "ev"); (case' tz18 => walk_at "ex")))
local macro_rules | `(tactic| walk_at "eo") => `(tactic| first
  | ((with_reducible exact eo_none))
  | ((with_reducible refine' eo_some ?hz19); (case' hz19 => walk_at "ev")))
local macro_rules | `(tactic| walk_at "ei") => `(tactic| first
  | ((with_reducible refine' ei_list ?hz20); (case' hz20 => walk_at "ev"))
  | ((with_reducible refine' ei_tup ?hz21); (case' hz21 => walk_at "ev"))
  | ((with_reducible refine' ei_rng1M ?hz22 ?nz22); (case' hz22 => walk_at "ev"))
  | ((with_reducible refine' ei_rng2M ?hz23 ?kz23 ?nz23); (case' hz23 => walk_at "ev"); (case' kz23 => walk_at "ev")))
local macro_rules | `(tactic| walk_at "evf") => `(tactic| first
  | ((with_reducible refine' evf_lst ?hz24 ?lz24); (case' hz24 => walk_at "ex"); (try (case lz24 => first | decide | simp)))
  | ((with_reducible refine' evf_slM ?hz25 ?az25 ?bz25 ?lz25); (case' hz25 => walk_at "ev"); (case' az25 => walk_at "eo"); (case' bz25 => walk_at "eo"); (case' lz25 => walk_at "ls"))
  | ((with_reducible refine' evf_sls ?hz26 ?az26 ?bz26 ?lz26); (case' hz26 => walk_at "ev"); (case' az26 => walk_at "eo"); (case' bz26 => walk_at "eo"))
  | ((with_reducible refine' evf_sl ?hz27 ?az27 ?bz27 ?lz27); (case' hz27 => walk_at "ev"); (case' az27 => walk_at "eo"); (case' bz27 => walk_at "eo"); (case' lz27 => walk_at "ls"))
  | ((with_reducible refine' evf_list ?hz28 ?lz28); (case' hz28 => walk_at "ev"); (case' lz28 => walk_at "ls"))
  | ((with_reducible refine' evf_lcI0 (α := _) _ ?hz29 ?jz29 ?ez29); (case' hz29 => walk_at "ei"); (case jz29 => decide); (case' ez29 => (intro x hx; walk_at "ev")))
  | ((with_reducible refine' evf_lcI (α := _) _ _ ?hz30 ?jz30 ?tz30 ?ez30); (case' hz30 => walk_at "ei"); (case jz30 => decide); (case' tz30 => (intro x hx; walk_at "et")); (case' ez30 => (intro x hx hf; walk_at "ev")))
  | ((with_reducible refine' evf_callP ?az31 ?fz31); (case' az31 => walk_at "ea"); (case' fz31 => walk_at "fn"))
  | ((with_reducible refine' evf_op ?az32 ?bz32 ?rz32); (case' az32 => walk_at "ev"); (case' bz32 => walk_at "ev"); (case' rz32 => ((with_reducible refine' rvf_plusM ?xz32 ?yz32 ?lz32); (case' xz32 => walk_at "ls"); (case' yz32 => walk_at "ls")))))
local macro_rules | `(tactic| walk_at "et") => `(tactic| first
  | ((with_reducible exact et_yes))
  | ((with_reducible refine' et_test ?hz33); (case' hz33 => walk_at "ev"))
  | ((with_reducible refine' et_val ?hz34); (case' hz34 => walk_at "ev"))
  | ((with_reducible refine' et_not ?hz35); (case' hz35 => walk_at "et"))
  | ((with_reducible refine' et_and ?hz36 ?kz36); (case' hz36 => walk_at "et"); (case' kz36 => (intro hk; walk_at "et")))
  | ((with_reducible refine' et_or ?hz37 ?kz37); (case' hz37 => walk_at "et"); (case' kz37 => (intro hk; walk_at "et"))))
local macro_rules | `(tactic| walk_at "ev") => `(tactic| first
  | ((with_reducible refine' ev_var ?hvr); (case hvr => rfl))
  | ((with_reducible exact ev_int)) | ((with_reducible exact ev_str)) | ((with_reducible exact ev_bl)) | ((with_reducible exact ev_non))
  | ((with_reducible refine' ev_op ?az39 ?bz39 ?rz39); (case' az39 => walk_at "ev"); (case' bz39 => walk_at "ev"); (case' rz39 => walk_at "rv"))
  | ((with_reducible refine' ev_neg ?az40); (case' az40 => walk_at "ev"))
  | ((with_reducible refine' ev_not ?az41); (case' az41 => walk_at "ev"))
  | ((with_reducible refine' ev_and ?az42 ?bz42); (case' az42 => walk_at "ev"); (case' bz42 => (intro hk; walk_at "ev")))
  | ((with_reducible refine' ev_or ?az43 ?bz43); (case' az43 => walk_at "ev"); (case' bz43 => (intro hk; walk_at "ev")))
  | ((with_reducible refine' ev_chain ?az44 ?bz44 ?rz44 ?cz44); (case' az44 => walk_at "ev"); (case' bz44 => walk_at "ev"); (case' rz44 => walk_at "rv"); (case' cz44 => (intro hk; (refine' ⟨?c1z44, ?c2z44⟩; (case' c1z44 => walk_at "ev"); (case' c2z44 => walk_at "rv")))))
  | ((with_reducible refine' ev_tup ?az45 ?lz45); (case' az45 => walk_at "ex"); (try (case lz45 => first | decide | simp)))
  | ((with_reducible refine' ev_lenL ?az46 ?lz46); (case' az46 => walk_at "ev"); (case' lz46 => walk_at "ls"))
  | ((with_reducible refine' ev_lens ?az47); (case' az47 => walk_at "ev"))
  | ((with_reducible refine' ev_lenS ?az48 ?lz48); (case' az48 => walk_at "ev"))
  | ((with_reducible refine' ev_lenT ?az49); (case' az49 => walk_at "ev"))
  | ((with_reducible refine' ev_int1 ?az50); (case' az50 => walk_at "ev"))
  | ((with_reducible refine' ev_min2 ?az51 ?bz51); (case' az51 => walk_at "ev"); (case' bz51 => walk_at "ev"))
  | ((with_reducible refine' ev_max2 ?az52 ?bz52); (case' az52 => walk_at "ev"); (case' bz52 => walk_at "ev"))
  | ((with_reducible refine' ev_isi ?az53 ?vz53 ?tz53 ?kz53); (case' az53 => walk_at "ev"); (case' vz53 => walk_at "vw"); (case tz53 => rfl); (case kz53 => decide +kernel))
  | ((with_reducible refine' ev_cnt ?az54 ?lz54 ?bz54 ?mz54); (case' az54 => walk_at "ev"); (case' lz54 => walk_at "ls"); (case' bz54 => walk_at "ev"))
  | ((with_reducible refine' ev_all ?az55 ?lz55); (case' az55 => walk_at "ev"); (case' lz55 => walk_at "ls"))
  | ((with_reducible refine' ev_sum ?az56 ?lz56); (case' az56 => walk_at "ev"); (case' lz56 => walk_at "ls"))
  | ((with_reducible refine' ev_callP ?az57 ?fz57); (case' az57 => walk_at "ea"); (case' fz57 => walk_at "fn"))
  | ((with_reducible refine' ev_frz ?az58); (case' az58 => walk_at "evf"))
  | ((with_reducible refine' ev_callP ?azq ?fzq); (case' azq => walk_at "ea")))
local macro_rules | `(tactic| walk_at "ix") => `(tactic| first | omega | (simp only [List.mem_range] at *; omega))
local macro_rules | `(tactic| walk_at "ev") => `(tactic| ((with_reducible refine' ev_pws ?hpws ?ipws); (case' hpws => walk_at "ev"); (try (case ipws => walk_at "ix"))))
local macro_rules | `(tactic| walk_at "ev") => `(tactic| ((with_reducible refine' ev_updown ?hupd ?iupd); (case' hupd => walk_at "ev"); (try (case iupd => omega))))
local macro_rules | `(tactic| walk_at "ev") => `(tactic| ((with_reducible refine' ev_pairB ?apb ?bpb ?cpb); (case' apb => walk_at "ev"); (case' bpb => walk_at "ev"); (case' cpb => walk_at "ev")))
def Φ_ask_levels (A : Ad) : Fn := fun ds R N M => ∃ xs, ds = [.d (.list xs)] ∧ R = [] ∧ (1 ≤ xs.length ∧ xs.length ≤ 8 → N (.d .none) []) ∧ (¬ (1 ≤ xs.length ∧ xs.length ≤ 8) → M (.ref A.bf) [])
def Φ_cost_of (A : Ad) : Fn := fun ds R N M => ∃ bs u, ds = [.d (.list (bs.map .bool)), .d (sd u)] ∧ R = [] ∧ bs ≠ [] ∧ N (.d (.int (costOf bs u))) []
theorem c_cost_of {A : Ad} {N : D → Res → Prop} {M : Value → Res → Prop} {bs : List Bool} {u : Bool} (h : bs ≠ []) (n : N (.d (.int (costOf bs u))) []) : Φ_cost_of A [.d (.list (bs.map .bool)), .d (sd u)] [] N M := ⟨bs, u, rfl, rfl, h, n⟩
local macro_rules | `(tactic| walk_at "fn") => `(tactic| ((with_reducible refine' c_cost_of ?hcostof ?ncostof); (case ncostof => exact ⟨rfl, rfl⟩)))
def Φ_behind (A : Ad) : Fn := fun ds R N M => ∃ bs u, ds = [.d (.list (bs.map .bool)), .d (sd u)] ∧ R = [] ∧ ∀ a, N (.r a) [(a, .lst ((behindOf bs u).map .bool))]
theorem c_behind {A : Ad} {N : D → Res → Prop} {M : Value → Res → Prop} {bs : List Bool} {u : Bool} (n : ∀ a, N (.r a) [(a, .lst ((behindOf bs u).map .bool))]) : Φ_behind A [.d (.list (bs.map .bool)), .d (sd u)] [] N M := ⟨bs, u, rfl, rfl, n⟩
local macro_rules | `(tactic| walk_at "fn") => `(tactic| ((with_reducible refine' c_behind ?nbehind); (case nbehind => exact fun a => ⟨a, rfl, rfl⟩)))
def Φ_cost (A : Ad) : Fn := fun ds R N M => ∃ bs order, ds = [.d (.list (bs.map .bool)), .d (.list (order.map sd))] ∧ R = [] ∧ (1 ≤ bs.length ∧ bs.length ≤ 8 → N (.d (.int (costs bs order))) []) ∧ (¬ (1 ≤ bs.length ∧ bs.length ≤ 8) → M (.ref A.bf) [])
theorem c_cost {A : Ad} {N : D → Res → Prop} {M : Value → Res → Prop} {bs order : List Bool} (h : 1 ≤ bs.length ∧ bs.length ≤ 8) (n : N (.d (.int (costs bs order))) []) : Φ_cost A [.d (.list (bs.map .bool)), .d (.list (order.map sd))] [] N M := ⟨bs, order, rfl, rfl, fun _ => n, fun q => absurd h q⟩
local macro_rules | `(tactic| walk_at "fn") => `(tactic| ((with_reducible refine' c_cost ?hcost ?ncost); (case ncost => exact ⟨rfl, rfl⟩)))
def Φ_filled (A : Ad) : Fn := fun ds R N M => ∃ lv c, ds = [.d (.list (lv.map .bool)), .d (.int (c : Nat))] ∧ R = [] ∧ c ≤ lv.length ∧ lv.length ≤ 8 ∧ N (.d (.list (((filledM lv c).map Dd.lt).map encDd))) []
theorem c_filled {A : Ad} {N : D → Res → Prop} {M : Value → Res → Prop} {lv : List Bool} {c : Nat} (h : c ≤ lv.length) (h8 : lv.length ≤ 8) (n : N (.d (.list (((filledM lv c).map Dd.lt).map encDd))) []) : Φ_filled A [.d (.list (lv.map .bool)), .d (.int (c : Nat))] [] N M := ⟨lv, c, rfl, rfl, h, h8, n⟩
theorem ev_letP {K : PySem.W.Frag} {δ : DEnv} {R : Res} {g : Nat} {te : TE} (h : Ev K δ R te (.d (.int g))) : Ev K δ R (tTup (tCons (tC (.str "let")) (tCons te tNil))) (.d (encDd (.lt g))) := ev_tup (ex_cons ev_str (ex_cons h ex_nil)) (by simp)
theorem ev_sailP {K : PySem.W.Frag} {δ : DEnv} {R : Res} {g : Nat} {te : TE} (h : Ev K δ R te (.d (.int g))) : Ev K δ R (tTup (tCons (tC (.str "sail")) (tCons te tNil))) (.d (encDd (.sl g))) := ev_tup (ex_cons ev_str (ex_cons h ex_nil)) (by simp)
theorem rng_nat (c n : Nat) : rngD (c : Int) n = ((List.range n).map (c + ·)).map fun g : Nat => PyData.int g := by
  unfold rngD
  rw [List.map_map]
  refine List.map_congr_left fun i _ => ?_
  show PyData.int ((c : Int) + i) = .int ((c + i : Nat) : Int)
  rw [Int.natCast_add]
def Φ_emptied (A : Ad) : Fn := fun ds R N M => ∃ lv c, ds = [.d (.list (lv.map .bool)), .d (.int (c : Nat))] ∧ R = [] ∧ 1 ≤ c ∧ c ≤ lv.length ∧ lv.length ≤ 8 ∧ N (.d (.list (((emptiedM lv c).map Dd.lt).map encDd))) []
theorem c_emptied {A : Ad} {N : D → Res → Prop} {M : Value → Res → Prop} {lv : List Bool} {c : Nat} (h1 : 1 ≤ c) (h : c ≤ lv.length) (h8 : lv.length ≤ 8) (n : N (.d (.list (((emptiedM lv c).map Dd.lt).map encDd))) []) : Φ_emptied A [.d (.list (lv.map .bool)), .d (.int (c : Nat))] [] N M := ⟨lv, c, rfl, rfl, h1, h, h8, n⟩
def Φ_let_all (A : Ad) : Fn := fun ds R N M => ∃ lv gs, ds = [.d (.list (lv.map .bool)), .d (.list ((gs.map Dd.lt).map encDd))] ∧ R = [] ∧ lv.length ≤ 8 ∧ (∀ g ∈ gs, g ≤ lv.length) ∧ N (.d (.list ((letAllM lv gs).map .bool))) []
theorem ixN_nat {n k : Nat} (h : k < n) : ixN n (k : Int) = some k := by
  unfold ixN
  rw [if_pos (by omega), if_pos (by omega)]
  simp
def Φ_put (A : Ad) : Fn := fun ds R N M => ∃ (st : LD) (gs : List Nat) (a : Addr), ds = [.d (.list (st.1.map .bool)), .r a, .d (.list ((gs.map Dd.lt).map encDd))] ∧ R = [(a, .lst (st.2.map encDd))] ∧ st.1.length ≤ 8 ∧ (∀ g ∈ gs, g ≤ st.1.length) ∧ gs.length ≤ 100 ∧ st.2.length ≤ 40000 ∧ N (.d (.list ((putM st gs).1.map .bool))) [(a, .lst ((putM st gs).2.map encDd))]
def Φ_passage_up (A : Ad) : Fn := fun ds R N M => ∃ (st : LD) (b : Nat) (a : Addr), ds = [.d (.list (st.1.map .bool)), .d (.int b), .r a] ∧ R = [(a, .lst (st.2.map encDd))] ∧ (1 ≤ st.1.length ∧ st.1.length ≤ 8) ∧ st.2.length ≤ 30000 ∧ N (.d (.list ((upM st b).1.map .bool))) [(a, .lst ((upM st b).2.map encDd))]
theorem rng_ups (n : Nat) : rngD 1 ((n : Int) + 1 - 1).toNat = (ups1 n).map fun g : Nat => PyData.int g := by
  rw [show ((n : Int) + 1 - 1).toNat = n by omega]
  have := rng_nat 1 n
  exact this
/-- levels = put(levels, deeds, filled or emptied); deeds.append(("sail", boat)) -/
theorem x_puts {K : PySem.W.Frag} {A : Ad} {E : XK} {P : Post} {δ : DEnv} {st : LD} {gs : List Nat} {a : Addr} {tg : TE} (h0 : δ[0]? = some (some (.d (.list (st.1.map .bool))))) (h2 : δ[2]? = some (some (.r a))) (hg : ∀ R, Ev K δ R tg (.d (.list ((gs.map Dd.lt).map encDd))))
    (h8 : st.1.length ≤ 8) (hgs : ∀ g ∈ gs, g ≤ st.1.length) (hgl : gs.length ≤ 100) (hd : st.2.length ≤ 40000) (n : P.nx (δ.set 0 (some (.d (.list ((putM st gs).1.map .bool))))) [(a, .lst ((putM st gs).2.map encDd))]) :
    XS K (fun c d _ H => E c d H) δ [(a, .lst (st.2.map encDd))] (tAsg (tCallS (spD K (Φ_put A)) (fun _ => E) (tCons (tVar 0) (tCons (tVar 2) (tCons tg tNil)))) (gName 0)) P := by
  refine x_asgE (M := fun _ _ => False) (N := fun d R' => d = .d (.list ((putM st gs).1.map .bool)) ∧ R' = [(a, .lst ((putM st gs).2.map encDd))]) (ee_call3 (ea_cons (ev_var h0) (ea_cons (ev_var h2) (ea_cons (hg _) ea_nil))) ⟨st, gs, a, rfl, rfl, h8, hgs, hgl, hd, rfl, rfl⟩ fun _ _ _ _ h => h.elim) ?_ fun _ _ h => h.elim
  rintro d R' ⟨rfl, rfl⟩
  exact n
theorem x_sails {K : PySem.W.Frag} {E : XK} {P : Post} {δ : DEnv} {st : LD} {b : Nat} {a : Addr} (h1 : δ[1]? = some (some (.d (.int (b : Nat))))) (h2 : δ[2]? = some (some (.r a))) (hd : st.2.length < 50000) (n : P.nx δ [(a, .lst ((sailM b st).2.map encDd))]) :
    XS K (fun c d _ H => E c d H) δ [(a, .lst (st.2.map encDd))] (tDrop (tBM K "list" rAppend (tVar 2) (tCons (tTup (tCons (tC (.str "sail")) (tCons (tVar 1) tNil))) tNil))) P := by
  refine x_app (i := 0) (w := encDd (.sl b)) (ev_var h2) rfl (ev_sailP (ev_var h1)) (by rw [List.length_map]; exact hd) ?_
  show P.nx δ [(a, RO.lst (st.2.map encDd ++ [encDd (.sl b)]))]
  have e : st.2.map encDd ++ [encDd (.sl b)] = (sailM b st).2.map encDd := by show _ = (st.2 ++ [Dd.sl b]).map encDd; rw [List.map_append]; rfl
  rw [e]
  exact n
def Φ_passage_down (A : Ad) : Fn := fun ds R N M => ∃ (st : LD) (b : Nat) (a : Addr), ds = [.d (.list (st.1.map .bool)), .d (.int b), .r a] ∧ R = [(a, .lst (st.2.map encDd))] ∧ (1 ≤ st.1.length ∧ st.1.length ≤ 8) ∧ st.2.length ≤ 30000 ∧ N (.d (.list ((downM st b).1.map .bool))) [(a, .lst ((downM st b).2.map encDd))]
def Φ_plan (A : Ad) : Fn := fun ds R N M => ∃ lv order, ds = [.d (.list (lv.map .bool)), .d (.list (order.map sd))] ∧ R = [] ∧ order.length ≤ 100 ∧ (1 ≤ lv.length ∧ lv.length ≤ 8 → ∀ a, N (.r a) [(a, .lst ((planM lv order).map encDd))]) ∧ (¬ (1 ≤ lv.length ∧ lv.length ≤ 8) → M (.ref A.bf) [])
theorem c_plan {A : Ad} {N : D → Res → Prop} {M : Value → Res → Prop} {lv order : List Bool} (ho : order.length ≤ 100) (h : 1 ≤ lv.length ∧ lv.length ≤ 8) (n : ∀ a, N (.r a) [(a, .lst ((planM lv order).map encDd))]) : Φ_plan A [.d (.list (lv.map .bool)), .d (.list (order.map sd))] [] N M := ⟨lv, order, rfl, rfl, ho, fun _ => n, fun q => absurd h q⟩
def Φ_may_go (A : Ad) : Fn := fun ds R N M => ∃ s u p, ds = [.d (sd u), .d (.int (Sd.ups s)), .d (.int s.downs), .d (.str (lastS s.last)), .d (.int s.run), .d (.int p)] ∧ R = [] ∧ N (.d (.bool (mayS p s u))) []
theorem c_may_go {A : Ad} {N : D → Res → Prop} {M : Value → Res → Prop} {s : Sd} {u : Bool} {p : Int} (n : N (.d (.bool (mayS p s u))) []) : Φ_may_go A [.d (sd u), .d (.int s.ups), .d (.int s.downs), .d (.str (lastS s.last)), .d (.int s.run), .d (.int p)] [] N M := ⟨s, u, p, rfl, rfl, n⟩
def Φ_left_behind (A : Ad) : Fn := fun ds R N M => ∃ s u, ds = [.d (sd u), .d (.int (Sd.ups s)), .d (.int s.downs), .d (.str (lastS s.last)), .d (.int s.run)] ∧ R = [] ∧ N (.d (keyT (nxt s u).key)) []
theorem c_left_behind {A : Ad} {N : D → Res → Prop} {M : Value → Res → Prop} {s : Sd} {u : Bool} (n : N (.d (keyT (nxt s u).key)) []) : Φ_left_behind A [.d (sd u), .d (.int s.ups), .d (.int s.downs), .d (.str (lastS s.last)), .d (.int s.run)] [] N M := ⟨s, u, rfl, rfl, n⟩
def Φ_rest_of_ : Nat → Ad → Fn
  | 0, _ => fun _ _ _ _ => False
  | n + 1, A => fun ds R N M => ∃ (m : Nat) (p : Int) (s : Sd) (a : Addr) (kvs : List (List Key × Int)), ds = [.d (.int m), .d (keyT s.key), .d (.int p), .r a] ∧ R = [(a, .dit kvs)] ∧ (1 ≤ m ∧ m ≤ 8) ∧ OkS s ∧ s.sum ≤ n ∧ Good m p kvs ∧ ∀ kvs', Good m p kvs' → N (.d (.int (restS m p s))) [(a, .dit kvs')]
def Φ_rest_of (A : Ad) : Fn := Φ_rest_of_ 17 A
theorem c_rest_of {A : Ad} {N : D → Res → Prop} {M : Value → Res → Prop} {m : Nat} {p : Int} {s : Sd} {a : Addr} {kvs : List (List Key × Int)} (hm : 1 ≤ m ∧ m ≤ 8) (o : OkS s) (g : Good m p kvs) (n : ∀ kvs', Good m p kvs' → N (.d (.int (restS m p s))) [(a, .dit kvs')]) : Φ_rest_of A [.d (.int m), .d (keyT s.key), .d (.int p), .r a] [(a, .dit kvs)] N M :=
  ⟨m, p, s, a, kvs, rfl, rfl, hm, o, by have := o.u8; have := o.d8; show s.ups + s.downs ≤ 16; omega, g, n⟩
theorem lv_ne {m : Nat} (hm : 1 ≤ m) (l : Option Bool) : lvS m l ≠ [] := by
  intro z
  have := congrArg List.length z
  unfold lvS at this
  rw [List.length_replicate] at this
  simp at this
  omega
theorem take_next {α : Type} {xs : List α} {i : Nat} {x : α} (h : xs[i]? = some x) : xs.take (i + 1) = xs.take i ++ [x] := by rw [List.take_succ, h]; rfl
def s0S (ups downs : Int) : Sd := ⟨ups, downs, none, 0⟩
theorem s0_ok {ups downs : Int} (hu : 0 ≤ ups ∧ ups ≤ 8) (hd : 0 ≤ downs ∧ downs ≤ 8) : OkS (s0S ups downs) := ⟨hu.1, hu.2, hd.1, hd.2, by show (0 : Int) ≤ 0; omega, by show 0 + (ups + downs) ≤ 40; omega⟩
def Φ_best (A : Ad) : Fn := fun ds R N M => ∃ lv ups downs p, ds = [.d (.list (lv.map .bool)), .d (.int ups), .d (.int downs), .d (.int p)] ∧ R = [] ∧ (0 ≤ ups ∧ ups ≤ 8) ∧ (0 ≤ downs ∧ downs ≤ 8) ∧ (1 ≤ lv.length ∧ lv.length ≤ 8 → ∀ a, N (.r a) [(a, .lst ((bestS lv.length p lv (s0S ups downs)).map sd))]) ∧ (¬ (1 ≤ lv.length ∧ lv.length ≤ 8) → M (.ref A.bf) [])
theorem c_best {A : Ad} {N : D → Res → Prop} {M : Value → Res → Prop} {lv : List Bool} {ups downs p : Int} (hu : 0 ≤ ups ∧ ups ≤ 8) (hd : 0 ≤ downs ∧ downs ≤ 8) (h : 1 ≤ lv.length ∧ lv.length ≤ 8) (n : ∀ a, N (.r a) [(a, .lst ((bestS lv.length p lv (s0S ups downs)).map sd))]) : Φ_best A [.d (.list (lv.map .bool)), .d (.int ups), .d (.int downs), .d (.int p)] [] N M := ⟨lv, ups, downs, p, rfl, rfl, hu, hd, fun _ => n, fun q => absurd h q⟩
theorem best_len {m : Nat} {p : Int} : ∀ (n : Nat) (lv : List Bool) (s : Sd), (bestF m p n lv s).length = n
  | 0, _, _ => rfl
  | n + 1, lv, s => by show (bestF m p n _ _).length + 1 = _; rw [best_len n]
def cellI (ns : List Int) (k : Int) : Int := ns.getD k.toNat 0
def Φ_law_cell_at (A : Ad) : Fn := fun ds R N M => ∃ ns k, ds = [.s ns, .d (.int k)] ∧ R = [] ∧ 0 ≤ k ∧ N (.d (.int (cellI ns k))) []
theorem c_law_cell_at {A : Ad} {N : D → Res → Prop} {M : Value → Res → Prop} {ns : List Int} {k : Int} (h : 0 ≤ k) (n : N (.d (.int (cellI ns k))) []) : Φ_law_cell_at A [.s ns, .d (.int k)] [] N M := ⟨ns, k, rfl, rfl, h, n⟩
local macro_rules | `(tactic| walk_at "fn") => `(tactic| ((with_reducible refine' c_law_cell_at ?hlawcell ?nlawcell); (case nlawcell => exact ⟨rfl, rfl⟩); (try (case hlawcell => omega))))
def lawOrder (ns : List Int) (k n : Int) : List Bool := (List.range n.toNat).map fun (i : Nat) => decide (cellI ns (k + i) / 3 % 2 = 0)
theorem lawOrder_len (ns : List Int) (k n : Int) : (lawOrder ns k n).length = n.toNat := by simp [lawOrder]
def Φ_law_order (A : Ad) : Fn := fun ds R N M => ∃ ns k n, ds = [.s ns, .d (.int k), .d (.int n)] ∧ R = [] ∧ 0 ≤ k ∧ 0 ≤ n ∧ n ≤ 1000 ∧ ∀ a, N (.r a) [(a, .lst ((lawOrder ns k n).map sd))]
theorem c_law_order {A : Ad} {N : D → Res → Prop} {M : Value → Res → Prop} {ns : List Int} {k m : Int} (h : 0 ≤ k ∧ 0 ≤ m ∧ m ≤ 1000) (n : ∀ a, N (.r a) [(a, .lst ((lawOrder ns k m).map sd))]) : Φ_law_order A [.s ns, .d (.int k), .d (.int m)] [] N M := ⟨ns, k, m, rfl, rfl, h.1, h.2.1, h.2.2, n⟩
local macro_rules | `(tactic| walk_at "fn") => `(tactic| ((with_reducible refine' c_law_order ?hlaworder ?nlaworder); (case nlaworder => exact fun a => ⟨a, rfl, rfl⟩); (try (case hlaworder => omega))))
-- NEED m_bf_bf i_bf_le i_bf_ng i_bf_bt
def Φ_law_refused (A : Ad) : Fn := fun ds R N M => ∃ (w : Nat) (lv order : List Bool) (p : Int), ds = [.d (.int w), .d (.list (lv.map .bool)), .d (.list (order.map sd)), .d (.int p)] ∧ R = [] ∧ order.length ≤ 8 ∧ N (.d (.bool (!decide (1 ≤ lv.length ∧ lv.length ≤ 8)))) []
def Φ_law (A : Ad) : Fn := Φ_top
def N_ask_levels : List Str := ["levels"]
def t_ask_levels (K : PySem.W.Frag) (A : Ad) (E : XK) : TS :=
  (tIfS (tNot (tTest (tChain rLe rLe (tC (.int 1)) (tCB (rLen K) (tCons (tVar 0) tNil)) (tC (.int 8))))) (tRz (fun cls d _ H => E cls d H) (.ref A.bf)) tNext)
def N_cost_of : List Str := ["levels", "side", "level"]
def t_cost_of (K : PySem.W.Frag) (A : Ad) (E : XK) : TS :=
  (tSeq (tIfS (tTest (tOp (rEqP K) (tVar 1) (tC (.str "up")))) (tRet (tOp rPlus (tC (.int 1)) (tCB (rLen K) (tCons (tLc (iList K (tSl (rSlL K) (tVar 0) (tPart (tC (.int 1))) tNoPart)) (gName 2) (tNot (tB (tVar 2))) (tVar 2) [2]) tNil)))) tNext)
  (tRet (tCB rInt1 (tCons (tNotV (tOp (rIx K) (tVar 0) (tUn rNeg (tC (.int 1))))) tNil))))
def N_behind : List Str := ["levels", "side", "level"]
def t_behind (K : PySem.W.Frag) (A : Ad) (E : XK) : TS :=
  (tRet (tLc (iList K (tVar 0)) (gName 2) tYes (tOp (rEqP K) (tVar 1) (tC (.str "up"))) [2]))
def N_cost : List Str := ["levels", "order", "total", "side"]
def t_cost (K : PySem.W.Frag) (A : Ad) (E : XK) : TS :=
  (tSeq (tDrop (tCallS (spD K (Φ_ask_levels A)) (fun _ => E) (tCons (tVar 0) tNil)))
  (tSeq (tAsg (tC (.int 0)) (gName 2))
  (tSeq (tFor (iList K (tVar 1)) (gName 3) (tSeq (tAsg (tOp rPlus (tVar 2) (tCallS (spD K (Φ_cost_of A)) (fun _ => E) (tCons (tVar 0) (tCons (tVar 3) tNil)))) (gName 2))
  (tAsg (tCallS (spD K (Φ_behind A)) (fun _ => E) (tCons (tVar 0) (tCons (tVar 3) tNil))) (gName 0))))
  (tRet (tVar 2)))))
def N_filled : List Str := ["levels", "chamber", "source", "gate"]
def t_filled (K : PySem.W.Frag) (A : Ad) (E : XK) : TS :=
  (tSeq (tAsg (tVar 1) (gName 2))
  (tSeq (tWhile (tAnd (tTest (tOp rLt (tVar 2) (tCB (rLen K) (tCons (tVar 0) tNil)))) (tNot (tB (tOp (rIx K) (tVar 0) (tVar 2))))) (tAsg (tOp rPlus (tVar 2) (tC (.int 1))) (gName 2)))
  (tRet (tLc (iRevR (tRg2 (tVar 1) (tOp rPlus (tVar 2) (tC (.int 1))))) (gName 3) tYes (tTup (tCons (tC (.str "let")) (tCons (tVar 3) tNil))) [3]))))
def N_emptied : List Str := ["levels", "chamber", "sink", "gate"]
def t_emptied (K : PySem.W.Frag) (A : Ad) (E : XK) : TS :=
  (tSeq (tAsg (tOp rMinus (tVar 1) (tC (.int 1))) (gName 2))
  (tSeq (tWhile (tAnd (tTest (tOp rGt (tVar 2) (tC (.int 0)))) (tB (tOp (rIx K) (tVar 0) (tOp rMinus (tVar 2) (tC (.int 1)))))) (tAsg (tOp rMinus (tVar 2) (tC (.int 1))) (gName 2)))
  (tRet (tLc (iRng2 (tCons (tVar 2) (tCons (tVar 1) tNil))) (gName 3) tYes (tTup (tCons (tC (.str "let")) (tCons (tVar 3) tNil))) [3]))))
def N_let_all : List Str := ["levels", "deeds", "found", "deed"]
def t_let_all (K : PySem.W.Frag) (A : Ad) (E : XK) : TS :=
  (tSeq (tAsg (tCB (rListS K) (tCons (tVar 0) tNil)) (gName 2))
  (tSeq (tFor (iList K (tVar 1)) (gName 3) (tSeq (tIfS (tTest (tOp rLt (tOp (rIx K) (tVar 3) (tC (.int 1))) (tCB (rLen K) (tCons (tVar 2) tNil)))) (tAsg (tC (.bl false)) (gSub (tVar 2) (tOp (rIx K) (tVar 3) (tC (.int 1))) rSetL)) tNext)
  (tIfS (tTest (tOp rGt (tOp (rIx K) (tVar 3) (tC (.int 1))) (tC (.int 0)))) (tAsg (tC (.bl true)) (gSub (tVar 2) (tOp rMinus (tOp (rIx K) (tVar 3) (tC (.int 1))) (tC (.int 1))) rSetL)) tNext)))
  (tRet (tVar 2))))
def N_put : List Str := ["levels", "deeds", "more"]
def t_put (K : PySem.W.Frag) (A : Ad) (E : XK) : TS :=
  (tSeq (tDrop (tBM K "list" rExtend (tVar 1) (tCons (tVar 2) tNil)))
  (tRet (tCallS (spD K (Φ_let_all A)) (fun _ => E) (tCons (tVar 0) (tCons (tVar 2) tNil)))))
def N_passage_up : List Str := ["levels", "boat", "deeds", "chamber"]
def t_passage_up (K : PySem.W.Frag) (A : Ad) (E : XK) : TS :=
  (tSeq (tIfS (tB (tOp (rIx K) (tVar 0) (tC (.int 0)))) (tAsg (tCallS (spD K (Φ_put A)) (fun _ => E) (tCons (tVar 0) (tCons (tVar 2) (tCons (tCallS (spD K (Φ_emptied A)) (fun _ => E) (tCons (tVar 0) (tCons (tC (.int 1)) tNil))) tNil)))) (gName 0)) tNext)
  (tSeq (tDrop (tBM K "list" rAppend (tVar 2) (tCons (tTup (tCons (tC (.str "sail")) (tCons (tVar 1) tNil))) tNil)))
  (tSeq (tFor (iRng2 (tCons (tC (.int 1)) (tCons (tOp rPlus (tCB (rLen K) (tCons (tVar 0) tNil)) (tC (.int 1))) tNil))) (gName 3) (tSeq (tAsg (tCallS (spD K (Φ_put A)) (fun _ => E) (tCons (tVar 0) (tCons (tVar 2) (tCons (tCallS (spD K (Φ_filled A)) (fun _ => E) (tCons (tVar 0) (tCons (tVar 3) tNil))) tNil)))) (gName 0))
  (tDrop (tBM K "list" rAppend (tVar 2) (tCons (tTup (tCons (tC (.str "sail")) (tCons (tVar 1) tNil))) tNil)))))
  (tRet (tVar 0)))))
def N_passage_down : List Str := ["levels", "boat", "deeds", "chamber"]
def t_passage_down (K : PySem.W.Frag) (A : Ad) (E : XK) : TS :=
  (tSeq (tIfS (tNot (tB (tOp (rIx K) (tVar 0) (tUn rNeg (tC (.int 1)))))) (tAsg (tCallS (spD K (Φ_put A)) (fun _ => E) (tCons (tVar 0) (tCons (tVar 2) (tCons (tCallS (spD K (Φ_filled A)) (fun _ => E) (tCons (tVar 0) (tCons (tCB (rLen K) (tCons (tVar 0) tNil)) tNil))) tNil)))) (gName 0)) tNext)
  (tSeq (tDrop (tBM K "list" rAppend (tVar 2) (tCons (tTup (tCons (tC (.str "sail")) (tCons (tVar 1) tNil))) tNil)))
  (tSeq (tFor (iRevR (tRg2 (tC (.int 1)) (tOp rPlus (tCB (rLen K) (tCons (tVar 0) tNil)) (tC (.int 1))))) (gName 3) (tSeq (tAsg (tCallS (spD K (Φ_put A)) (fun _ => E) (tCons (tVar 0) (tCons (tVar 2) (tCons (tCallS (spD K (Φ_emptied A)) (fun _ => E) (tCons (tVar 0) (tCons (tVar 3) tNil))) tNil)))) (gName 0))
  (tDrop (tBM K "list" rAppend (tVar 2) (tCons (tTup (tCons (tC (.str "sail")) (tCons (tVar 1) tNil))) tNil)))))
  (tRet (tVar 0)))))
def N_plan : List Str := ["levels", "order", "deeds", "boat"]
def t_plan (K : PySem.W.Frag) (A : Ad) (E : XK) : TS :=
  (tSeq (tDrop (tCallS (spD K (Φ_ask_levels A)) (fun _ => E) (tCons (tVar 0) tNil)))
  (tSeq (tAsg (tLst tNil) (gName 2))
  (tSeq (tFor (iRng1 (tCons (tCB (rLen K) (tCons (tVar 1) tNil)) tNil)) (gName 3) (tIfS (tTest (tOp (rEqP K) (tOp (rIx K) (tVar 1) (tVar 3)) (tC (.str "up")))) (tAsg (tCallS (spD K (Φ_passage_up A)) (fun _ => E) (tCons (tVar 0) (tCons (tVar 3) (tCons (tVar 2) tNil)))) (gName 0)) (tAsg (tCallS (spD K (Φ_passage_down A)) (fun _ => E) (tCons (tVar 0) (tCons (tVar 3) (tCons (tVar 2) tNil)))) (gName 0))))
  (tRet (tVar 2)))))
def N_may_go : List Str := ["side", "ups", "downs", "last", "run", "patience", "own", "other"]
def t_may_go (K : PySem.W.Frag) (A : Ad) (E : XK) : TS :=
  (tSeq (tAsg (tVar 1) (gName 6))
  (tSeq (tAsg (tVar 2) (gName 7))
  (tSeq (tIfS (tTest (tOp (rEqP K) (tVar 0) (tC (.str "down")))) (tSeq (tAsg (tVar 2) (gName 6))
  (tAsg (tVar 1) (gName 7))) tNext)
  (tRet (tAndV (tOp rGt (tVar 6) (tC (.int 0))) (tOrV (tOp (rEqP K) (tVar 7) (tC (.int 0))) (tOrV (tOp (rNeP K) (tVar 0) (tVar 3)) (tOp rLt (tVar 4) (tVar 5)))))))))
def N_left_behind : List Str := ["side", "ups", "downs", "last", "run"]
def t_left_behind (K : PySem.W.Frag) (A : Ad) (E : XK) : TS :=
  (tSeq (tIfS (tTest (tOp (rEqP K) (tVar 0) (tVar 3))) (tAsg (tOp rPlus (tVar 4) (tC (.int 1))) (gName 4)) (tAsg (tC (.int 1)) (gName 4)))
  (tSeq (tIfS (tTest (tOp (rEqP K) (tVar 0) (tC (.str "up")))) (tRet (tTup (tCons (tOp rMinus (tVar 1) (tC (.int 1))) (tCons (tVar 2) (tCons (tVar 0) (tCons (tVar 4) tNil)))))) tNext)
  (tRet (tTup (tCons (tVar 1) (tCons (tOp rMinus (tVar 2) (tC (.int 1))) (tCons (tVar 0) (tCons (tVar 4) tNil))))))))
def N_rest_of : List Str := ["many", "stand", "patience", "known", "ups", "downs", "last", "run", "levels", "found", "side", "then", "chamber"]
def t_rest_of (n : Nat) (K : PySem.W.Frag) (A : Ad) (E : XK) : TS :=
  (tSeq (tAsg (tVar 1) (gTup K 4 (gCons (gName 4) (gCons (gName 5) (gCons (gName 6) (gCons (gName 7) gNil))))))
  (tSeq (tIfS (tTest (tOp (rEqP K) (tOp rPlus (tVar 4) (tVar 5)) (tC (.int 0)))) (tRet (tC (.int 0))) tNext)
  (tSeq (tIfS (tB (tDIn (tVar 1) (tVar 3))) (tRet (tDGet (tVar 3) (tVar 1))) tNext)
  (tSeq (tAsg (tLc (iRng1 (tCons (tVar 0) tNil)) (gName 12) tYes (tOp (rEqP K) (tVar 6) (tC (.str "up"))) [12]) (gName 8))
  (tSeq (tAsg (tLst tNil) (gName 9))
  (tSeq (tFor (iTup K (tTup (tCons (tC (.str "down")) (tCons (tC (.str "up")) tNil)))) (gName 10) (tIfS (tB (tCallS (spD K (Φ_may_go A)) (fun _ => E) (tCons (tVar 10) (tCons (tVar 4) (tCons (tVar 5) (tCons (tVar 6) (tCons (tVar 7) (tCons (tVar 2) tNil)))))))) (tSeq (tAsg (tCallS (spD K (Φ_left_behind A)) (fun _ => E) (tCons (tVar 10) (tCons (tVar 4) (tCons (tVar 5) (tCons (tVar 6) (tCons (tVar 7) tNil)))))) (gName 11))
  (tDrop (tBM K "list" rAppend (tVar 9) (tCons (tOp rPlus (tCallS (spD K (Φ_cost_of A)) (fun _ => E) (tCons (tVar 8) (tCons (tVar 10) tNil))) (tCallS (spD K (Φ_rest_of_ n A)) (fun _ => E) (tCons (tVar 0) (tCons (tVar 11) (tCons (tVar 2) (tCons (tVar 3) tNil)))))) tNil)))) tNext))
  (tSeq (sDPut (tVar 3) (tVar 1) (tCB (rMin K) (tCons (tVar 9) tNil)))
  (tRet (tDGet (tVar 3) (tVar 1))))))))))
def N_best : List Str := ["levels", "ups", "downs", "patience", "known", "order", "stand", "found", "side", "then", "price", "least", "chosen", "row"]
def t_best (K : PySem.W.Frag) (A : Ad) (E : XK) : TS :=
  (tSeq (tDrop (tCallS (spD K (Φ_ask_levels A)) (fun _ => E) (tCons (tVar 0) tNil)))
  (tSeq (tAsg tDNewT (gName 4))
  (tSeq (tAsg (tLst tNil) (gName 5))
  (tSeq (tAsg (tTup (tCons (tVar 1) (tCons (tVar 2) (tCons (tC (.str "")) (tCons (tC (.int 0)) tNil))))) (gName 6))
  (tSeq (tWhile (tTest (tOp rGt (tOp rPlus (tOp (rIx K) (tVar 6) (tC (.int 0))) (tOp (rIx K) (tVar 6) (tC (.int 1)))) (tC (.int 0)))) (tSeq (tAsg (tLst tNil) (gName 7))
  (tSeq (tFor (iTup K (tTup (tCons (tC (.str "down")) (tCons (tC (.str "up")) tNil)))) (gName 8) (tIfS (tB (tCallS (spD K (Φ_may_go A)) (fun _ => E) (tCons (tVar 8) (tCons (tOp (rIx K) (tVar 6) (tC (.int 0))) (tCons (tOp (rIx K) (tVar 6) (tC (.int 1))) (tCons (tOp (rIx K) (tVar 6) (tC (.int 2))) (tCons (tOp (rIx K) (tVar 6) (tC (.int 3))) (tCons (tVar 3) tNil)))))))) (tSeq (tAsg (tCallS (spD K (Φ_left_behind A)) (fun _ => E) (tCons (tVar 8) (tCons (tOp (rIx K) (tVar 6) (tC (.int 0))) (tCons (tOp (rIx K) (tVar 6) (tC (.int 1))) (tCons (tOp (rIx K) (tVar 6) (tC (.int 2))) (tCons (tOp (rIx K) (tVar 6) (tC (.int 3))) tNil)))))) (gName 9))
  (tSeq (tAsg (tOp rPlus (tCallS (spD K (Φ_cost_of A)) (fun _ => E) (tCons (tVar 0) (tCons (tVar 8) tNil))) (tCallS (spD K (Φ_rest_of A)) (fun _ => E) (tCons (tCB (rLen K) (tCons (tVar 0) tNil)) (tCons (tVar 9) (tCons (tVar 3) (tCons (tVar 4) tNil)))))) (gName 10))
  (tDrop (tBM K "list" rAppend (tVar 7) (tCons (tTup (tCons (tVar 10) (tCons (tVar 8) (tCons (tVar 9) tNil)))) tNil))))) tNext))
  (tSeq (tAsg (tCB (rMin K) (tCons (tLc (iList K (tVar 7)) (gName 13) tYes (tOp (rIx K) (tVar 13) (tC (.int 0))) [13]) tNil)) (gName 11))
  (tSeq (tAsg (tOp (rIx K) (tLc (iList K (tVar 7)) (gName 13) (tTest (tOp (rEqP K) (tOp (rIx K) (tVar 13) (tC (.int 0))) (tVar 11))) (tVar 13) [13]) (tC (.int 0))) (gName 12))
  (tSeq (tDrop (tBM K "list" rAppend (tVar 5) (tCons (tOp (rIx K) (tVar 12) (tC (.int 1))) tNil)))
  (tSeq (tAsg (tCallS (spD K (Φ_behind A)) (fun _ => E) (tCons (tVar 0) (tCons (tOp (rIx K) (tVar 12) (tC (.int 1))) tNil))) (gName 0))
  (tAsg (tOp (rIx K) (tVar 12) (tC (.int 2))) (gName 6)))))))))
  (tRet (tVar 5)))))))
def N_law_cell_at : List Str := ["script", "k"]
def t_law_cell_at (K : PySem.W.Frag) (A : Ad) (E : XK) : TS :=
  (tSeq (tIfS (tTest (tOp rLt (tVar 1) (tCB (rLen K) (tCons (tVar 0) tNil)))) (tRet (tOp (rIx K) (tVar 0) (tVar 1))) tNext)
  (tRet (tC (.int 0))))
def N_law_order : List Str := ["script", "start", "size", "k"]
def t_law_order (K : PySem.W.Frag) (A : Ad) (E : XK) : TS :=
  (tRet (tLc (iRng1 (tCons (tVar 2) tNil)) (gName 3) tYes (tOp (rIx K) (tLst (tCons (tC (.str "up")) (tCons (tC (.str "down")) tNil))) (tOp rMod (tOp rDiv (tCallS (spD K (Φ_law_cell_at A)) (fun _ => E0) (tCons (tVar 0) (tCons (tOp rPlus (tVar 1) (tVar 3)) tNil))) (tC (.int 3))) (tC (.int 2)))) [3]))
def N_law_refused : List Str := ["way", "levels", "order", "patience", "bad", "e"]
def t_law_refused (K : PySem.W.Frag) (A : Ad) (E : XK) : TS :=
  (tSeq (tAsg (tC (.bl false)) (gName 4))
  (tSeq (tTryAs K (.ref A.bf) 5 (fun aE cE xE => tG (cE = .ref A.bf ∧ xE = none) (tAsg (tAndV (tCB (rIsE K A.bf aE) (tCons (tVar 5) (tCons (tC (.ref A.le)) tNil))) (tAndV (tNotV (tCB (rIsE K A.bf aE) (tCons (tVar 5) (tCons (tC (.ref A.ng)) tNil)))) (tNotV (tCB (rIsE K A.bf aE) (tCons (tVar 5) (tCons (tC (.ref A.bt)) tNil)))))) (gName 4))) (fun cls d _ H => E cls d H) (fun W => (tIfS (tTest (tOp (rEqP K) (tVar 0) (tC (.int 0)))) (tDrop (tCallS (spD K (Φ_cost A)) (WE W) (tCons (tVar 1) (tCons (tVar 2) tNil)))) (tIfS (tTest (tOp (rEqP K) (tVar 0) (tC (.int 1)))) (tDrop (tCallS (spD K (Φ_plan A)) (WE W) (tCons (tVar 1) (tCons (tVar 2) tNil)))) (tDrop (tCallS (spD K (Φ_best A)) (WE W) (tCons (tVar 1) (tCons (tCB (rLen K) (tCons (tVar 2) tNil)) (tCons (tC (.int 2)) (tCons (tVar 3) tNil))))))))))
  (tRet (tVar 4))))
def N_law : List Str := ["script", "many", "levels", "order", "patience", "way", "k"]
def t_law (K : PySem.W.Frag) (A : Ad) (E : XK) : TS :=
  (tSeq (tAsg (tOp rPlus (tC (.int 9)) (tOp rMod (tOp rDiv (tCallS (spD K (Φ_law_cell_at A)) (fun _ => E) (tCons (tVar 0) (tCons (tC (.int 0)) tNil))) (tC (.int 2))) (tC (.int 52)))) (gName 1))
  (tSeq (tIfS (tTest (tOp (rEqP K) (tOp rMod (tCallS (spD K (Φ_law_cell_at A)) (fun _ => E) (tCons (tVar 0) (tCons (tC (.int 0)) tNil))) (tC (.int 2))) (tC (.int 0)))) (tAsg (tC (.int 0)) (gName 1)) tNext)
  (tSeq (tAsg (tLc (iRng1 (tCons (tVar 1) tNil)) (gName 6) tYes (tOp (rEqP K) (tOp rMod (tOp rDiv (tCallS (spD K (Φ_law_cell_at A)) (fun _ => E0) (tCons (tVar 0) (tCons (tC (.int 1)) tNil))) (tOp (rIx K) (tLst (tCons (tC (.int 1)) (tCons (tC (.int 2)) (tCons (tC (.int 4)) (tCons (tC (.int 8)) (tCons (tC (.int 16)) (tCons (tC (.int 32)) (tCons (tC (.int 64)) (tCons (tC (.int 128)) tNil))))))))) (tOp rMod (tVar 6) (tC (.int 8))))) (tC (.int 2))) (tC (.int 1))) [6]) (gName 2))
  (tSeq (tAsg (tCallS (spD K (Φ_law_order A)) (fun _ => E) (tCons (tVar 0) (tCons (tC (.int 3)) (tCons (tOp rMod (tCallS (spD K (Φ_law_cell_at A)) (fun _ => E) (tCons (tVar 0) (tCons (tC (.int 2)) tNil))) (tC (.int 9))) tNil)))) (gName 3))
  (tSeq (tAsg (tOp rPlus (tC (.int 1)) (tOp rMod (tCallS (spD K (Φ_law_cell_at A)) (fun _ => E) (tCons (tVar 0) (tCons (tC (.int 12)) tNil))) (tC (.int 20)))) (gName 4))
  (tSeq (tFor (iRng1 (tCons (tC (.int 3)) tNil)) (gName 5) (tSeq (tIfS (tNot (tB (tCallS (spD K (Φ_law_refused A)) (fun _ => E) (tCons (tVar 5) (tCons (tCB (rListS K) (tCons (tVar 2) tNil)) (tCons (tCB (rListS K) (tCons (tVar 3) tNil)) (tCons (tVar 4) tNil))))))) (tRet (tC (.bl false))) tNext)
  (tIfS (tB (tCallS (spD K (Φ_law_refused A)) (fun _ => E) (tCons (tVar 5) (tCons (tLst (tCons (tC (.bl true)) (tCons (tC (.bl false)) tNil))) (tCons (tCB (rListS K) (tCons (tVar 3) tNil)) (tCons (tVar 4) tNil)))))) (tRet (tC (.bl false))) tNext)))
  (tRet (tC (.bl true)))))))))
section
variable {K : PySem.W.Frag} {A : Ad}
theorem s_ask_levels : Sem K (Φ_ask_levels A) N_ask_levels (t_ask_levels K A) := by
  rintro E ds R N' M' ⟨xs, rfl, rfl, n, m⟩
  refine x_if (b := !(decide ((1 : Int) ≤ (xs.length : Int)) && decide ((xs.length : Int) ≤ 8))) (by walk_at "et") ?_ ?_
  · intro h
    refine x_raise (m ?_)
    simp only [Bool.not_eq_true', Bool.and_eq_false_iff, decide_eq_false_iff_not] at h
    omega
  · intro h
    refine x_nil (n ?_)
    simp only [Bool.not_eq_false', Bool.and_eq_true, decide_eq_true_eq] at h
    omega
theorem s_cost_of : Sem K (Φ_cost_of A) N_cost_of (t_cost_of K A) := by
  rintro E ds R N' M' ⟨bs, u, rfl, rfl, hne, n⟩
  refine x_seq ?_
  refine x_ifI (b := u) (by walk_at "et") (eqv_up u) ?_ ?_
  · intro hu
    refine' x_retI ?qa ?qb n
    case' qa => walk_at "ev"
    case qb =>
      have e := cutL_from bs 1
      rw [show cutL bs (some 1) none = bs.drop 1 from e, List.length_map]
      unfold costOf
      rw [if_pos hu]
  · intro hu
    refine x_nil ?_
    obtain ⟨b, hb⟩ : ∃ b, bs.getLast? = some b := ⟨_, List.getLast?_eq_some_getLast hne⟩
    refine' x_retI ?pa ?pb n
    case' pa => walk_at "ev"
    exact atI_back hb
    case pb =>
      unfold costOf
      rw [hu, hb]
      cases b <;> rfl
theorem s_behind : Sem K (Φ_behind A) N_behind (t_behind K A) := by
  rintro E ds R N' M' ⟨bs, u, rfl, rfl, n⟩
  refine' x_retFI ?qa ?qb n
  case' qa => walk_at "evf"
  case qb =>
    unfold behindOf
    rw [List.map_map]
    refine List.map_congr_left fun b _ => ?_
    show PyData.bool (PyData.eqv (sd u) (.str "up")) = .bool u
    rw [eqv_up]
theorem s_cost : Sem K (Φ_cost A) N_cost (t_cost K A) := by
  rintro E ds R N' M' ⟨bs, order, rfl, rfl, n, m⟩
  refine x_seq ?_
  refine x_dropE (N := fun _ R' => R' = [] ∧ 1 ≤ bs.length ∧ bs.length ≤ 8) (M := fun c R' => R' = [] ∧ c = .ref A.bf ∧ ¬ (1 ≤ bs.length ∧ bs.length ≤ 8)) (ee_callP (by walk_at "ea") ⟨_, rfl, rfl, fun h => ⟨rfl, by rw [List.length_map] at h; exact h⟩, fun h => ⟨rfl, rfl, by rw [List.length_map] at h; exact h⟩⟩ fun _ _ _ _ _ h => h) ?_ ?_
  · rintro d R' ⟨rfl, h⟩
    refine x_seq (x_asg ev_int ?_)
    refine x_seq ?_
    refine x_forI (xs := order) (enc := sd) (fun i δ' R' => R' = [] ∧ ∃ v, δ' = [some (.d (.list ((lvAt bs order i).map .bool))), some (.d (.list (order.map sd))), some (.d (.int (cAt bs order i))), v]) (by walk_at "ei") ⟨rfl, none, rfl⟩ ?_ ?_
    · rintro i u δ' R' hi ⟨rfl, v, rfl⟩
      refine ⟨_, eg_name, x_seq ?_⟩
      have hl := lvAt_len bs order i
      refine' x_asgI ?a1 ?a2 ?a3
      case' a1 => walk_at "ev"
      · intro z
        rw [z] at hl
        simp at hl
        omega
      case a2 => exact congrArg (fun z => D.d (.int z)) (cAt_step hi).symm
      case a3 =>
        refine' x_asgI (d := .d (.list ((lvAt bs order (i + 1)).map .bool))) ?b1 ?b2 ⟨rfl, _, rfl⟩
        case' b1 => walk_at "ev"
        case b2 => rw [lvAt_step hi]
    · rintro δ' R' ⟨rfl, v, rfl⟩
      refine' x_retI ?c1 ?c2 (n h)
      case' c1 => walk_at "ev"
      case c2 => rw [cAt_all]
  · rintro c R' ⟨rfl, rfl, h⟩
    exact m h
theorem s_filled : Sem K (Φ_filled A) N_filled (t_filled K A) := by
  rintro E ds R N' M' ⟨lv, c, rfl, rfl, hc, h8, n⟩
  refine x_seq (x_asg (ev_var rfl) ?_)
  refine x_seq ?_
  refine x_while (fun t δ' R' => ∃ k : Nat, k ≤ lv.length ∧ t = lv.length - k ∧ srcM lv k = srcM lv c ∧ R' = [] ∧ δ' = [some (.d (.list (lv.map .bool))), some (.d (.int c)), some (.d (.int k)), none]) (lv.length - c) ⟨c, hc, rfl, rfl, rfl, rfl⟩ ?_
  rintro t δ' R' ⟨k, hk, rfl, hs, rfl, rfl⟩
  by_cases hlt : k < lv.length
  · obtain ⟨b, hb⟩ : ∃ b, lv[k]? = some b := ⟨lv[k], List.getElem?_eq_getElem hlt⟩
    refine ⟨!b, et_is (et_and (a := true) (b := !b) (et_is (et_test (ev_op (ev_var rfl) (ev_lenL (ev_var rfl) (.d _)) rv_lt)) (by rw [List.length_map]; exact decide_eq_true (by omega))) fun _ => et_not (et_val (ev_op (ev_var rfl) (ev_var rfl) (rv_ixLM (.d _) (atI_some hb))))) rfl, fun hb' => ?_, fun hb' => ?_⟩
    · have e : b = false := by simpa using hb'
      subst e
      refine x_asg (d := .d (.int ((k + 1 : Nat) : Int))) (ev_is (ev_op (ev_var rfl) ev_int rv_plusI) (by rw [Int.natCast_add]; rfl)) ⟨lv.length - (k + 1), by omega, k + 1, by omega, rfl, by rw [← srcM_go hb]; exact hs, rfl, rfl⟩
    · have e : b = true := by simpa using hb'
      subst e
      have es := srcM_stop hb
      have q1 : k = srcM lv c := by rw [← hs, es]
      have q2 := srcM_ge lv c
      refine x_ret (ev_frz (evf_is (evf_lcI0 (xs := filledM lv c) (enc := fun g : Nat => .int g) (fun g => encDd (.lt g)) (ei_is (ei_revR (a := (c : Int)) (n := (k : Int) + 1) (ev_var rfl) (ev_op (ev_var rfl) ev_int rv_plusI) (by omega)) ?_) (by decide) fun g _ => ev_letP (ev_var rfl)) (by rw [List.map_map]; rfl))) n
      rw [show ((k : Int) + 1 - c).toNat = k + 1 - c by omega, rng_nat, ← List.map_reverse, q1]
      rfl
  · have ek : k = lv.length := by omega
    have es := srcM_end (lv := lv) (k := k) (by omega)
    have q1 : k = srcM lv c := by rw [← hs, es]
    have q2 := srcM_ge lv c
    refine ⟨false, et_is (et_and (a := false) (b := false) (et_is (et_test (ev_op (ev_var rfl) (ev_lenL (ev_var rfl) (.d _)) rv_lt)) (by rw [List.length_map]; exact decide_eq_false (by omega))) fun h => nomatch h) rfl, (fun h => nomatch h), fun _ => ?_⟩
    refine x_ret (ev_frz (evf_is (evf_lcI0 (xs := filledM lv c) (enc := fun g : Nat => .int g) (fun g => encDd (.lt g)) (ei_is (ei_revR (a := (c : Int)) (n := (k : Int) + 1) (ev_var rfl) (ev_op (ev_var rfl) ev_int rv_plusI) (by omega)) ?_) (by decide) fun g _ => ev_letP (ev_var rfl)) (by rw [List.map_map]; rfl))) n
    rw [show ((k : Int) + 1 - c).toNat = k + 1 - c by omega, rng_nat, ← List.map_reverse, q1]
    rfl
theorem s_emptied : Sem K (Φ_emptied A) N_emptied (t_emptied K A) := by
  rintro E ds R N' M' ⟨lv, c, rfl, rfl, h1, hc, h8, n⟩
  refine x_seq (x_asg (d := .d (.int ((c - 1 : Nat) : Int))) (ev_is (ev_op (ev_var rfl) ev_int rv_minus) (by rw [show ((c - 1 : Nat) : Int) = (c : Int) - 1 by omega])) ?_)
  refine x_seq ?_
  refine x_while (fun t δ' R' => ∃ k : Nat, k ≤ c - 1 ∧ t = k ∧ snkM lv k = snkM lv (c - 1) ∧ R' = [] ∧ δ' = [some (.d (.list (lv.map .bool))), some (.d (.int c)), some (.d (.int k)), none]) (c - 1) ⟨c - 1, Nat.le_refl _, rfl, rfl, rfl, rfl⟩ ?_
  rintro t δ' R' ⟨k, hk, rfl, hs, rfl, rfl⟩
  have fin : t = snkM lv (c - 1) → XS K (fun c d _ H => E c d H) [some (.d (.list (lv.map .bool))), some (.d (.int c)), some (.d (.int t)), none] [] (tRet (tLc (iRng2 (tCons (tVar 2) (tCons (tVar 1) tNil))) (gName 3) tYes (tTup (tCons (tC (.str "let")) (tCons (tVar 3) tNil))) [3])) (endsOf N' M') := by
    intro q1
    refine x_ret (ev_frz (evf_is (evf_lcI0 (xs := emptiedM lv c) (enc := fun g : Nat => .int g) (fun g => encDd (.lt g)) (ei_is (ei_rng2 (a := (t : Int)) (n := (c : Int)) (ev_var rfl) (ev_var rfl) (by omega)) ?_) (by decide) fun g _ => ev_letP (ev_var rfl)) (by rw [List.map_map]; rfl))) n
    rw [show ((c : Int) - t).toNat = c - t by omega, rng_nat, q1]
    rfl
  cases t with
  | zero =>
    refine ⟨false, et_is (et_and (a := false) (b := false) (et_test (ev_op (ev_var rfl) ev_int rv_gt)) fun h => nomatch h) rfl, (fun h => nomatch h), fun _ => fin ?_⟩
    rw [← hs]; rfl
  | succ k =>
    obtain ⟨b, hb⟩ : ∃ b, lv[k]? = some b := ⟨lv[k]'(by omega), List.getElem?_eq_getElem (by omega)⟩
    have hst : snkM lv (k + 1) = if lv[k]? = some true then snkM lv k else k + 1 := rfl
    refine ⟨b, et_is (et_and (a := true) (b := b) (et_is (et_test (ev_op (ev_var rfl) ev_int rv_gt)) (decide_eq_true (by omega))) fun _ => et_val (ev_op (ev_var rfl) (ev_op (ev_var rfl) ev_int rv_minus) (rv_ixLM (.d _) ?_))) rfl, fun hb' => ?_, fun hb' => ?_⟩
    · rw [show ((k + 1 : Nat) : Int) - 1 = (k : Nat) by omega]
      exact atI_some hb
    · subst hb'
      rw [if_pos hb] at hst
      refine x_asg (d := .d (.int (k : Nat))) (ev_is (ev_op (ev_var rfl) ev_int rv_minus) (by rw [show ((k + 1 : Nat) : Int) - 1 = (k : Nat) by omega])) ⟨k, by omega, k, by omega, rfl, by rw [← hs, hst], rfl, rfl⟩
    · subst hb'
      rw [if_neg (by rw [hb]; simp)] at hst
      exact fin (by rw [← hs, hst])
theorem s_let_all : Sem K (Φ_let_all A) N_let_all (t_let_all K A) := by
  rintro E ds R N' M' ⟨lv, gs, rfl, rfl, h8, hg, n⟩
  refine x_seq (x_asgF (evf_list (ev_var rfl) (.d _)) fun a => ?_)
  refine x_seq ?_
  refine x_forI (xs := gs) (enc := fun g => encDd (.lt g)) (fun i δ' R' => ∃ v, R' = [(a, .lst ((foldAt letL lv gs i).map .bool))] ∧ δ' = [some (.d (.list (lv.map .bool))), some (.d (.list ((gs.map Dd.lt).map encDd))), some (.r a), v]) (ei_is (ei_list (ev_var rfl)) (by rw [List.map_map]; rfl)) ⟨none, rfl, rfl⟩ ?_ ?_
  · rintro i g δ' R' hi ⟨v, rfl, rfl⟩
    refine ⟨_, eg_name, ?_⟩
    have st := foldAt_step (f := letL) (z := lv) hi
    have hl : (foldAt letL lv gs i).length = lv.length := letAll_len _ _
    generalize foldAt letL lv gs i = cur at *
    have hgl := hg g (List.mem_of_getElem? hi)
    have at1 : ∀ {δ : DEnv} {R : Res}, δ[3]? = some (some (.d (encDd (.lt g)))) → Ev K δ R (tOp (rIx K) (tVar 3) (tC (.int 1))) (.d (.int g)) := fun h => ev_op (ev_var h) ev_int (rv_ixT rfl)
    let mid : List Bool := if g < cur.length then cur.set g false else cur
    have hm : mid.length = cur.length := by show (if _ then _ else _ : List Bool).length = _; split <;> simp
    refine x_seqM (fun δ' R' => R' = [(a, .lst (mid.map .bool))] ∧ δ' = [some (.d (.list (lv.map .bool))), some (.d (.list ((gs.map Dd.lt).map encDd))), some (.r a), some (.d (encDd (.lt g)))]) ?_ ?_
    · refine x_ifI (b := decide (g < cur.length)) (et_test (ev_op (at1 rfl) (ev_lenL (ev_var rfl) (.own (i := 0) rfl)) rv_lt)) ?_ ?_ ?_
      · rw [List.length_map, Bool.eq_iff_iff, decide_eq_true_eq, decide_eq_true_eq]; omega
      · intro h
        have h := of_decide_eq_true h
        refine x_setL (i := 0) (j := g) (w := .bool false) ev_bl (ev_var rfl) (at1 rfl) rfl (by rw [List.length_map]; exact ixN_nat h) ⟨?_, rfl⟩
        show [(a, RO.lst ((cur.map PyData.bool).set g (.bool false)))] = [(a, .lst ((if g < cur.length then cur.set g false else cur).map .bool))]
        rw [if_pos h, List.map_set]
      · intro h
        have h := of_decide_eq_false h
        refine x_nil ⟨?_, rfl⟩
        show _ = [(a, RO.lst ((if g < cur.length then cur.set g false else cur).map .bool))]
        rw [if_neg h]
    · rintro δ' R' ⟨rfl, rfl⟩
      refine x_ifI (b := decide (0 < g)) (et_test (ev_op (at1 rfl) ev_int rv_gt)) ?_ ?_ ?_
      · rw [Bool.eq_iff_iff, decide_eq_true_eq, decide_eq_true_eq]; omega
      · intro h
        have h := of_decide_eq_true h
        refine x_setL (i := 0) (j := g - 1) (k := ((g - 1 : Nat) : Int)) (w := .bool true) ev_bl (ev_var rfl) (ev_is (ev_op (at1 rfl) ev_int rv_minus) (by rw [show ((g - 1 : Nat) : Int) = (g : Int) - 1 by omega])) rfl (by rw [List.length_map]; exact ixN_nat (by omega)) ⟨_, ?_, rfl⟩
        rw [st]
        show [(a, RO.lst ((mid.map PyData.bool).set (g - 1) (.bool true)))] = [(a, .lst ((letL cur g).map .bool))]
        unfold letL
        rw [if_pos h, List.map_set]
      · intro h
        have h := of_decide_eq_false h
        refine x_nil ⟨_, ?_, rfl⟩
        rw [st]
        show [(a, RO.lst (mid.map PyData.bool))] = [(a, .lst ((letL cur g).map .bool))]
        unfold letL
        rw [if_neg h]
  · rintro δ' R' ⟨v, rfl, rfl⟩
    rw [foldAt_all]
    exact x_frz (i := 2) rfl (x_ret (ev_var rfl) n)
theorem s_put : Sem K (Φ_put A) N_put (t_put K A) := by
  rintro E ds R N' M' ⟨st, gs, a, rfl, rfl, h8, hg, hgl, hd, n⟩
  refine x_seq (x_ext (i := 0) (ev_var rfl) rfl (ev_var rfl) (by rw [List.length_map, List.length_map, List.length_map]; omega) ?_)
  refine x_ret (ev_callP (ea_cons (ev_var rfl) (ea_cons (ev_var rfl) ea_nil)) ⟨st.1, gs, rfl, rfl, h8, hg, rfl, rfl⟩) ?_
  show N' _ [(a, RO.lst (st.2.map encDd ++ (gs.map Dd.lt).map encDd))]
  rw [← List.map_append]
  exact n
theorem s_passage_up : Sem K (Φ_passage_up A) N_passage_up (t_passage_up K A) := by
  rintro E ds R N' M' ⟨st, b, a, rfl, rfl, hl, hd, n⟩
  let st1 : LD := if st.1[0]? = some true then putM st (emptiedM st.1 1) else st
  obtain ⟨x, hx⟩ : ∃ x, st.1[0]? = some x := ⟨st.1[0], List.getElem?_eq_getElem (by omega)⟩
  have z0 : Sz st.1.length 30000 st := ⟨rfl, hd⟩
  have z1 : Sz st.1.length 30010 st1 := by
    show Sz _ _ (if _ then _ else _)
    split
    · exact (z0.put (gs := emptiedM st.1 1) (by have := emptied_len (lv := st.1) (c := 1) hl.1; omega)).mono (by omega)
    · exact z0.mono (by omega)
  refine x_seqM (fun δ' R' => R' = [(a, .lst (st1.2.map encDd))] ∧ δ' = [some (.d (.list (st1.1.map .bool))), some (.d (.int b)), some (.r a), none]) ?_ ?_
  · refine x_if (b := x) (et_val (ev_op (ev_var rfl) ev_int (rv_ixLM (.d _) (atI_some (i := 0) hx)))) ?_ ?_
    · intro hx'
      subst hx'
      have e : st1 = putM st (emptiedM st.1 1) := if_pos hx
      rw [e]
      exact x_puts rfl rfl (fun R => ev_callP (ea_cons (ev_var rfl) (ea_cons ev_int ea_nil)) (c_emptied (c := 1) (by omega) hl.1 hl.2 ⟨rfl, rfl⟩)) hl.2 (fun g hg => by have := emptied_le hg; omega) (by have := emptied_len (lv := st.1) (c := 1) hl.1; omega) (by omega) ⟨rfl, rfl⟩
    · intro hx'
      subst hx'
      have e : st1 = st := if_neg (by rw [hx]; simp)
      rw [e]
      exact x_nil ⟨rfl, rfl⟩
  rintro δ' R' ⟨rfl, rfl⟩
  refine x_seq (x_sails rfl rfl (by have := z1.d; omega) ?_)
  have z2 : Sz st.1.length 30011 (sailM b st1) := z1.sail
  have zi : ∀ i, i ≤ st.1.length → Sz st.1.length (30011 + i * 10) (foldAt (upStep b) (sailM b st1) (ups1 st.1.length) i) := by
    intro i hi
    have q := Sz.folds (b := b) (sz_up (b := b)) ((ups1 st.1.length).take i) _ _ (fun c hc => (mem_ups (List.mem_of_mem_take hc)).2) z2
    rw [List.length_take, ups1_len, Nat.min_eq_left hi] at q
    refine q.mono ?_
    have : i * (st.1.length + 2) ≤ i * 10 := Nat.mul_le_mul (Nat.le_refl _) (by omega)
    omega
  refine x_seq ?_
  refine x_forI (xs := ups1 st.1.length) (enc := fun g : Nat => .int g) (fun i δ' R' => ∃ v, R' = [(a, .lst ((foldAt (upStep b) (sailM b st1) (ups1 st.1.length) i).2.map encDd))] ∧ δ' = [some (.d (.list ((foldAt (upStep b) (sailM b st1) (ups1 st.1.length) i).1.map .bool))), some (.d (.int b)), some (.r a), v])
    (ei_is (ei_rng2 ev_int (ev_op (ev_lenL (ev_var rfl) (.d _)) ev_int rv_plusI) (by rw [List.length_map, z1.l]; omega)) (by rw [List.length_map, z1.l]; exact rng_ups _)) ⟨none, rfl, rfl⟩ ?_ ?_
  · rintro i c δ' R' hi ⟨v, rfl, rfl⟩
    refine ⟨_, eg_name, ?_⟩
    have il : i < st.1.length := by
      have := (List.getElem?_eq_some_iff.mp hi).1
      rw [ups1_len] at this; exact this
    have hcm := mem_ups (List.mem_of_getElem? hi)
    have stp := foldAt_step (f := upStep b) (z := sailM b st1) hi
    have z := zi i (by omega)
    generalize foldAt (upStep b) (sailM b st1) (ups1 st.1.length) i = cur at *
    have i8 : i * 10 ≤ 80 := by omega
    have zl := z.l
    have zd := z.d
    refine x_seq (x_puts (gs := filledM cur.1 c) rfl rfl (fun R => ev_callP (ea_cons (ev_var rfl) (ea_cons (ev_var rfl) ea_nil)) (c_filled (by omega) (by omega) ⟨rfl, rfl⟩)) (by omega) (fun g hg => (filled_le (by omega) hg).2) (by have := filled_len (lv := cur.1) (c := c) (by omega); omega) (by omega) ?_)
    refine x_sails (b := b) rfl rfl ?_ ⟨some (.d (.int (c : Nat))), ?_, ?_⟩
    · show (cur.2 ++ _).length < 50000
      rw [List.length_append, List.length_map]
      have := filled_len (lv := cur.1) (c := c) (by omega)
      omega
    · rw [stp]; rfl
    · rw [stp]; rfl
  · rintro δ' R' ⟨v, rfl, rfl⟩
    rw [foldAt_all]
    exact x_ret (ev_var rfl) n
theorem s_passage_down : Sem K (Φ_passage_down A) N_passage_down (t_passage_down K A) := by
  rintro E ds R N' M' ⟨st, b, a, rfl, rfl, hl, hd, n⟩
  let st1 : LD := if st.1.getLast? = some true then st else putM st (filledM st.1 st.1.length)
  have hne : st.1 ≠ [] := by intro z; rw [z] at hl; simp at hl
  obtain ⟨x, hx⟩ : ∃ x, st.1.getLast? = some x := ⟨_, List.getLast?_eq_some_getLast hne⟩
  have z0 : Sz st.1.length 30000 st := ⟨rfl, hd⟩
  have z1 : Sz st.1.length 30010 st1 := by
    show Sz _ _ (if _ then _ else _)
    split
    · exact z0.mono (by omega)
    · exact (z0.put (gs := filledM st.1 st.1.length) (filled_len (Nat.le_refl _))).mono (by omega)
  refine x_seqM (fun δ' R' => R' = [(a, .lst (st1.2.map encDd))] ∧ δ' = [some (.d (.list (st1.1.map .bool))), some (.d (.int b)), some (.r a), none]) ?_ ?_
  · refine x_if (b := !x) (et_not (et_val (ev_op (ev_var rfl) (ev_neg ev_int) (rv_ixLM (.d _) (atI_back hx))))) ?_ ?_
    · intro hx'
      have hx' : x = false := by simpa using hx'
      subst hx'
      have e : st1 = putM st (filledM st.1 st.1.length) := if_neg (by rw [hx]; simp)
      rw [e]
      exact x_puts rfl rfl (fun R => ev_callP (ds := [.d (.list (st.1.map .bool)), .d (.int (st.1.length : Nat))]) (ea_cons (ev_var rfl) (ea_cons (ev_is (ev_lenL (ev_var rfl) (.d _)) (by rw [List.length_map])) ea_nil)) (c_filled (Nat.le_refl _) hl.2 ⟨rfl, rfl⟩)) hl.2 (fun g hg => (filled_le (Nat.le_refl _) hg).2) (by have := filled_len (lv := st.1) (c := st.1.length) (Nat.le_refl _); omega) (by omega) ⟨rfl, rfl⟩
    · intro hx'
      have hx' : x = true := by simpa using hx'
      subst hx'
      have e : st1 = st := if_pos hx
      rw [e]
      exact x_nil ⟨rfl, rfl⟩
  rintro δ' R' ⟨rfl, rfl⟩
  refine x_seq (x_sails rfl rfl (by have := z1.d; omega) ?_)
  have z2 : Sz st.1.length 30011 (sailM b st1) := z1.sail
  have rl : (ups1 st.1.length).reverse.length = st.1.length := by rw [List.length_reverse, ups1_len]
  have zi : ∀ i, i ≤ st.1.length → Sz st.1.length (30011 + i * 10) (foldAt (downStep b) (sailM b st1) (ups1 st.1.length).reverse i) := by
    intro i hi
    have q := Sz.folds (b := b) (sz_down (b := b)) ((ups1 st.1.length).reverse.take i) _ _ (fun c hc => (mem_ups (List.mem_reverse.mp (List.mem_of_mem_take hc))).2) z2
    rw [List.length_take, rl, Nat.min_eq_left hi] at q
    refine q.mono ?_
    have : i * (st.1.length + 2) ≤ i * 10 := Nat.mul_le_mul (Nat.le_refl _) (by omega)
    omega
  refine x_seq ?_
  refine x_forI (xs := (ups1 st.1.length).reverse) (enc := fun g : Nat => .int g) (fun i δ' R' => ∃ v, R' = [(a, .lst ((foldAt (downStep b) (sailM b st1) (ups1 st.1.length).reverse i).2.map encDd))] ∧ δ' = [some (.d (.list ((foldAt (downStep b) (sailM b st1) (ups1 st.1.length).reverse i).1.map .bool))), some (.d (.int b)), some (.r a), v])
    (ei_is (ei_revR ev_int (ev_op (ev_lenL (ev_var rfl) (.d _)) ev_int rv_plusI) (by rw [List.length_map, z1.l]; omega)) (by rw [List.length_map, z1.l, rng_ups, List.map_reverse])) ⟨none, rfl, rfl⟩ ?_ ?_
  · rintro i c δ' R' hi ⟨v, rfl, rfl⟩
    refine ⟨_, eg_name, ?_⟩
    have il : i < st.1.length := by
      have := (List.getElem?_eq_some_iff.mp hi).1
      rw [rl] at this; exact this
    have hcm := mem_ups (List.mem_reverse.mp (List.mem_of_getElem? hi))
    have stp := foldAt_step (f := downStep b) (z := sailM b st1) hi
    have z := zi i (by omega)
    generalize foldAt (downStep b) (sailM b st1) (ups1 st.1.length).reverse i = cur at *
    have i8 : i * 10 ≤ 80 := by omega
    have zl := z.l
    have zd := z.d
    refine x_seq (x_puts (gs := emptiedM cur.1 c) rfl rfl (fun R => ev_callP (ea_cons (ev_var rfl) (ea_cons (ev_var rfl) ea_nil)) (c_emptied (by omega) (by omega) (by omega) ⟨rfl, rfl⟩)) (by omega) (fun g hg => by have := emptied_le hg; omega) (by have := emptied_len (lv := cur.1) (c := c) (by omega); omega) (by omega) ?_)
    refine x_sails (b := b) rfl rfl ?_ ⟨some (.d (.int (c : Nat))), ?_, ?_⟩
    · show (cur.2 ++ _).length < 50000
      rw [List.length_append, List.length_map]
      have := emptied_len (lv := cur.1) (c := c) (by omega)
      omega
    · rw [stp]; rfl
    · rw [stp]; rfl
  · rintro δ' R' ⟨v, rfl, rfl⟩
    rw [foldAt_all]
    exact x_ret (ev_var rfl) n
theorem s_plan : Sem K (Φ_plan A) N_plan (t_plan K A) := by
  rintro E ds R N' M' ⟨lv, order, rfl, rfl, ho, n, mm⟩
  refine x_seq ?_
  refine x_dropE (N := fun _ R' => R' = [] ∧ 1 ≤ lv.length ∧ lv.length ≤ 8) (M := fun c R' => R' = [] ∧ c = .ref A.bf ∧ ¬ (1 ≤ lv.length ∧ lv.length ≤ 8)) (ee_callP (by walk_at "ea") ⟨_, rfl, rfl, fun h => ⟨rfl, by rw [List.length_map] at h; exact h⟩, fun h => ⟨rfl, rfl, by rw [List.length_map] at h; exact h⟩⟩ fun _ _ _ _ _ h => h) ?_ ?_
  case refine_2 =>
    rintro c R' ⟨rfl, rfl, h⟩
    exact mm h
  rintro d R' ⟨rfl, h8⟩
  refine x_seq (x_asgF (evf_lst ex_nil (by decide)) fun a => ?_)
  refine x_seq ?_
  refine x_forI (xs := List.range order.length) (enc := fun g : Nat => .int g) (fun i δ' R' => ∃ v, R' = [(a, .lst ((planAt (lv, []) order i).2.map encDd))] ∧ δ' = [some (.d (.list ((planAt (lv, []) order i).1.map .bool))), some (.d (.list (order.map sd))), some (.r a), v])
    (ei_is (ei_rng1M (ev_lenL (ev_var rfl) (.d _)) (by rw [List.length_map]; omega)) (by rw [Int.toNat_natCast, List.length_map])) ⟨none, rfl, rfl⟩ ?_ ?_
  · rintro i k δ' R' hi ⟨v, rfl, rfl⟩
    refine ⟨_, eg_name, ?_⟩
    have il : i < order.length := by
      have := (List.getElem?_eq_some_iff.mp hi).1
      rw [List.length_range] at this; exact this
    have ek : k = i := by
      rw [List.getElem?_range il] at hi
      exact (Option.some.inj hi).symm
    subst ek
    obtain ⟨u, hu⟩ : ∃ u, order[k]? = some u := ⟨order[k], List.getElem?_eq_getElem il⟩
    have stp : planAt (lv, []) order (k + 1) = passM u (planAt (lv, []) order k) k := by
      show (match order[k]? with | some u => passM u (planAt (lv, []) order k) k | none => planAt (lv, []) order k) = _
      rw [hu]
    have z := sz_plan (order := order) (lv := lv) rfl h8 k (by omega)
    have zl := z.l
    have zd := z.d
    generalize planAt (lv, []) order k = cur at *
    refine x_ifI (b := u) (et_test (ev_op (ev_op (ev_var rfl) (ev_var rfl) (rv_ixLM (.d _) (atI_some hu))) ev_str (rv_eq (.d _) (.d _) (dep_l (Nat.zero_le 60))))) (eqv_up u) ?_ ?_
    · intro h
      subst h
      have e : passM true cur k = upM cur k := rfl
      refine x_asgE (M := fun _ _ => False) (N := fun d R' => d = .d (.list ((upM cur k).1.map .bool)) ∧ R' = [(a, .lst ((upM cur k).2.map encDd))]) (ee_call3 (ea_cons (ev_var rfl) (ea_cons (ev_var rfl) (ea_cons (ev_var rfl) ea_nil))) ⟨cur, k, a, rfl, rfl, ⟨by omega, by omega⟩, by omega, rfl, rfl⟩ fun _ _ _ _ h => h.elim) ?_ fun _ _ h => h.elim
      rintro d R' ⟨rfl, rfl⟩
      exact ⟨some (.d (.int (k : Nat))), by rw [stp, e], by rw [stp, e]; rfl⟩
    · intro h
      subst h
      have e : passM false cur k = downM cur k := rfl
      refine x_asgE (M := fun _ _ => False) (N := fun d R' => d = .d (.list ((downM cur k).1.map .bool)) ∧ R' = [(a, .lst ((downM cur k).2.map encDd))]) (ee_call3 (ea_cons (ev_var rfl) (ea_cons (ev_var rfl) (ea_cons (ev_var rfl) ea_nil))) ⟨cur, k, a, rfl, rfl, ⟨by omega, by omega⟩, by omega, rfl, rfl⟩ fun _ _ _ _ h => h.elim) ?_ fun _ _ h => h.elim
      rintro d R' ⟨rfl, rfl⟩
      exact ⟨some (.d (.int (k : Nat))), by rw [stp, e], by rw [stp, e]; rfl⟩
  · rintro δ' R' ⟨v, rfl, rfl⟩
    rw [List.length_range]
    exact x_ret (ev_var rfl) (n h8 a)
theorem s_may_go : Sem K (Φ_may_go A) N_may_go (t_may_go K A) := by
  rintro E ds R N' M' ⟨s, u, p, rfl, rfl, n⟩
  refine x_seq (x_asg (ev_var rfl) ?_)
  refine x_seq (x_asg (ev_var rfl) ?_)
  refine x_seq (x_ifI (b := !u) (by walk_at "et") (eqv_down u) ?_ ?_)
  · intro hu
    have hu : u = false := by simpa using hu
    subst hu
    refine x_seq (x_asg (ev_var rfl) (x_asg (ev_var rfl) ?_))
    refine' x_retI ?a1 ?b1 n
    case' a1 => walk_at "ev"
    case b1 => rw [eqv_int, eqv_last]; rfl
  · intro hu
    have hu : u = true := by simpa using hu
    subst hu
    refine x_nil ?_
    refine' x_retI ?a2 ?b2 n
    case' a2 => walk_at "ev"
    case b2 => rw [eqv_int, eqv_last]; rfl
theorem s_left_behind : Sem K (Φ_left_behind A) N_left_behind (t_left_behind K A) := by
  rintro E ds R N' M' ⟨s, u, rfl, rfl, n⟩
  have tail : XS K (fun c d _ H => E c d H) [some (.d (sd u)), some (.d (.int s.ups)), some (.d (.int s.downs)), some (.d (.str (lastS s.last))), some (.d (.int (nxt s u).run))] [] (tSeq (tIfS (tTest (tOp (rEqP K) (tVar 0) (tC (.str "up")))) (tRet (tTup (tCons (tOp rMinus (tVar 1) (tC (.int 1))) (tCons (tVar 2) (tCons (tVar 0) (tCons (tVar 4) tNil)))))) tNext)
      (tRet (tTup (tCons (tVar 1) (tCons (tOp rMinus (tVar 2) (tC (.int 1))) (tCons (tVar 0) (tCons (tVar 4) tNil))))))) (endsOf N' M') := by
    refine x_seq (x_ifI (b := u) (by walk_at "et") (eqv_up u) ?_ ?_)
    · intro hu
      subst hu
      refine' x_retI ?a1 ?b1 n
      case' a1 => walk_at "ev"
      case b1 => rfl
    · intro hu
      subst hu
      refine x_nil ?_
      refine' x_retI ?a2 ?b2 n
      case' a2 => walk_at "ev"
      case b2 => rfl
  refine x_seq (x_ifI (b := decide (s.last = some u)) (by walk_at "et") (eqv_last u s.last) ?_ ?_)
  · intro h
    have e : s.run + 1 = (nxt s u).run := by show _ = (if s.last = some u then _ else _); rw [if_pos (of_decide_eq_true h)]
    refine' x_asgI (d := .d (.int (nxt s u).run)) ?a3 ?b3 tail
    case' a3 => walk_at "ev"
    case b3 => rw [e]
  · intro h
    have e : (1 : Int) = (nxt s u).run := by show _ = (if s.last = some u then _ else _); rw [if_neg (of_decide_eq_false h)]
    refine' x_asgI (d := .d (.int (nxt s u).run)) ?a4 ?b4 tail
    case' a4 => walk_at "ev"
    case b4 => rw [← e]
theorem s_rest_of (n : Nat) : Sem K (Φ_rest_of_ (n + 1) A) N_rest_of (t_rest_of n K A) := by
  rintro E ds R N' M' ⟨m, p, s, a, kvs, rfl, rfl, hm, o, hs, g, nn⟩
  refine x_seq (x_asgG (w := keyT s.key) (δ' := [some (.d (.int m)), some (.d (keyT s.key)), some (.d (.int p)), some (.r a), some (.d (.int s.ups)), some (.d (.int s.downs)), some (.d (.str (lastS s.last))), some (.d (.int s.run)), none, none, none, none, none]) (ev_var rfl) eg_tup4 ?_)
  refine x_seq (x_ifI (b := decide (s.sum = 0)) (by walk_at "et") (eqv_int _ _) ?_ ?_)
  · intro h
    exact x_retI ev_int (by rw [restS_zero (of_decide_eq_true h)]) (nn kvs g)
  intro h
  have hne : s.sum ≠ 0 := of_decide_eq_false h
  have hpos : 0 < s.sum := by have := o.u0; have := o.d0; unfold Sd.sum at *; omega
  refine x_nil ?_
  refine x_seq (x_if (b := (valT kvs s.key).isSome) (et_val (ev_dinT (i := 0) (ev_var rfl) (ev_var rfl) rfl)) ?_ ?_)
  · intro h
    obtain ⟨v, hv⟩ := Option.isSome_iff_exists.mp h
    exact x_retI (ev_dgetT (i := 0) (ev_var rfl) (ev_var rfl) rfl hv) (by rw [g.val hv]) (nn kvs g)
  intro _
  refine x_nil ?_
  refine x_seq (x_asg (d := .d (.list ((lvS m s.last).map .bool))) (ev_frz (evf_is (evf_lcI0 (xs := List.range m) (enc := fun i : Nat => .int i) (fun _ => .bool (decide (s.last = some true))) (ei_is (ei_rng1M (ev_var rfl) ⟨by omega, by omega⟩) (by rw [Int.toNat_natCast])) (by decide) fun i hi => ?q1) ?q2)) ?_)
  case q1 =>
    refine' ev_is ?q3 ?q4
    case' q3 => walk_at "ev"
    case q4 => rw [eqv_lastU]
  case q2 => unfold lvS; rw [List.map_const', List.map_replicate, List.length_range]
  refine x_seq (x_asgF (evf_lst ex_nil (by decide)) fun b => ?_)
  let price : Bool → Int := fun u => costOf (lvS m s.last) u + restS m p (nxt s u)
  refine x_seq ?_
  refine x_forI (xs := [false, true]) (enc := sd) (fun i δ' R' => ∃ kvs' v w, Good m p kvs' ∧ δ' = [some (.d (.int m)), some (.d (keyT s.key)), some (.d (.int p)), some (.r a), some (.d (.int s.ups)), some (.d (.int s.downs)), some (.d (.str (lastS s.last))), some (.d (.int s.run)), some (.d (.list ((lvS m s.last).map .bool))), some (.r b), v, w, none] ∧ R' = [(b, .lst ((((([false, true].take i).filter (mayS p s)).map price)).map .int)), (a, .dit kvs')])
    (ei_tup (ev_tup (ex_cons ev_str (ex_cons ev_str ex_nil)) (by decide))) ⟨kvs, none, none, g, rfl, rfl⟩ ?_ ?_
  · rintro i u δ' R' hi ⟨kvs', v, w, g', rfl, rfl⟩
    refine ⟨_, eg_name, ?_⟩
    have et := take_next hi
    have il : i < 2 := by
      rcases Nat.lt_or_ge i 2 with h | h
      · exact h
      · rw [List.getElem?_eq_none (by simpa using h)] at hi; cases hi
    refine x_if (b := mayS p s u) (et_val (ev_callP (ea_cons (ev_var rfl) (ea_cons (ev_var rfl) (ea_cons (ev_var rfl) (ea_cons (ev_var rfl) (ea_cons (ev_var rfl) (ea_cons (ev_var rfl) ea_nil)))))) (c_may_go (s := s) ⟨rfl, rfl⟩))) ?_ ?_
    · intro hmay
      obtain ⟨n', rfl⟩ : ∃ n', n = n' + 1 := ⟨n - 1, by omega⟩
      have es := nxt_sum (p := p) (s := s) (u := u)
      refine x_seq (x_asg (d := .d (keyT (nxt s u).key)) (ev_callP (ea_cons (ev_var rfl) (ea_cons (ev_var rfl) (ea_cons (ev_var rfl) (ea_cons (ev_var rfl) (ea_cons (ev_var rfl) ea_nil))))) (c_left_behind (s := s) ⟨rfl, rfl⟩)) ?_)
      refine x_appE (i := 0) (a := b) (M := fun _ _ => False) (N := fun d R' => ∃ kvs2, Good m p kvs2 ∧ d = .d (.int (price u)) ∧ R' = [(b, .lst ((((([false, true].take i).filter (mayS p s)).map price)).map .int)), (a, .dit kvs2)]) (ev_var rfl) rfl
        (ee_op (x := .d (.int (costOf (lvS m s.last) u))) (M := fun _ _ => False) (N1 := fun d R' => ∃ kvs2, Good m p kvs2 ∧ d = .d (.int (restS m p (nxt s u))) ∧ R' = [(b, .lst ((((([false, true].take i).filter (mayS p s)).map price)).map .int)), (a, .dit kvs2)])
          (ev_callP (ea_cons (ev_var rfl) (ea_cons (ev_var rfl) ea_nil)) (c_cost_of (lv_ne hm.1 _) ⟨rfl, rfl⟩))
          (ee_callN (R1 := [(a, .dit kvs')]) (.cons _ .one) (ea_cons (ev_var rfl) (ea_cons (ev_var rfl) (ea_cons (ev_var rfl) (ea_cons (ev_var rfl) ea_nil)))) ⟨m, p, nxt s u, a, kvs', rfl, rfl, hm, nxt_ok hmay o, by omega, g', fun kvs2 g2 => ⟨kvs2, g2, rfl, rfl⟩⟩ fun _ _ _ _ h => h.elim)
          fun d R' ⟨kvs2, g2, e1, e2⟩ => by subst e1; exact ⟨_, rv_plusI, kvs2, g2, rfl, e2⟩) ?_ fun _ _ h => h.elim
      rintro d R' ⟨kvs2, g2, rfl, rfl⟩
      refine ⟨_, 0, _, rfl, rfl, ?_, kvs2, _, _, g2, rfl, ?_⟩
      · rw [List.length_map, List.length_map]
        have := List.length_filter_le (mayS p s) ([false, true].take i)
        rw [List.length_take] at this
        omega
      · rw [et, List.filter_append, List.map_append, List.map_append]
        rw [show [u].filter (mayS p s) = [u] by simp [List.filter, hmay]]
        rfl
    · intro hmay
      refine x_nil ⟨kvs', _, _, g', rfl, ?_⟩
      rw [et, List.filter_append, List.map_append, List.map_append]
      rw [show [u].filter (mayS p s) = [] by simp [List.filter, hmay]]
      simp
  · rintro δ' R' ⟨kvs', v, w, g', rfl, rfl⟩
    have lm := lmin_min (l := (candS p s).map price) (by
      intro z
      exact cand_ne o.u0 o.d0 hpos (List.map_eq_nil_iff.mp z))
    have er : restS m p s = lmin ((candS p s).map price) := restS_step hpos
    rw [← er] at lm
    have gl := g'.len
    refine x_seq (x_dputT (i := 1) (ev_min1 (ev_var rfl) (.own (i := 0) rfl) lm.mem lm.le) (ev_var rfl) (ev_var rfl) rfl (by omega) ?_)
    refine XS.forget ?_
    exact x_ret (ev_dgetT (i := 0) (ev_var rfl) (ev_var rfl) rfl (valT_put kvs' s.key (restS m p s))) (nn _ (g'.put o))
theorem s_best : Sem K (Φ_best A) N_best (t_best K A) := by
  rintro E ds R N' M' ⟨lv0, ups, downs, p, rfl, rfl, hu, hd, n, mm⟩
  refine x_seq ?_
  refine x_dropE (N := fun _ R' => R' = [] ∧ 1 ≤ lv0.length ∧ lv0.length ≤ 8) (M := fun c R' => R' = [] ∧ c = .ref A.bf ∧ ¬ (1 ≤ lv0.length ∧ lv0.length ≤ 8)) (ee_callP (by walk_at "ea") ⟨_, rfl, rfl, fun h => ⟨rfl, by rw [List.length_map] at h; exact h⟩, fun h => ⟨rfl, rfl, by rw [List.length_map] at h; exact h⟩⟩ fun _ _ _ _ _ h => h) ?_ ?_
  case refine_2 =>
    rintro c R' ⟨rfl, rfl, h⟩
    exact mm h
  rintro d R' ⟨rfl, h8⟩
  obtain ⟨m, hm⟩ : ∃ m, lv0.length = m := ⟨_, rfl⟩
  have n := n h8
  rw [hm] at n h8
  let s1 := s0S ups downs
  have o1 : OkS s1 := s0_ok hu hd
  refine x_seq (x_asgNT fun kn => ?_)
  refine x_seq (x_asgF (evf_lst ex_nil (by decide)) fun od => ?_)
  refine x_seq (x_asg (d := .d (keyT s1.key)) (ev_tup (xs := [.int ups, .int downs, .str "", .int 0]) (ex_cons (ev_var rfl) (ex_cons (ev_var rfl) (ex_cons ev_str (ex_cons ev_int ex_nil)))) (by simp)) ?_)
  refine x_seq ?_
  refine x_while (fun t δ' R' => ∃ s lv pre kvs v7 v8 v9 v10 v11 v12, OkS s ∧ lv.length = m ∧ t = s.sum.toNat ∧ Good m p kvs ∧ pre ++ bestS m p lv s = bestS m p lv0 s1 ∧ pre.length + s.sum.toNat = s1.sum.toNat ∧
      δ' = [some (.d (.list (lv.map .bool))), some (.d (.int ups)), some (.d (.int downs)), some (.d (.int p)), some (.r kn), some (.r od), some (.d (keyT s.key)), v7, v8, v9, v10, v11, v12, none] ∧ R' = [(od, .lst (pre.map sd)), (kn, .dit kvs)]) s1.sum.toNat
    ⟨s1, lv0, [], [], none, none, none, none, none, none, o1, hm, rfl, good_nil m p, rfl, by simp, rfl, rfl⟩ ?_
  rintro t δ' R' ⟨s, lv, pre, kvs, v7, v8, v9, v10, v11, v12, o, hl, rfl, g, hpre, hlen, rfl, rfl⟩
  have s16 : s1.sum ≤ 16 := by have := o1.u8; have := o1.d8; show s1.ups + s1.downs ≤ 16; omega
  have at0 : ∀ {δ : DEnv} {R : Res}, δ[6]? = some (some (.d (keyT s.key))) → Ev K δ R (tOp (rIx K) (tVar 6) (tC (.int 0))) (.d (.int s.ups)) := fun h => ev_op (ev_var h) ev_int (rv_ixT (ds := s.key.map keyD) rfl)
  have at1 : ∀ {δ : DEnv} {R : Res}, δ[6]? = some (some (.d (keyT s.key))) → Ev K δ R (tOp (rIx K) (tVar 6) (tC (.int 1))) (.d (.int s.downs)) := fun h => ev_op (ev_var h) ev_int (rv_ixT (ds := s.key.map keyD) rfl)
  have at2 : ∀ {δ : DEnv} {R : Res}, δ[6]? = some (some (.d (keyT s.key))) → Ev K δ R (tOp (rIx K) (tVar 6) (tC (.int 2))) (.d (.str (lastS s.last))) := fun h => ev_op (ev_var h) ev_int (rv_ixT (ds := s.key.map keyD) rfl)
  have at3 : ∀ {δ : DEnv} {R : Res}, δ[6]? = some (some (.d (keyT s.key))) → Ev K δ R (tOp (rIx K) (tVar 6) (tC (.int 3))) (.d (.int s.run)) := fun h => ev_op (ev_var h) ev_int (rv_ixT (ds := s.key.map keyD) rfl)
  refine ⟨decide (0 < s.sum), et_test (ev_op (ev_op (at0 rfl) (at1 rfl) rv_plusI) ev_int rv_gt), ?_, ?_⟩
  case refine_2 =>
    intro h
    have h := of_decide_eq_false h
    have hz : s.sum = 0 := by have := o.u0; have := o.d0; unfold Sd.sum at *; omega
    rw [bestS_zero hz, List.append_nil] at hpre
    rw [hpre]
    exact x_retS (ev_var rfl) (List.Sublist.cons₂ _ (List.nil_sublist _)) (n od)
  intro h
  have hpos : 0 < s.sum := of_decide_eq_true h
  refine x_seq (x_asgF (evf_lst ex_nil (by decide)) fun fd => ?_)
  let row : Bool → PyData := fun u => .tuple [.int (firstS m p lv s u), sd u, keyT (nxt s u).key]
  refine x_seq ?_
  refine x_forI (xs := [false, true]) (enc := sd) (fun i δ' R' => ∃ kvs' v8 v9 v10, Good m p kvs' ∧ δ' = [some (.d (.list (lv.map .bool))), some (.d (.int ups)), some (.d (.int downs)), some (.d (.int p)), some (.r kn), some (.r od), some (.d (keyT s.key)), some (.r fd), v8, v9, v10, v11, v12, none] ∧ R' = [(fd, .lst (((([false, true].take i).filter (mayS p s)).map row))), (od, .lst (pre.map sd)), (kn, .dit kvs')])
    (ei_tup (ev_tup (ex_cons ev_str (ex_cons ev_str ex_nil)) (by decide))) ⟨kvs, _, _, _, g, rfl, rfl⟩ ?_ ?_
  · rintro i u δ' R' hi ⟨kvs', w8, w9, w10, g', rfl, rfl⟩
    refine ⟨_, eg_name, ?_⟩
    have et := take_next hi
    have il : i < 2 := by
      rcases Nat.lt_or_ge i 2 with h | h
      · exact h
      · rw [List.getElem?_eq_none (by simpa using h)] at hi; cases hi
    refine x_if (b := mayS p s u) (et_val (ev_callP (ea_cons (ev_var rfl) (ea_cons (at0 rfl) (ea_cons (at1 rfl) (ea_cons (at2 rfl) (ea_cons (at3 rfl) (ea_cons (ev_var rfl) ea_nil)))))) (c_may_go (s := s) ⟨rfl, rfl⟩))) ?_ ?_
    · intro hmay
      refine x_seq (x_asg (d := .d (keyT (nxt s u).key)) (ev_callP (ea_cons (ev_var rfl) (ea_cons (at0 rfl) (ea_cons (at1 rfl) (ea_cons (at2 rfl) (ea_cons (at3 rfl) ea_nil))))) (c_left_behind (s := s) ⟨rfl, rfl⟩)) ?_)
      refine x_seq (x_asgE (M := fun _ _ => False) (N := fun d R' => ∃ kvs2, Good m p kvs2 ∧ d = .d (.int (firstS m p lv s u)) ∧ R' = [(fd, .lst (((([false, true].take i).filter (mayS p s)).map row))), (od, .lst (pre.map sd)), (kn, .dit kvs2)])
        (ee_op (x := .d (.int (costOf lv u))) (M := fun _ _ => False) (N1 := fun d R' => ∃ kvs2, Good m p kvs2 ∧ d = .d (.int (restS m p (nxt s u))) ∧ R' = [(fd, .lst (((([false, true].take i).filter (mayS p s)).map row))), (od, .lst (pre.map sd)), (kn, .dit kvs2)])
          (ev_callP (ea_cons (ev_var rfl) (ea_cons (ev_var rfl) ea_nil)) (c_cost_of (by intro z; rw [z] at hl; simp at hl; omega) ⟨rfl, rfl⟩))
          (ee_callN (R1 := [(kn, .dit kvs')]) (.cons _ (.cons _ .one)) (ea_cons (ev_is (ev_lenL (ev_var rfl) (.d _)) (by rw [List.length_map, hl])) (ea_cons (ev_var rfl) (ea_cons (ev_var rfl) (ea_cons (ev_var rfl) ea_nil)))) (c_rest_of h8 (nxt_ok hmay o) g' fun kvs2 g2 => ⟨kvs2, g2, rfl, rfl⟩) fun _ _ _ _ h => h.elim)
          fun d R' ⟨kvs2, g2, e1, e2⟩ => by subst e1; exact ⟨_, rv_plusI, kvs2, g2, rfl, e2⟩) ?_ fun _ _ h => h.elim)
      rintro d R' ⟨kvs2, g2, rfl, rfl⟩
      refine x_app (i := 0) (w := row u) (ev_var rfl) rfl (ev_tup (ex_cons (ev_var rfl) (ex_cons (ev_var rfl) (ex_cons (ev_var rfl) ex_nil))) (by simp)) ?_ ⟨kvs2, _, _, _, g2, rfl, ?_⟩
      · rw [List.length_map]
        have := List.length_filter_le (mayS p s) ([false, true].take i)
        rw [List.length_take] at this
        omega
      · rw [et, List.filter_append, List.map_append]
        rw [show [u].filter (mayS p s) = [u] by simp [List.filter, hmay]]
        rfl
    · intro hmay
      refine x_nil ⟨kvs', _, _, _, g', rfl, ?_⟩
      rw [et, List.filter_append, List.map_append]
      rw [show [u].filter (mayS p s) = [] by simp [List.filter, hmay]]
      simp
  · rintro δ' R' ⟨kvs', w8, w9, w10, g', rfl, rfl⟩
    show XS K _ _ ((fd, .lst ((candS p s).map row)) :: _) _ _
    refine x_frz (i := 7) rfl ?_
    obtain ⟨r, hf, hc, he⟩ := pick_ok (m := m) (p := p) (lv := lv) o.u0 o.d0 hpos
    have lm := lmin_min (l := (candS p s).map (firstS m p lv s)) (by
      intro z
      exact cand_ne o.u0 o.d0 hpos (List.map_eq_nil_iff.mp z))
    have er : leastS m p lv s = lmin ((candS p s).map (firstS m p lv s)) := by unfold leastS; rw [if_neg (by omega)]
    rw [← er] at lm
    have row0 : ∀ {δ : DEnv} {R : Res} {u : Bool}, δ[13]? = some (some (.d (row u))) → Ev K δ R (tOp (rIx K) (tVar 13) (tC (.int 0))) (.d (.int (firstS m p lv s u))) := fun h => ev_op (ev_var h) ev_int (rv_ixT rfl)
    refine x_seq (x_asg (d := .d (.int (leastS m p lv s))) (ev_min1 (ns := (candS p s).map (firstS m p lv s)) (ev_frz (evf_is (evf_lcI0 (xs := candS p s) (enc := row) (fun u => .int (firstS m p lv s u)) (ei_list (ev_var rfl)) (by decide) fun u hu => row0 rfl) (by rw [List.map_map]; rfl))) (.d _) lm.mem lm.le) ?_)
    refine x_seq (x_asg (d := .d (row (pickS m p lv s))) (ev_op (x := .d (.list (((candS p s).filter fun u => decide (firstS m p lv s u = leastS m p lv s)).map row))) (y := .d (.int 0)) (ev_frz (evf_lcI (xs := candS p s) (enc := row) (fun u => decide (firstS m p lv s u = leastS m p lv s)) row (ei_list (ev_var rfl)) (by decide) (fun u hu => et_is (et_test (ev_op (row0 rfl) (ev_var rfl) (rv_eq (.d _) (.d _) (dep_l (Nat.zero_le 60))))) (eqv_int _ _)) fun u hu _ => ev_var rfl)) ev_int (rv_ixL (.d _) (by rw [hf]; exact atI_some (i := 0) rfl))) ?_)
    have row1 : ∀ {δ : DEnv} {R : Res} {u : Bool}, δ[12]? = some (some (.d (row u))) → Ev K δ R (tOp (rIx K) (tVar 12) (tC (.int 1))) (.d (sd u)) := fun h => ev_op (ev_var h) ev_int (rv_ixT rfl)
    have row2 : ∀ {δ : DEnv} {R : Res} {u : Bool}, δ[12]? = some (some (.d (row u))) → Ev K δ R (tOp (rIx K) (tVar 12) (tC (.int 2))) (.d (keyT (nxt s u).key)) := fun h => ev_op (ev_var h) ev_int (rv_ixT rfl)
    have es := nxt_sum (p := p) (s := s) (u := pickS m p lv s)
    refine x_seq (x_app (i := 0) (w := sd (pickS m p lv s)) (ev_var rfl) rfl (row1 rfl) (by rw [List.length_map]; omega) ?_)
    refine x_seq (x_asg (d := .d (.list ((behindOf lv (pickS m p lv s)).map .bool))) (ev_frz (evf_callP (ea_cons (ev_var rfl) (ea_cons (row1 rfl) ea_nil)) (c_behind fun a => ⟨a, rfl, rfl⟩))) ?_)
    refine x_asg (row2 rfl) ⟨(nxt s (pickS m p lv s)).sum.toNat, by omega, nxt s (pickS m p lv s), behindOf lv (pickS m p lv s), pre ++ [pickS m p lv s], kvs', _, _, _, _, _, _, nxt_ok (cand_mem.mp hc) o, by rw [behind_len]; exact hl, rfl, g', ?_, ?_, rfl, ?_⟩
    · rw [← hpre, bestS_step hpos, List.append_assoc]; rfl
    · rw [List.length_append]; show pre.length + 1 + _ = _; omega
    · rw [List.map_append]; rfl
theorem s_law_cell_at : Sem K (Φ_law_cell_at A) N_law_cell_at (t_law_cell_at K A) := by
  rintro E ds R N' M' ⟨ns, k, rfl, rfl, h0, n⟩
  refine x_seq (x_if (b := decide (k < (ns.length : Int))) (by walk_at "et") (fun h => ?_) (fun h => x_nil ?_))
  · have h := of_decide_eq_true h
    have e : ns[k.toNat]? = some (cellI ns k) := by
      unfold cellI
      rw [List.getD_eq_getElem?_getD, List.getElem?_eq_getElem (by omega)]
      rfl
    have ek : ((k.toNat : Nat) : Int) = k := by omega
    refine' x_ret ?qa n
    refine' ev_op (x := .s ns) (y := .d (.int k)) ?qb ?qc (rv_ixs ?qd)
    case' qb => walk_at "ev"
    case' qc => walk_at "ev"
    case qd =>
      have q := atI_some e
      rw [ek] at q
      exact q
  · have h := of_decide_eq_false h
    have e : cellI ns k = 0 := by
      unfold cellI
      rw [List.getD_eq_getElem?_getD, List.getElem?_eq_none (by omega)]
      rfl
    refine x_ret ?_ n
    rw [e]
    exact ev_int
theorem s_law_order : Sem K (Φ_law_order A) N_law_order (t_law_order K A) := by
  rintro E ds R N' M' ⟨ns, k, m, rfl, rfl, h0, h1, h2, n⟩
  refine' x_retFI ?q1 ?q2 n
  case' q1 => walk_at "evf"
  · omega
  unfold lawOrder
  rw [List.map_map]
  rfl
theorem s_law_refused (hm : PySem.W.exmOne K (.ref A.bf) (.ref A.bf) = some true) (h1 : PySem.W.kitOne K (.ref A.bf) (.ref A.le) = some true) (h2 : PySem.W.kitOne K (.ref A.bf) (.ref A.ng) = some false) (h3 : PySem.W.kitOne K (.ref A.bf) (.ref A.bt) = some false) : Sem K (Φ_law_refused A) N_law_refused (t_law_refused K A) := by
  rintro E ds R N' M' ⟨w, lv, order, p, rfl, rfl, ho, n⟩
  refine x_seq (x_asg ev_bl ?_)
  refine x_seqM (fun δ' R' => δ'[4]? = some (some (.d (.bool (!decide (1 ≤ lv.length ∧ lv.length ≤ 8)))))) ?_ fun δ' R' h => x_retS (d := .d (.bool (!decide (1 ≤ lv.length ∧ lv.length ≤ 8)))) (ev_var h) (List.nil_sublist _) n
  refine x_tryAs (Hx := fun c δ' R' => c = .ref A.bf ∧ ¬ (1 ≤ lv.length ∧ lv.length ≤ 8) ∧ R' = [] ∧ δ' = [some (.d (.int w)), some (.d (.list (lv.map .bool))), some (.d (.list (order.map sd))), some (.d (.int p)), some (.d (.bool false)), none]) (fun W => ?_) ?_
  · have ok : ∀ {δ : DEnv} {R : Res} {te : TE}, δ = [some (.d (.int w)), some (.d (.list (lv.map .bool))), some (.d (.list (order.map sd))), some (.d (.int p)), some (.d (.bool false)), none] → R = [] → EvE K W δ R te (fun _ _ => 1 ≤ lv.length ∧ lv.length ≤ 8) (fun c R' => c = .ref A.bf ∧ ¬ (1 ≤ lv.length ∧ lv.length ≤ 8) ∧ R' = []) → XS K W δ R (tDrop te) { (({ endsOf N' M' with nx := fun δ' R' => δ'[4]? = some (some (.d (.bool (!decide (1 ≤ lv.length ∧ lv.length ≤ 8))))) } : Post)) with xe := fun c δ' R' => c = .ref A.bf ∧ ¬ (1 ≤ lv.length ∧ lv.length ≤ 8) ∧ R' = [] ∧ δ' = [some (.d (.int w)), some (.d (.list (lv.map .bool))), some (.d (.list (order.map sd))), some (.d (.int p)), some (.d (.bool false)), none] } := by
      rintro δ R te rfl rfl h
      refine x_dropE h (fun d R' q => ?_) fun c R' ⟨a, b, c⟩ => ⟨a, b, c, rfl⟩
      show some (some (D.d (.bool false))) = _
      rw [decide_eq_true q]; rfl
    refine x_ifI (b := decide (w = 0)) (et_test (ev_op (ev_var rfl) ev_int (rv_eq (.d _) (.d _) (dep_l (Nat.zero_le 60))))) (by rw [eqv_int, Bool.eq_iff_iff, decide_eq_true_eq, decide_eq_true_eq]; omega) ?_ ?_
    · intro _
      refine ok rfl rfl (ee_callP (ea_cons (ev_var rfl) (ea_cons (ev_var rfl) ea_nil)) ⟨lv, order, rfl, rfl, fun h => h, fun h => ⟨rfl, h, rfl⟩⟩ fun _ _ _ _ _ h => h)
    · intro _
      refine x_ifI (b := decide (w = 1)) (et_test (ev_op (ev_var rfl) ev_int (rv_eq (.d _) (.d _) (dep_l (Nat.zero_le 60))))) (by rw [eqv_int, Bool.eq_iff_iff, decide_eq_true_eq, decide_eq_true_eq]; omega) ?_ ?_
      · intro _
        refine ok rfl rfl (ee_callP (ea_cons (ev_var rfl) (ea_cons (ev_var rfl) ea_nil)) ⟨lv, order, rfl, rfl, by omega, fun h _ => h, fun h => ⟨rfl, h, rfl⟩⟩ fun _ _ _ _ _ h => h)
      · intro _
        refine ok rfl rfl (ee_callP (ea_cons (ev_var rfl) (ea_cons (ev_is (ev_lenL (ev_var rfl) (.d _)) (by rw [List.length_map])) (ea_cons ev_int (ea_cons (ev_var rfl) ea_nil)))) ⟨lv, order.length, 2, p, rfl, rfl, by omega, by omega, fun h _ => h, fun h => ⟨rfl, h, rfl⟩⟩ fun _ _ _ _ _ h => h)
  · rintro e δ' R' ⟨rfl, hb, rfl, rfl⟩
    refine ⟨true, hm, fun _ a => ?_, fun h => nomatch h⟩
    refine x_g ⟨rfl, rfl⟩ (x_asg (d := .d (.bool true)) (ev_and (a := true) (b := true) (ev_isE (ev_var rfl) ?_ h1) fun _ => ev_and (a := true) (b := true) (ev_not (b := false) (ev_isE (ev_var rfl) ?_ h2)) fun _ => ev_not (b := false) (ev_isE (ev_var rfl) ?_ h3)) ?_)
    · rintro u r; exact r
    · rintro u r; exact r
    · rintro u r; exact r
    · show some (some (D.d (.bool true))) = _
      rw [decide_eq_false hb]; rfl
theorem s_law : Sem K (Φ_law A) N_law (t_law K A) := by
  rintro E ds R N' M' ⟨ns, rfl, rfl, hl, n⟩
  refine x_seq (x_asg (d := .d (.int (9 + cellI ns 0 / 2 % 52))) ?q1 ?_)
  case q1 => walk_at "ev"
  refine x_seqM (fun δ' R' => ∃ many : Nat, ¬ (1 ≤ many ∧ many ≤ 8) ∧ many ≤ 60 ∧ R' = [] ∧ δ' = [some (.s ns), some (.d (.int many)), none, none, none, none, none]) ?_ ?_
  · refine x_if (b := decide (cellI ns 0 % 2 = 0)) (et_is (by walk_at "et") (eqv_int _ _)) ?_ ?_
    · intro _
      exact x_asg ev_int ⟨0, by omega, by omega, rfl, rfl⟩
    · intro _
      refine x_nil ⟨(9 + cellI ns 0 / 2 % 52).toNat, by omega, by omega, rfl, ?_⟩
      rw [show (((9 + cellI ns 0 / 2 % 52).toNat : Nat) : Int) = 9 + cellI ns 0 / 2 % 52 by omega]
      rfl
  rintro δ' R' ⟨many, hm, hm2, rfl, rfl⟩
  have lev : ∃ lv : List Bool, lv.length = many ∧ EvF K [some (.s ns), some (.d (.int many)), none, none, none, none, none] [] (tLc (iRng1 (tCons (tVar 1) tNil)) (gName 6) tYes (tOp (rEqP K) (tOp rMod (tOp rDiv (tCallS (spD K (Φ_law_cell_at A)) (fun _ => E0) (tCons (tVar 0) (tCons (tC (.int 1)) tNil))) (tOp (rIx K) (tLst (tCons (tC (.int 1)) (tCons (tC (.int 2)) (tCons (tC (.int 4)) (tCons (tC (.int 8)) (tCons (tC (.int 16)) (tCons (tC (.int 32)) (tCons (tC (.int 64)) (tCons (tC (.int 128)) tNil))))))))) (tOp rMod (tVar 6) (tC (.int 8))))) (tC (.int 2))) (tC (.int 1))) [6]) (lv.map .bool) := by
    refine ⟨(List.range many).map fun (k : Nat) => decide (cellI ns 1 / pws.getD ((k : Int) % 8).toNat 1 % 2 = 1), by simp, ?_⟩
    refine evf_is (evf_lcI0 (xs := List.range many) (enc := fun k : Nat => .int k) (fun k => .bool (decide (cellI ns 1 / pws.getD ((k : Int) % 8).toNat 1 % 2 = 1))) (ei_is (ei_rng1M (ev_var rfl) ⟨by omega, by omega⟩) (by rw [Int.toNat_natCast])) (by decide) fun k hk => ?_) (by rw [List.map_map]; rfl)
    refine ev_is (ev_op (x := .d (.int (cellI ns 1 / pws.getD ((k : Int) % 8).toNat 1 % 2))) (ev_op (ev_op ?w1 (ev_pws (i := (k : Int) % 8) (ev_op (ev_var rfl) ev_int (rv_mod (by decide))) ⟨by omega, by omega⟩) (rv_div (pws_pos _ _))) ev_int (rv_mod (by decide))) ev_int (rv_eq (.d _) (.d _) (dep_l (Nat.zero_le 60)))) (by rw [eqv_int])
    case w1 => walk_at "ev"
  obtain ⟨lv, hlv, hev⟩ := lev
  refine x_seq (x_asg (d := .d (.list (lv.map .bool))) (ev_frz hev) ?_)
  have l2 : (lawOrder ns 3 (cellI ns 2 % 9)).length ≤ 8 := by rw [lawOrder_len]; omega
  refine x_seq (x_asg (d := .d (.list ((lawOrder ns 3 (cellI ns 2 % 9)).map sd))) ?q2 ?_)
  case q2 => walk_at "ev"
  generalize lawOrder ns 3 (cellI ns 2 % 9) = order at *
  refine x_seq (x_asg (d := .d (.int (1 + cellI ns 12 % 20))) ?q3 ?_)
  case q3 => walk_at "ev"
  generalize 1 + cellI ns 12 % 20 = p
  refine x_seq ?_
  refine x_forI (xs := List.range 3) (enc := fun g : Nat => .int g) (fun i δ' R' => ∃ v, R' = [] ∧ δ' = [some (.s ns), some (.d (.int many)), some (.d (.list (lv.map .bool))), some (.d (.list (order.map sd))), some (.d (.int p)), v, none])
    (ei_is (ei_rng1M ev_int ⟨by omega, by omega⟩) rfl) ⟨none, rfl, rfl⟩ ?_ ?_
  · rintro i k δ' R' hi ⟨v, rfl, rfl⟩
    refine ⟨_, eg_name, ?_⟩
    refine x_seq (x_if (b := false) (et_not (b := true) (et_val (ev_callP (ds := [.d (.int (k : Nat)), .d (.list (lv.map .bool)), .d (.list (order.map sd)), .d (.int p)]) (ea_cons (ev_var rfl) (ea_cons ?w1 (ea_cons ?w2 (ea_cons (ev_var rfl) ea_nil)))) ⟨k, lv, order, p, rfl, rfl, l2, ?w3, rfl⟩))) (fun h => nomatch h) fun _ => x_nil ?_)
    case w1 => walk_at "ev"
    case w2 => walk_at "ev"
    case w3 => rw [hlv, decide_eq_false hm]; rfl
    refine x_if (b := false) (et_val (ev_callP (ds := [.d (.int (k : Nat)), .d (.list ([true, false].map .bool)), .d (.list (order.map sd)), .d (.int p)]) (ea_cons (ev_var rfl) (ea_cons (ev_frz (evf_lst (ex_cons ev_bl (ex_cons ev_bl ex_nil)) (by decide))) (ea_cons ?w4 (ea_cons (ev_var rfl) ea_nil)))) ⟨k, [true, false], order, p, rfl, rfl, l2, rfl, rfl⟩)) (fun h => nomatch h) fun _ => x_nil ⟨some (.d (.int (k : Nat))), rfl, rfl⟩
    case w4 => walk_at "ev"
  · rintro δ' R' ⟨v, rfl, rfl⟩
    exact x_ret ev_bl (n _)
end
def top (i : Nat) : Stmt := PySem.Challenge.pw_lockflight_k11_bad_flights.main.body.getD i (.Pass ⟨0, 0, 0, 0⟩)
abbrev st_ask_levels : Stmt := top 7
theorem sc_ask_levels : FnScope N_ask_levels ["levels"] (defScope st_ask_levels) := ⟨rfl, rfl, rfl, by decide +kernel, rfl, by decide +kernel, by decide +kernel⟩
abbrev st_cost_of : Stmt := top 9
theorem sc_cost_of : FnScope N_cost_of ["levels", "side"] (defScope st_cost_of) := ⟨rfl, rfl, rfl, by decide +kernel, rfl, by decide +kernel, by decide +kernel⟩
abbrev st_behind : Stmt := top 10
theorem sc_behind : FnScope N_behind ["levels", "side"] (defScope st_behind) := ⟨rfl, rfl, rfl, by decide +kernel, rfl, by decide +kernel, by decide +kernel⟩
abbrev st_cost : Stmt := top 11
theorem sc_cost : FnScope N_cost ["levels", "order"] (defScope st_cost) := ⟨rfl, rfl, rfl, by decide +kernel, rfl, by decide +kernel, by decide +kernel⟩
abbrev st_filled : Stmt := top 12
theorem sc_filled : FnScope N_filled ["levels", "chamber"] (defScope st_filled) := ⟨rfl, rfl, rfl, by decide +kernel, rfl, by decide +kernel, by decide +kernel⟩
abbrev st_emptied : Stmt := top 13
theorem sc_emptied : FnScope N_emptied ["levels", "chamber"] (defScope st_emptied) := ⟨rfl, rfl, rfl, by decide +kernel, rfl, by decide +kernel, by decide +kernel⟩
abbrev st_let_all : Stmt := top 14
theorem sc_let_all : FnScope N_let_all ["levels", "deeds"] (defScope st_let_all) := ⟨rfl, rfl, rfl, by decide +kernel, rfl, by decide +kernel, by decide +kernel⟩
abbrev st_put : Stmt := top 15
theorem sc_put : FnScope N_put ["levels", "deeds", "more"] (defScope st_put) := ⟨rfl, rfl, rfl, by decide +kernel, rfl, by decide +kernel, by decide +kernel⟩
abbrev st_passage_up : Stmt := top 16
theorem sc_passage_up : FnScope N_passage_up ["levels", "boat", "deeds"] (defScope st_passage_up) := ⟨rfl, rfl, rfl, by decide +kernel, rfl, by decide +kernel, by decide +kernel⟩
abbrev st_passage_down : Stmt := top 17
theorem sc_passage_down : FnScope N_passage_down ["levels", "boat", "deeds"] (defScope st_passage_down) := ⟨rfl, rfl, rfl, by decide +kernel, rfl, by decide +kernel, by decide +kernel⟩
abbrev st_plan : Stmt := top 18
theorem sc_plan : FnScope N_plan ["levels", "order"] (defScope st_plan) := ⟨rfl, rfl, rfl, by decide +kernel, rfl, by decide +kernel, by decide +kernel⟩
abbrev st_may_go : Stmt := top 20
theorem sc_may_go : FnScope N_may_go ["side", "ups", "downs", "last", "run", "patience"] (defScope st_may_go) := ⟨rfl, rfl, rfl, by decide +kernel, rfl, by decide +kernel, by decide +kernel⟩
abbrev st_left_behind : Stmt := top 21
theorem sc_left_behind : FnScope N_left_behind ["side", "ups", "downs", "last", "run"] (defScope st_left_behind) := ⟨rfl, rfl, rfl, by decide +kernel, rfl, by decide +kernel, by decide +kernel⟩
abbrev st_rest_of : Stmt := top 22
theorem sc_rest_of : FnScope N_rest_of ["many", "stand", "patience", "known"] (defScope st_rest_of) := ⟨rfl, rfl, rfl, by decide +kernel, rfl, by decide +kernel, by decide +kernel⟩
abbrev st_best : Stmt := top 23
theorem sc_best : FnScope N_best ["levels", "ups", "downs", "patience"] (defScope st_best) := ⟨rfl, rfl, rfl, by decide +kernel, rfl, by decide +kernel, by decide +kernel⟩
abbrev st_law_cell_at : Stmt := top 25
theorem sc_law_cell_at : FnScope N_law_cell_at ["script", "k"] (defScope st_law_cell_at) := ⟨rfl, rfl, rfl, by decide +kernel, rfl, by decide +kernel, by decide +kernel⟩
abbrev st_law_order : Stmt := top 26
theorem sc_law_order : FnScope N_law_order ["script", "start", "size"] (defScope st_law_order) := ⟨rfl, rfl, rfl, by decide +kernel, rfl, by decide +kernel, by decide +kernel⟩
abbrev st_law_refused : Stmt := top 27
theorem sc_law_refused : FnScope N_law_refused ["way", "levels", "order", "patience"] (defScope st_law_refused) := ⟨rfl, rfl, rfl, by decide +kernel, rfl, by decide +kernel, by decide +kernel⟩
abbrev st_law : Stmt := top 28
theorem sc_law : FnScope N_law ["script"] (defScope st_law) := ⟨rfl, rfl, rfl, by decide +kernel, rfl, by decide +kernel, by decide +kernel⟩
structure Tx (K : PySem.W.Frag) (mg : Str → Option Value) (A : Ad) : Prop where
  b_len : mg "len" = none
  c_MOST_CHAMBERS : ∃ u, mg "MOST_CHAMBERS" = some u ∧ RelV (.int 8) u
  x_bf : PySem.W.excIn K A.bf [.type "ValueError", .type "Exception", .type "BaseException", .type "object"] "ValueError.__new__" = true
  g_bf : mg "BadFlight" = some (.ref A.bf)
  k_bf : PySem.W.keepIn K (.ref A.bf) = true
  s_bf : PySem.W.subIn K (.ref A.bf) (.type "BaseException") = some true
  t_bf : PySem.W.typeIn K (.ref A.bf) = some (.type "type")
  b_int : mg "int" = none
  b_reversed : mg "reversed" = none
  b_range : mg "range" = none
  b_list : mg "list" = none
  b_min : mg "min" = none
  e_bf : ExcC K A.bf
  b_isinstance : mg "isinstance" = none
  g_le : mg "LockError" = some (.ref A.le)
  g_ng : mg "NoGate" = some (.ref A.ng)
  g_bt : mg "BadText" = some (.ref A.bt)
  m_bf_bf : PySem.W.exmOne K (.ref A.bf) (.ref A.bf) = some true
  i_bf_le : PySem.W.kitOne K (.ref A.bf) (.ref A.le) = some true
  i_bf_ng : PySem.W.kitOne K (.ref A.bf) (.ref A.ng) = some false
  i_bf_bt : PySem.W.kitOne K (.ref A.bf) (.ref A.bt) = some false
section
variable {P : Program} {w : World} {K : PySem.W.Frag} {mg : Str → Option Value} {base : Heap} {A : Ad}
theorem ok_ask_levels {f : Addr} {fd : FuncData} (F : Fun K "ask_levels" "ask_levels" st_ask_levels f fd) (T : Tx K mg A)  : FnOk P w K mg base (L2.CX P w) 2 f fd ["levels"] (spD K (Φ_ask_levels A)) :=
  cl_of (t_ask_levels K A) F sc_ask_levels (by intro ds R N M h; first | (obtain ⟨rfl, _⟩ := h; rfl) | (obtain ⟨_, rfl, _⟩ := h; rfl) | (obtain ⟨_, _, rfl, _⟩ := h; rfl) | (obtain ⟨_, _, _, rfl, _⟩ := h; rfl) | (obtain ⟨_, _, _, _, rfl, _⟩ := h; rfl) | (obtain ⟨_, _, _, _, _, rfl, _⟩ := h; rfl) | (obtain ⟨_, _, _, _, _, _, rfl, _⟩ := h; rfl) | (obtain ⟨_, _, _, _, _, _, _, rfl, _⟩ := h; rfl) | (obtain ⟨_, _, _, _, _, _, _, _, rfl, _⟩ := h; rfl) | (obtain ⟨_, _, _, _, _, _, _, _, _, rfl, _⟩ := h; rfl)) s_ask_levels fun cdv Ar outer s H E hr =>
  (pss_one (ps_if (pt_not (pt_chain op_le op_le pe_int (pe_callB call_len (by rfl) T.b_len (by decide +kernel) (pa_cons (pv 0) pa_nil)) (pe_gcn (by rfl) T.c_MOST_CHAMBERS))) (pss_one (ps_rz rfl (takes_of rfl rfl rfl rfl) (pmk_own PySem.F.excBase_ValueError T.x_bf T.g_bf T.k_bf (raises_own T.s_bf T.t_bf) (by exact rfl)))) pss_nil))
theorem ok_cost_of {f : Addr} {fd : FuncData} (F : Fun K "cost_of" "cost_of" st_cost_of f fd) (T : Tx K mg A)  : FnOk P w K mg base (L2.CX P w) 2 f fd ["levels", "side"] (spD K (Φ_cost_of A)) :=
  cl_of (t_cost_of K A) F sc_cost_of (by intro ds R N M h; first | (obtain ⟨rfl, _⟩ := h; rfl) | (obtain ⟨_, rfl, _⟩ := h; rfl) | (obtain ⟨_, _, rfl, _⟩ := h; rfl) | (obtain ⟨_, _, _, rfl, _⟩ := h; rfl) | (obtain ⟨_, _, _, _, rfl, _⟩ := h; rfl) | (obtain ⟨_, _, _, _, _, rfl, _⟩ := h; rfl) | (obtain ⟨_, _, _, _, _, _, rfl, _⟩ := h; rfl) | (obtain ⟨_, _, _, _, _, _, _, rfl, _⟩ := h; rfl) | (obtain ⟨_, _, _, _, _, _, _, _, rfl, _⟩ := h; rfl) | (obtain ⟨_, _, _, _, _, _, _, _, _, rfl, _⟩ := h; rfl)) s_cost_of fun cdv Ar outer s H E hr =>
  (pss_cons (ps_if (pt_cmpR (op_eqP hr.units) (pv 1) pe_str (nomark _)) (pss_one (ps_ret (pe_op op_plus pe_int (pe_callB call_len (by rfl) T.b_len (by decide +kernel) (pa_cons (pe_lc (own := [("level", 2)]) (g := gName 2) rfl sc_cost_of.nd (pi_list (pe_slice sl_list (pv 0) (po_some pe_int) po_none)) (blkOk_by (own := [("level", 2)]) (N := N_cost_of) (sc := defScope st_cost_of) (by decide +kernel)) (fun _ _ _ _ _ => pg_name (i := 2) sc_cost_of.nd rfl (Or.inl rfl)) (fun _ _ _ _ _ => (pts_one (pt_not (pt_val (pv 2))))) (fun _ _ _ _ _ => (pv 2))) pa_nil))))) pss_nil)
  (pss_one (ps_ret (pe_callTy call_int1 (by rfl) T.b_int (by decide +kernel) (pa_cons (pe_not (pe_ix ix_seq (pv 0) (pe_un un_neg' pe_int) (fun _ _ => rfl))) pa_nil)))))
theorem ok_behind {f : Addr} {fd : FuncData} (F : Fun K "behind" "behind" st_behind f fd) (T : Tx K mg A)  : FnOk P w K mg base (L2.CX P w) 2 f fd ["levels", "side"] (spD K (Φ_behind A)) :=
  cl_of (t_behind K A) F sc_behind (by intro ds R N M h; first | (obtain ⟨rfl, _⟩ := h; rfl) | (obtain ⟨_, rfl, _⟩ := h; rfl) | (obtain ⟨_, _, rfl, _⟩ := h; rfl) | (obtain ⟨_, _, _, rfl, _⟩ := h; rfl) | (obtain ⟨_, _, _, _, rfl, _⟩ := h; rfl) | (obtain ⟨_, _, _, _, _, rfl, _⟩ := h; rfl) | (obtain ⟨_, _, _, _, _, _, rfl, _⟩ := h; rfl) | (obtain ⟨_, _, _, _, _, _, _, rfl, _⟩ := h; rfl) | (obtain ⟨_, _, _, _, _, _, _, _, rfl, _⟩ := h; rfl) | (obtain ⟨_, _, _, _, _, _, _, _, _, rfl, _⟩ := h; rfl)) s_behind fun cdv Ar outer s H E hr =>
  (pss_one (ps_ret (pe_lc (own := [("level", 2)]) (g := gName 2) rfl sc_behind.nd (pi_list (pv 0)) (blkOk_by (own := [("level", 2)]) (N := N_behind) (sc := defScope st_behind) (by decide +kernel)) (fun _ _ _ _ _ => pg_name (i := 2) sc_behind.nd rfl (Or.inl rfl)) (fun _ _ _ _ _ => pts_nil) (fun _ _ _ _ _ => (pe_cmpR (op_eqP hr.units) (pv 1) pe_str (nomark _))))))
theorem ok_cost {f : Addr} {fd : FuncData} (F : Fun K "cost" "cost" st_cost f fd) (T : Tx K mg A) (q_ask_levels : Cl P w K mg base 2 "ask_levels" ["levels"] (spD K (Φ_ask_levels A))) (q_cost_of : Cl P w K mg base 2 "cost_of" ["levels", "side"] (spD K (Φ_cost_of A))) (q_behind : Cl P w K mg base 2 "behind" ["levels", "side"] (spD K (Φ_behind A))) : FnOk P w K mg base (L2.CX P w) 3 f fd ["levels", "order"] (spD K (Φ_cost A)) :=
  cl_of (t_cost K A) F sc_cost (by intro ds R N M h; first | (obtain ⟨rfl, _⟩ := h; rfl) | (obtain ⟨_, rfl, _⟩ := h; rfl) | (obtain ⟨_, _, rfl, _⟩ := h; rfl) | (obtain ⟨_, _, _, rfl, _⟩ := h; rfl) | (obtain ⟨_, _, _, _, rfl, _⟩ := h; rfl) | (obtain ⟨_, _, _, _, _, rfl, _⟩ := h; rfl) | (obtain ⟨_, _, _, _, _, _, rfl, _⟩ := h; rfl) | (obtain ⟨_, _, _, _, _, _, _, rfl, _⟩ := h; rfl) | (obtain ⟨_, _, _, _, _, _, _, _, rfl, _⟩ := h; rfl) | (obtain ⟨_, _, _, _, _, _, _, _, _, rfl, _⟩ := h; rfl)) s_cost fun cdv Ar outer s H E hr =>
  (pss_cons (ps_expr (pe_cl q_ask_levels hr (by decide) (by rfl) (pasX (takes_of rfl rfl rfl rfl)) (pa_cons (pv 0) pa_nil)))
  (pss_cons (ps_set (i := 2) sc_cost.nd rfl (Or.inl rfl) pe_int)
  (pss_cons (ps_for (passes_of rfl) rfl (pi_list (pv 1)) (pg_name (i := 3) sc_cost.nd rfl (Or.inl rfl)) (pss_cons (ps_set (i := 2) sc_cost.nd rfl (Or.inl rfl) (pe_op op_plus (pv 2) (pe_cl q_cost_of hr (by decide) (by rfl) (pasX (takes_of rfl rfl rfl rfl)) (pa_cons (pv 0) (pa_cons (pv 3) pa_nil)))))
  (pss_one (ps_set (i := 0) sc_cost.nd rfl (Or.inl rfl) (pe_cl q_behind hr (by decide) (by rfl) (pasX (takes_of rfl rfl rfl rfl)) (pa_cons (pv 0) (pa_cons (pv 3) pa_nil)))))))
  (pss_one (ps_ret (pv 2))))))
theorem ok_filled {f : Addr} {fd : FuncData} (F : Fun K "filled" "filled" st_filled f fd) (T : Tx K mg A)  : FnOk P w K mg base (L2.CX P w) 2 f fd ["levels", "chamber"] (spD K (Φ_filled A)) :=
  cl_of (t_filled K A) F sc_filled (by intro ds R N M h; first | (obtain ⟨rfl, _⟩ := h; rfl) | (obtain ⟨_, rfl, _⟩ := h; rfl) | (obtain ⟨_, _, rfl, _⟩ := h; rfl) | (obtain ⟨_, _, _, rfl, _⟩ := h; rfl) | (obtain ⟨_, _, _, _, rfl, _⟩ := h; rfl) | (obtain ⟨_, _, _, _, _, rfl, _⟩ := h; rfl) | (obtain ⟨_, _, _, _, _, _, rfl, _⟩ := h; rfl) | (obtain ⟨_, _, _, _, _, _, _, rfl, _⟩ := h; rfl) | (obtain ⟨_, _, _, _, _, _, _, _, rfl, _⟩ := h; rfl) | (obtain ⟨_, _, _, _, _, _, _, _, _, rfl, _⟩ := h; rfl)) s_filled fun cdv Ar outer s H E hr =>
  (pss_cons (ps_set (i := 2) sc_filled.nd rfl (Or.inl rfl) (pv 1))
  (pss_cons (ps_while (passes_of rfl) (PW.pt (pw_and (pt_cmpR op_lt (pv 2) (pe_callB call_len (by rfl) T.b_len (by decide +kernel) (pa_cons (pv 0) pa_nil)) (nomark _)) (pw_and1 (pt_not (pt_val (pe_ix ix_seq (pv 0) (pv 2) (fun _ _ => rfl))))))) (pss_one (ps_set (i := 2) sc_filled.nd rfl (Or.inl rfl) (pe_op op_plus (pv 2) pe_int))))
  (pss_one (ps_ret (pe_lc (own := [("gate", 3)]) (g := gName 3) rfl sc_filled.nd (pi_revR (by rfl) T.b_reversed (prg_2 (by rfl) T.b_range (pv 1) (pe_op op_plus (pv 2) pe_int))) (blkOk_by (own := [("gate", 3)]) (N := N_filled) (sc := defScope st_filled) (by decide +kernel)) (fun _ _ _ _ _ => pg_name (i := 3) sc_filled.nd rfl (Or.inl rfl)) (fun _ _ _ _ _ => pts_nil) (fun _ _ _ _ _ => (pe_tup (pa_cons pe_str (pa_cons (pv 3) pa_nil)))))))))
theorem ok_emptied {f : Addr} {fd : FuncData} (F : Fun K "emptied" "emptied" st_emptied f fd) (T : Tx K mg A)  : FnOk P w K mg base (L2.CX P w) 2 f fd ["levels", "chamber"] (spD K (Φ_emptied A)) :=
  cl_of (t_emptied K A) F sc_emptied (by intro ds R N M h; first | (obtain ⟨rfl, _⟩ := h; rfl) | (obtain ⟨_, rfl, _⟩ := h; rfl) | (obtain ⟨_, _, rfl, _⟩ := h; rfl) | (obtain ⟨_, _, _, rfl, _⟩ := h; rfl) | (obtain ⟨_, _, _, _, rfl, _⟩ := h; rfl) | (obtain ⟨_, _, _, _, _, rfl, _⟩ := h; rfl) | (obtain ⟨_, _, _, _, _, _, rfl, _⟩ := h; rfl) | (obtain ⟨_, _, _, _, _, _, _, rfl, _⟩ := h; rfl) | (obtain ⟨_, _, _, _, _, _, _, _, rfl, _⟩ := h; rfl) | (obtain ⟨_, _, _, _, _, _, _, _, _, rfl, _⟩ := h; rfl)) s_emptied fun cdv Ar outer s H E hr =>
  (pss_cons (ps_set (i := 2) sc_emptied.nd rfl (Or.inl rfl) (pe_op op_sub (pv 1) pe_int))
  (pss_cons (ps_while (passes_of rfl) (PW.pt (pw_and (pt_cmpR op_gt (pv 2) pe_int (nomark _)) (pw_and1 (pt_val (pe_ix ix_seq (pv 0) (pe_op op_sub (pv 2) pe_int) (fun _ _ => rfl)))))) (pss_one (ps_set (i := 2) sc_emptied.nd rfl (Or.inl rfl) (pe_op op_sub (pv 2) pe_int))))
  (pss_one (ps_ret (pe_lc (own := [("gate", 3)]) (g := gName 3) rfl sc_emptied.nd (pi_range2 (by rfl) T.b_range (pa_cons (pv 2) (pa_cons (pv 1) pa_nil))) (blkOk_by (own := [("gate", 3)]) (N := N_emptied) (sc := defScope st_emptied) (by decide +kernel)) (fun _ _ _ _ _ => pg_name (i := 3) sc_emptied.nd rfl (Or.inl rfl)) (fun _ _ _ _ _ => pts_nil) (fun _ _ _ _ _ => (pe_tup (pa_cons pe_str (pa_cons (pv 3) pa_nil)))))))))
theorem ok_let_all {f : Addr} {fd : FuncData} (F : Fun K "let_all" "let_all" st_let_all f fd) (T : Tx K mg A)  : FnOk P w K mg base (L2.CX P w) 2 f fd ["levels", "deeds"] (spD K (Φ_let_all A)) :=
  cl_of (t_let_all K A) F sc_let_all (by intro ds R N M h; first | (obtain ⟨rfl, _⟩ := h; rfl) | (obtain ⟨_, rfl, _⟩ := h; rfl) | (obtain ⟨_, _, rfl, _⟩ := h; rfl) | (obtain ⟨_, _, _, rfl, _⟩ := h; rfl) | (obtain ⟨_, _, _, _, rfl, _⟩ := h; rfl) | (obtain ⟨_, _, _, _, _, rfl, _⟩ := h; rfl) | (obtain ⟨_, _, _, _, _, _, rfl, _⟩ := h; rfl) | (obtain ⟨_, _, _, _, _, _, _, rfl, _⟩ := h; rfl) | (obtain ⟨_, _, _, _, _, _, _, _, rfl, _⟩ := h; rfl) | (obtain ⟨_, _, _, _, _, _, _, _, _, rfl, _⟩ := h; rfl)) s_let_all fun cdv Ar outer s H E hr =>
  (pss_cons (ps_set (i := 2) sc_let_all.nd rfl (Or.inl rfl) (pe_callTy call_list_of (by rfl) T.b_list (by decide +kernel) (pa_cons (pv 0) pa_nil)))
  (pss_cons (ps_for (passes_of rfl) rfl (pi_list (pv 1)) (pg_name (i := 3) sc_let_all.nd rfl (Or.inl rfl)) (pss_cons (ps_if (pt_cmpR op_lt (pe_ix ix_seq (pv 3) pe_int (fun _ _ => rfl)) (pe_callB call_len (by rfl) T.b_len (by decide +kernel) (pa_cons (pv 2) pa_nil)) (nomark _)) (pss_one (ps_asg pe_bl (pg_sub (pv 2) (pe_ix ix_seq (pv 3) pe_int (fun _ _ => rfl)) set_list))) pss_nil)
  (pss_one (ps_if (pt_cmpR op_gt (pe_ix ix_seq (pv 3) pe_int (fun _ _ => rfl)) pe_int (nomark _)) (pss_one (ps_asg pe_bl (pg_sub (pv 2) (pe_op op_sub (pe_ix ix_seq (pv 3) pe_int (fun _ _ => rfl)) pe_int) set_list))) pss_nil))))
  (pss_one (ps_ret (pv 2)))))
theorem ok_put {f : Addr} {fd : FuncData} (F : Fun K "put" "put" st_put f fd) (T : Tx K mg A) (q_let_all : Cl P w K mg base 2 "let_all" ["levels", "deeds"] (spD K (Φ_let_all A))) : FnOk P w K mg base (L2.CX P w) 3 f fd ["levels", "deeds", "more"] (spD K (Φ_put A)) :=
  cl_of (t_put K A) F sc_put (by intro ds R N M h; first | (obtain ⟨rfl, _⟩ := h; rfl) | (obtain ⟨_, rfl, _⟩ := h; rfl) | (obtain ⟨_, _, rfl, _⟩ := h; rfl) | (obtain ⟨_, _, _, rfl, _⟩ := h; rfl) | (obtain ⟨_, _, _, _, rfl, _⟩ := h; rfl) | (obtain ⟨_, _, _, _, _, rfl, _⟩ := h; rfl) | (obtain ⟨_, _, _, _, _, _, rfl, _⟩ := h; rfl) | (obtain ⟨_, _, _, _, _, _, _, rfl, _⟩ := h; rfl) | (obtain ⟨_, _, _, _, _, _, _, _, rfl, _⟩ := h; rfl) | (obtain ⟨_, _, _, _, _, _, _, _, _, rfl, _⟩ := h; rfl)) s_put fun cdv Ar outer s H E hr =>
  (pss_cons (ps_expr (pe_bm PySem.F.plainAttrs_list PySem.F.slot_list_extend PySem.F.type_list_extend mt_extend (pv 1) (pa_cons (pv 2) pa_nil)))
  (pss_one (ps_ret (pe_cl q_let_all hr (by decide) (by rfl) (pasX (takes_of rfl rfl rfl rfl)) (pa_cons (pv 0) (pa_cons (pv 2) pa_nil))))))
theorem ok_passage_up {f : Addr} {fd : FuncData} (F : Fun K "passage_up" "passage_up" st_passage_up f fd) (T : Tx K mg A) (q_emptied : Cl P w K mg base 2 "emptied" ["levels", "chamber"] (spD K (Φ_emptied A))) (q_put : Cl P w K mg base 3 "put" ["levels", "deeds", "more"] (spD K (Φ_put A))) (q_filled : Cl P w K mg base 2 "filled" ["levels", "chamber"] (spD K (Φ_filled A))) : FnOk P w K mg base (L2.CX P w) 4 f fd ["levels", "boat", "deeds"] (spD K (Φ_passage_up A)) :=
  cl_of (t_passage_up K A) F sc_passage_up (by intro ds R N M h; first | (obtain ⟨rfl, _⟩ := h; rfl) | (obtain ⟨_, rfl, _⟩ := h; rfl) | (obtain ⟨_, _, rfl, _⟩ := h; rfl) | (obtain ⟨_, _, _, rfl, _⟩ := h; rfl) | (obtain ⟨_, _, _, _, rfl, _⟩ := h; rfl) | (obtain ⟨_, _, _, _, _, rfl, _⟩ := h; rfl) | (obtain ⟨_, _, _, _, _, _, rfl, _⟩ := h; rfl) | (obtain ⟨_, _, _, _, _, _, _, rfl, _⟩ := h; rfl) | (obtain ⟨_, _, _, _, _, _, _, _, rfl, _⟩ := h; rfl) | (obtain ⟨_, _, _, _, _, _, _, _, _, rfl, _⟩ := h; rfl)) s_passage_up fun cdv Ar outer s H E hr =>
  (pss_cons (ps_if (pt_val (pe_ix ix_seq (pv 0) pe_int (fun _ _ => rfl))) (pss_one (ps_set (i := 0) sc_passage_up.nd rfl (Or.inl rfl) (pe_cl q_put hr (by decide) (by rfl) (pasX (takes_of rfl rfl rfl rfl)) (pa_cons (pv 0) (pa_cons (pv 2) (pa_cons (pe_cl q_emptied hr (by decide) (by rfl) (pasX (takes_of rfl rfl rfl rfl)) (pa_cons (pv 0) (pa_cons pe_int pa_nil))) pa_nil)))))) pss_nil)
  (pss_cons (ps_expr (pe_bm PySem.F.plainAttrs_list PySem.F.slot_list_append PySem.F.type_list_append mt_append (pv 2) (pa_cons (pe_tup (pa_cons pe_str (pa_cons (pv 1) pa_nil))) pa_nil)))
  (pss_cons (ps_for (passes_of rfl) rfl (pi_range2 (by rfl) T.b_range (pa_cons pe_int (pa_cons (pe_op op_plus (pe_callB call_len (by rfl) T.b_len (by decide +kernel) (pa_cons (pv 0) pa_nil)) pe_int) pa_nil))) (pg_name (i := 3) sc_passage_up.nd rfl (Or.inl rfl)) (pss_cons (ps_set (i := 0) sc_passage_up.nd rfl (Or.inl rfl) (pe_cl q_put hr (by decide) (by rfl) (pasX (takes_of rfl rfl rfl rfl)) (pa_cons (pv 0) (pa_cons (pv 2) (pa_cons (pe_cl q_filled hr (by decide) (by rfl) (pasX (takes_of rfl rfl rfl rfl)) (pa_cons (pv 0) (pa_cons (pv 3) pa_nil))) pa_nil)))))
  (pss_one (ps_expr (pe_bm PySem.F.plainAttrs_list PySem.F.slot_list_append PySem.F.type_list_append mt_append (pv 2) (pa_cons (pe_tup (pa_cons pe_str (pa_cons (pv 1) pa_nil))) pa_nil))))))
  (pss_one (ps_ret (pv 0))))))
theorem ok_passage_down {f : Addr} {fd : FuncData} (F : Fun K "passage_down" "passage_down" st_passage_down f fd) (T : Tx K mg A) (q_filled : Cl P w K mg base 2 "filled" ["levels", "chamber"] (spD K (Φ_filled A))) (q_put : Cl P w K mg base 3 "put" ["levels", "deeds", "more"] (spD K (Φ_put A))) (q_emptied : Cl P w K mg base 2 "emptied" ["levels", "chamber"] (spD K (Φ_emptied A))) : FnOk P w K mg base (L2.CX P w) 4 f fd ["levels", "boat", "deeds"] (spD K (Φ_passage_down A)) :=
  cl_of (t_passage_down K A) F sc_passage_down (by intro ds R N M h; first | (obtain ⟨rfl, _⟩ := h; rfl) | (obtain ⟨_, rfl, _⟩ := h; rfl) | (obtain ⟨_, _, rfl, _⟩ := h; rfl) | (obtain ⟨_, _, _, rfl, _⟩ := h; rfl) | (obtain ⟨_, _, _, _, rfl, _⟩ := h; rfl) | (obtain ⟨_, _, _, _, _, rfl, _⟩ := h; rfl) | (obtain ⟨_, _, _, _, _, _, rfl, _⟩ := h; rfl) | (obtain ⟨_, _, _, _, _, _, _, rfl, _⟩ := h; rfl) | (obtain ⟨_, _, _, _, _, _, _, _, rfl, _⟩ := h; rfl) | (obtain ⟨_, _, _, _, _, _, _, _, _, rfl, _⟩ := h; rfl)) s_passage_down fun cdv Ar outer s H E hr =>
  (pss_cons (ps_if (pt_not (pt_val (pe_ix ix_seq (pv 0) (pe_un un_neg' pe_int) (fun _ _ => rfl)))) (pss_one (ps_set (i := 0) sc_passage_down.nd rfl (Or.inl rfl) (pe_cl q_put hr (by decide) (by rfl) (pasX (takes_of rfl rfl rfl rfl)) (pa_cons (pv 0) (pa_cons (pv 2) (pa_cons (pe_cl q_filled hr (by decide) (by rfl) (pasX (takes_of rfl rfl rfl rfl)) (pa_cons (pv 0) (pa_cons (pe_callB call_len (by rfl) T.b_len (by decide +kernel) (pa_cons (pv 0) pa_nil)) pa_nil))) pa_nil)))))) pss_nil)
  (pss_cons (ps_expr (pe_bm PySem.F.plainAttrs_list PySem.F.slot_list_append PySem.F.type_list_append mt_append (pv 2) (pa_cons (pe_tup (pa_cons pe_str (pa_cons (pv 1) pa_nil))) pa_nil)))
  (pss_cons (ps_for (passes_of rfl) rfl (pi_revR (by rfl) T.b_reversed (prg_2 (by rfl) T.b_range pe_int (pe_op op_plus (pe_callB call_len (by rfl) T.b_len (by decide +kernel) (pa_cons (pv 0) pa_nil)) pe_int))) (pg_name (i := 3) sc_passage_down.nd rfl (Or.inl rfl)) (pss_cons (ps_set (i := 0) sc_passage_down.nd rfl (Or.inl rfl) (pe_cl q_put hr (by decide) (by rfl) (pasX (takes_of rfl rfl rfl rfl)) (pa_cons (pv 0) (pa_cons (pv 2) (pa_cons (pe_cl q_emptied hr (by decide) (by rfl) (pasX (takes_of rfl rfl rfl rfl)) (pa_cons (pv 0) (pa_cons (pv 3) pa_nil))) pa_nil)))))
  (pss_one (ps_expr (pe_bm PySem.F.plainAttrs_list PySem.F.slot_list_append PySem.F.type_list_append mt_append (pv 2) (pa_cons (pe_tup (pa_cons pe_str (pa_cons (pv 1) pa_nil))) pa_nil))))))
  (pss_one (ps_ret (pv 0))))))
theorem ok_plan {f : Addr} {fd : FuncData} (F : Fun K "plan" "plan" st_plan f fd) (T : Tx K mg A) (q_ask_levels : Cl P w K mg base 2 "ask_levels" ["levels"] (spD K (Φ_ask_levels A))) (q_passage_up : Cl P w K mg base 4 "passage_up" ["levels", "boat", "deeds"] (spD K (Φ_passage_up A))) (q_passage_down : Cl P w K mg base 4 "passage_down" ["levels", "boat", "deeds"] (spD K (Φ_passage_down A))) : FnOk P w K mg base (L2.CX P w) 5 f fd ["levels", "order"] (spD K (Φ_plan A)) :=
  cl_of (t_plan K A) F sc_plan (by intro ds R N M h; first | (obtain ⟨rfl, _⟩ := h; rfl) | (obtain ⟨_, rfl, _⟩ := h; rfl) | (obtain ⟨_, _, rfl, _⟩ := h; rfl) | (obtain ⟨_, _, _, rfl, _⟩ := h; rfl) | (obtain ⟨_, _, _, _, rfl, _⟩ := h; rfl) | (obtain ⟨_, _, _, _, _, rfl, _⟩ := h; rfl) | (obtain ⟨_, _, _, _, _, _, rfl, _⟩ := h; rfl) | (obtain ⟨_, _, _, _, _, _, _, rfl, _⟩ := h; rfl) | (obtain ⟨_, _, _, _, _, _, _, _, rfl, _⟩ := h; rfl) | (obtain ⟨_, _, _, _, _, _, _, _, _, rfl, _⟩ := h; rfl)) s_plan fun cdv Ar outer s H E hr =>
  (pss_cons (ps_expr (pe_cl q_ask_levels hr (by decide) (by rfl) (pasX (takes_of rfl rfl rfl rfl)) (pa_cons (pv 0) pa_nil)))
  (pss_cons (ps_set (i := 2) sc_plan.nd rfl (Or.inl rfl) (pe_lst pa_nil))
  (pss_cons (ps_for (passes_of rfl) rfl (pi_range1 (by rfl) T.b_range (pa_cons (pe_callB call_len (by rfl) T.b_len (by decide +kernel) (pa_cons (pv 1) pa_nil)) pa_nil)) (pg_name (i := 3) sc_plan.nd rfl (Or.inl rfl)) (pss_one (ps_if (pt_cmpR (op_eqP hr.units) (pe_ix ix_seq (pv 1) (pv 3) (fun _ _ => rfl)) pe_str (nomark _)) (pss_one (ps_set (i := 0) sc_plan.nd rfl (Or.inl rfl) (pe_cl q_passage_up hr (by decide) (by rfl) (pasX (takes_of rfl rfl rfl rfl)) (pa_cons (pv 0) (pa_cons (pv 3) (pa_cons (pv 2) pa_nil)))))) (pss_one (ps_set (i := 0) sc_plan.nd rfl (Or.inl rfl) (pe_cl q_passage_down hr (by decide) (by rfl) (pasX (takes_of rfl rfl rfl rfl)) (pa_cons (pv 0) (pa_cons (pv 3) (pa_cons (pv 2) pa_nil)))))))))
  (pss_one (ps_ret (pv 2))))))
theorem ok_may_go {f : Addr} {fd : FuncData} (F : Fun K "may_go" "may_go" st_may_go f fd) (T : Tx K mg A)  : FnOk P w K mg base (L2.CX P w) 2 f fd ["side", "ups", "downs", "last", "run", "patience"] (spD K (Φ_may_go A)) :=
  cl_of (t_may_go K A) F sc_may_go (by intro ds R N M h; first | (obtain ⟨rfl, _⟩ := h; rfl) | (obtain ⟨_, rfl, _⟩ := h; rfl) | (obtain ⟨_, _, rfl, _⟩ := h; rfl) | (obtain ⟨_, _, _, rfl, _⟩ := h; rfl) | (obtain ⟨_, _, _, _, rfl, _⟩ := h; rfl) | (obtain ⟨_, _, _, _, _, rfl, _⟩ := h; rfl) | (obtain ⟨_, _, _, _, _, _, rfl, _⟩ := h; rfl) | (obtain ⟨_, _, _, _, _, _, _, rfl, _⟩ := h; rfl) | (obtain ⟨_, _, _, _, _, _, _, _, rfl, _⟩ := h; rfl) | (obtain ⟨_, _, _, _, _, _, _, _, _, rfl, _⟩ := h; rfl)) s_may_go fun cdv Ar outer s H E hr =>
  (pss_cons (ps_set (i := 6) sc_may_go.nd rfl (Or.inl rfl) (pv 1))
  (pss_cons (ps_set (i := 7) sc_may_go.nd rfl (Or.inl rfl) (pv 2))
  (pss_cons (ps_if (pt_cmpR (op_eqP hr.units) (pv 0) pe_str (nomark _)) (pss_cons (ps_set (i := 6) sc_may_go.nd rfl (Or.inl rfl) (pv 2))
  (pss_one (ps_set (i := 7) sc_may_go.nd rfl (Or.inl rfl) (pv 1)))) pss_nil)
  (pss_one (ps_ret (pe_and (pe_cmpR op_gt (pv 6) pe_int (nomark _)) (pe_one (pe_or (pe_cmpR (op_eqP hr.units) (pv 7) pe_int (nomark _)) (pe_or (pe_cmpR (op_neP hr.units) (pv 0) (pv 3) (nomark _)) (pe_one (pe_cmpR op_lt (pv 4) (pv 5) (nomark _))))))))))))
theorem ok_left_behind {f : Addr} {fd : FuncData} (F : Fun K "left_behind" "left_behind" st_left_behind f fd) (T : Tx K mg A)  : FnOk P w K mg base (L2.CX P w) 2 f fd ["side", "ups", "downs", "last", "run"] (spD K (Φ_left_behind A)) :=
  cl_of (t_left_behind K A) F sc_left_behind (by intro ds R N M h; first | (obtain ⟨rfl, _⟩ := h; rfl) | (obtain ⟨_, rfl, _⟩ := h; rfl) | (obtain ⟨_, _, rfl, _⟩ := h; rfl) | (obtain ⟨_, _, _, rfl, _⟩ := h; rfl) | (obtain ⟨_, _, _, _, rfl, _⟩ := h; rfl) | (obtain ⟨_, _, _, _, _, rfl, _⟩ := h; rfl) | (obtain ⟨_, _, _, _, _, _, rfl, _⟩ := h; rfl) | (obtain ⟨_, _, _, _, _, _, _, rfl, _⟩ := h; rfl) | (obtain ⟨_, _, _, _, _, _, _, _, rfl, _⟩ := h; rfl) | (obtain ⟨_, _, _, _, _, _, _, _, _, rfl, _⟩ := h; rfl)) s_left_behind fun cdv Ar outer s H E hr =>
  (pss_cons (ps_if (pt_cmpR (op_eqP hr.units) (pv 0) (pv 3) (nomark _)) (pss_one (ps_set (i := 4) sc_left_behind.nd rfl (Or.inl rfl) (pe_op op_plus (pv 4) pe_int))) (pss_one (ps_set (i := 4) sc_left_behind.nd rfl (Or.inl rfl) pe_int)))
  (pss_cons (ps_if (pt_cmpR (op_eqP hr.units) (pv 0) pe_str (nomark _)) (pss_one (ps_ret (pe_tup (pa_cons (pe_op op_sub (pv 1) pe_int) (pa_cons (pv 2) (pa_cons (pv 0) (pa_cons (pv 4) pa_nil))))))) pss_nil)
  (pss_one (ps_ret (pe_tup (pa_cons (pv 1) (pa_cons (pe_op op_sub (pv 2) pe_int) (pa_cons (pv 0) (pa_cons (pv 4) pa_nil)))))))))
theorem ok_rest_of {f : Addr} {fd : FuncData} (F : Fun K "rest_of" "rest_of" st_rest_of f fd) (T : Tx K mg A) (q_may_go : Cl P w K mg base 2 "may_go" ["side", "ups", "downs", "last", "run", "patience"] (spD K (Φ_may_go A))) (q_left_behind : Cl P w K mg base 2 "left_behind" ["side", "ups", "downs", "last", "run"] (spD K (Φ_left_behind A))) (q_cost_of : Cl P w K mg base 2 "cost_of" ["levels", "side"] (spD K (Φ_cost_of A))) (hm : mg "rest_of" = some (.ref f)) (hk : PySem.W.keepIn K (.ref f) = true) (hb : Binds K fd ["many", "stand", "patience", "known"] []) : ∀ n, FnOk P w K mg base (L2.CX P w) (3 + n) f fd ["many", "stand", "patience", "known"] (spD K (Φ_rest_of_ n A))
  | 0 => ⟨fun vs H Q E hsp => by obtain ⟨_, _, _, _, _, _, _, h, _⟩ := hsp; exact h.elim, fun Ar outer s H args us vs Q E hr e0 hbt hv hsp => by obtain ⟨_, _, _, _, _, _, _, h, _⟩ := hsp; exact h.elim⟩
  | n + 1 => by
    have q_rest_of : Cl P w K mg base (3 + n) "rest_of" ["many", "stand", "patience", "known"] (spD K (Φ_rest_of_ n A)) := ⟨f, fd, ok_rest_of F T q_may_go q_left_behind q_cost_of hm hk hb n, hm, hk, hb⟩
    exact cl_of (k := 3 + n) (t_rest_of n K A) F sc_rest_of (by intro ds R N M h; first | (obtain ⟨rfl, _⟩ := h; rfl) | (obtain ⟨_, rfl, _⟩ := h; rfl) | (obtain ⟨_, _, rfl, _⟩ := h; rfl) | (obtain ⟨_, _, _, rfl, _⟩ := h; rfl) | (obtain ⟨_, _, _, _, rfl, _⟩ := h; rfl) | (obtain ⟨_, _, _, _, _, rfl, _⟩ := h; rfl) | (obtain ⟨_, _, _, _, _, _, rfl, _⟩ := h; rfl) | (obtain ⟨_, _, _, _, _, _, _, rfl, _⟩ := h; rfl) | (obtain ⟨_, _, _, _, _, _, _, _, rfl, _⟩ := h; rfl) | (obtain ⟨_, _, _, _, _, _, _, _, _, rfl, _⟩ := h; rfl)) (s_rest_of n ) fun cdv Ar outer s H E hr =>
  (pss_cons (ps_asg (pv 1) (pg_tup rfl (pgs_cons (pg_name (i := 4) sc_rest_of.nd rfl (Or.inl rfl)) (pgs_cons (pg_name (i := 5) sc_rest_of.nd rfl (Or.inl rfl)) (pgs_cons (pg_name (i := 6) sc_rest_of.nd rfl (Or.inr rfl)) (pgs_cons (pg_name (i := 7) sc_rest_of.nd rfl (Or.inl rfl)) pgs_nil))))))
  (pss_cons (ps_if (pt_cmpR (op_eqP hr.units) (pe_op op_plus (pv 4) (pv 5)) pe_int (nomark _)) (pss_one (ps_ret pe_int)) pss_nil)
  (pss_cons (ps_if (pt_cmp (pc_din (hu_of hr) (pv 1) (pv 3))) (pss_one (ps_ret (pe_dget (hu_of hr) (pv 3) (pv 1) (fun _ _ => rfl)))) pss_nil)
  (pss_cons (ps_setLc (i := 8) (own := [("chamber", 12)]) (g := gName 12) rfl sc_rest_of.nd rfl rfl (sw_true rfl rfl rfl (by decide +kernel)) (pi_range1 (by rfl) T.b_range (pa_cons (pv 0) pa_nil)) (blkOk_by (own := [("chamber", 12)]) (N := N_rest_of) (sc := defScope st_rest_of) (by decide +kernel)) (fun _ _ _ _ _ => pg_name (i := 12) sc_rest_of.nd rfl (Or.inl rfl)) (fun _ _ _ _ _ => pts_nil) (fun _ _ _ _ _ => (pe_cmpR (op_eqP hr.units) (pv 6) pe_str (nomark _))))
  (pss_cons (ps_set (i := 9) sc_rest_of.nd rfl (Or.inl rfl) (pe_lst pa_nil))
  (pss_cons (ps_for (passes_of rfl) rfl (pi_tup (pe_tup (pa_cons pe_str (pa_cons pe_str pa_nil)))) (pg_name (i := 10) sc_rest_of.nd rfl (Or.inl rfl)) (pss_one (ps_if (pt_val (pe_cl q_may_go hr (by omega) (by rfl) (pasX (takes_of rfl rfl rfl rfl)) (pa_cons (pv 10) (pa_cons (pv 4) (pa_cons (pv 5) (pa_cons (pv 6) (pa_cons (pv 7) (pa_cons (pv 2) pa_nil)))))))) (pss_cons (ps_set (i := 11) sc_rest_of.nd rfl (Or.inl rfl) (pe_cl q_left_behind hr (by omega) (by rfl) (pasX (takes_of rfl rfl rfl rfl)) (pa_cons (pv 10) (pa_cons (pv 4) (pa_cons (pv 5) (pa_cons (pv 6) (pa_cons (pv 7) pa_nil)))))))
  (pss_one (ps_expr (pe_bm PySem.F.plainAttrs_list PySem.F.slot_list_append PySem.F.type_list_append mt_append (pv 9) (pa_cons (pe_op op_plus (pe_cl q_cost_of hr (by omega) (by rfl) (pasX (takes_of rfl rfl rfl rfl)) (pa_cons (pv 8) (pa_cons (pv 10) pa_nil))) (pe_cl q_rest_of hr (by omega) (by rfl) (pasX (takes_of rfl rfl rfl rfl)) (pa_cons (pv 0) (pa_cons (pv 11) (pa_cons (pv 2) (pa_cons (pv 3) pa_nil)))))) pa_nil))))) pss_nil)))
  (pss_cons (ps_dput (hu_of hr) (pv 3) (pv 1) (pe_callB (cr_min rfl) (by rfl) T.b_min (by decide +kernel) (pa_cons (pv 9) pa_nil)) rfl)
  (pss_one (ps_ret (pe_dget (hu_of hr) (pv 3) (pv 1) (fun _ _ => rfl)))))))))))
theorem ok_best {f : Addr} {fd : FuncData} (F : Fun K "best" "best" st_best f fd) (T : Tx K mg A) (q_ask_levels : Cl P w K mg base 2 "ask_levels" ["levels"] (spD K (Φ_ask_levels A))) (q_may_go : Cl P w K mg base 2 "may_go" ["side", "ups", "downs", "last", "run", "patience"] (spD K (Φ_may_go A))) (q_left_behind : Cl P w K mg base 2 "left_behind" ["side", "ups", "downs", "last", "run"] (spD K (Φ_left_behind A))) (q_cost_of : Cl P w K mg base 2 "cost_of" ["levels", "side"] (spD K (Φ_cost_of A))) (q_rest_of : Cl P w K mg base 20 "rest_of" ["many", "stand", "patience", "known"] (spD K (Φ_rest_of A))) (q_behind : Cl P w K mg base 2 "behind" ["levels", "side"] (spD K (Φ_behind A))) : FnOk P w K mg base (L2.CX P w) 21 f fd ["levels", "ups", "downs", "patience"] (spD K (Φ_best A)) :=
  cl_of (t_best K A) F sc_best (by intro ds R N M h; first | (obtain ⟨rfl, _⟩ := h; rfl) | (obtain ⟨_, rfl, _⟩ := h; rfl) | (obtain ⟨_, _, rfl, _⟩ := h; rfl) | (obtain ⟨_, _, _, rfl, _⟩ := h; rfl) | (obtain ⟨_, _, _, _, rfl, _⟩ := h; rfl) | (obtain ⟨_, _, _, _, _, rfl, _⟩ := h; rfl) | (obtain ⟨_, _, _, _, _, _, rfl, _⟩ := h; rfl) | (obtain ⟨_, _, _, _, _, _, _, rfl, _⟩ := h; rfl) | (obtain ⟨_, _, _, _, _, _, _, _, rfl, _⟩ := h; rfl) | (obtain ⟨_, _, _, _, _, _, _, _, _, rfl, _⟩ := h; rfl)) s_best fun cdv Ar outer s H E hr =>
  (pss_cons (ps_expr (pe_cl q_ask_levels hr (by decide) (by rfl) (pasX (takes_of rfl rfl rfl rfl)) (pa_cons (pv 0) pa_nil)))
  (pss_cons (ps_set (i := 4) sc_best.nd rfl (Or.inl rfl) pe_dnewT)
  (pss_cons (ps_set (i := 5) sc_best.nd rfl (Or.inl rfl) (pe_lst pa_nil))
  (pss_cons (ps_set (i := 6) sc_best.nd rfl (Or.inl rfl) (pe_tup (pa_cons (pv 1) (pa_cons (pv 2) (pa_cons pe_str (pa_cons pe_int pa_nil))))))
  (pss_cons (ps_while (passes_of rfl) (pt_cmpR op_gt (pe_op op_plus (pe_ix ix_seq (pv 6) pe_int (fun _ _ => rfl)) (pe_ix ix_seq (pv 6) pe_int (fun _ _ => rfl))) pe_int (nomark _)) (pss_cons (ps_set (i := 7) sc_best.nd rfl (Or.inl rfl) (pe_lst pa_nil))
  (pss_cons (ps_for (passes_of rfl) rfl (pi_tup (pe_tup (pa_cons pe_str (pa_cons pe_str pa_nil)))) (pg_name (i := 8) sc_best.nd rfl (Or.inl rfl)) (pss_one (ps_if (pt_val (pe_cl q_may_go hr (by decide) (by rfl) (pasX (takes_of rfl rfl rfl rfl)) (pa_cons (pv 8) (pa_cons (pe_ix ix_seq (pv 6) pe_int (fun _ _ => rfl)) (pa_cons (pe_ix ix_seq (pv 6) pe_int (fun _ _ => rfl)) (pa_cons (pe_ix ix_seq (pv 6) pe_int (fun _ _ => rfl)) (pa_cons (pe_ix ix_seq (pv 6) pe_int (fun _ _ => rfl)) (pa_cons (pv 3) pa_nil)))))))) (pss_cons (ps_set (i := 9) sc_best.nd rfl (Or.inl rfl) (pe_cl q_left_behind hr (by decide) (by rfl) (pasX (takes_of rfl rfl rfl rfl)) (pa_cons (pv 8) (pa_cons (pe_ix ix_seq (pv 6) pe_int (fun _ _ => rfl)) (pa_cons (pe_ix ix_seq (pv 6) pe_int (fun _ _ => rfl)) (pa_cons (pe_ix ix_seq (pv 6) pe_int (fun _ _ => rfl)) (pa_cons (pe_ix ix_seq (pv 6) pe_int (fun _ _ => rfl)) pa_nil)))))))
  (pss_cons (ps_set (i := 10) sc_best.nd rfl (Or.inl rfl) (pe_op op_plus (pe_cl q_cost_of hr (by decide) (by rfl) (pasX (takes_of rfl rfl rfl rfl)) (pa_cons (pv 0) (pa_cons (pv 8) pa_nil))) (pe_cl q_rest_of hr (by decide) (by rfl) (pasX (takes_of rfl rfl rfl rfl)) (pa_cons (pe_callB call_len (by rfl) T.b_len (by decide +kernel) (pa_cons (pv 0) pa_nil)) (pa_cons (pv 9) (pa_cons (pv 3) (pa_cons (pv 4) pa_nil)))))))
  (pss_one (ps_expr (pe_bm PySem.F.plainAttrs_list PySem.F.slot_list_append PySem.F.type_list_append mt_append (pv 7) (pa_cons (pe_tup (pa_cons (pv 10) (pa_cons (pv 8) (pa_cons (pv 9) pa_nil)))) pa_nil)))))) pss_nil)))
  (pss_cons (ps_set (i := 11) sc_best.nd rfl (Or.inr rfl) (pe_callB (cr_min rfl) (by rfl) T.b_min (by decide +kernel) (pa_cons (pe_lc (own := [("row", 13)]) (g := gName 13) rfl sc_best.nd (pi_list (pv 7)) (blkOk_by (own := [("row", 13)]) (N := N_best) (sc := defScope st_best) (by decide +kernel)) (fun _ _ _ _ _ => pg_name (i := 13) sc_best.nd rfl (Or.inl rfl)) (fun _ _ _ _ _ => pts_nil) (fun _ _ _ _ _ => (pe_ix ix_seq (pv 13) pe_int (fun _ _ => rfl)))) pa_nil)))
  (pss_cons (ps_set (i := 12) sc_best.nd rfl (Or.inl rfl) (pe_ix ix_seq (pe_lc (own := [("row", 13)]) (g := gName 13) rfl sc_best.nd (pi_list (pv 7)) (blkOk_by (own := [("row", 13)]) (N := N_best) (sc := defScope st_best) (by decide +kernel)) (fun _ _ _ _ _ => pg_name (i := 13) sc_best.nd rfl (Or.inl rfl)) (fun _ _ _ _ _ => (pts_one (pt_cmpR (op_eqP hr.units) (pe_ix ix_seq (pv 13) pe_int (fun _ _ => rfl)) (pv 11) (nomark _)))) (fun _ _ _ _ _ => (pv 13))) pe_int (fun _ _ => rfl)))
  (pss_cons (ps_expr (pe_bm PySem.F.plainAttrs_list PySem.F.slot_list_append PySem.F.type_list_append mt_append (pv 5) (pa_cons (pe_ix ix_seq (pv 12) pe_int (fun _ _ => rfl)) pa_nil)))
  (pss_cons (ps_set (i := 0) sc_best.nd rfl (Or.inl rfl) (pe_cl q_behind hr (by decide) (by rfl) (pasX (takes_of rfl rfl rfl rfl)) (pa_cons (pv 0) (pa_cons (pe_ix ix_seq (pv 12) pe_int (fun _ _ => rfl)) pa_nil))))
  (pss_one (ps_set (i := 6) sc_best.nd rfl (Or.inl rfl) (pe_ix ix_seq (pv 12) pe_int (fun _ _ => rfl)))))))))))
  (pss_one (ps_ret (pv 5))))))))
theorem ok_law_cell_at {f : Addr} {fd : FuncData} (F : Fun K "_law_cell_at" "_law_cell_at" st_law_cell_at f fd) (T : Tx K mg A)  : FnOk P w K mg base (L2.CX P w) 2 f fd ["script", "k"] (spD K (Φ_law_cell_at A)) :=
  cl_of (t_law_cell_at K A) F sc_law_cell_at (by intro ds R N M h; first | (obtain ⟨rfl, _⟩ := h; rfl) | (obtain ⟨_, rfl, _⟩ := h; rfl) | (obtain ⟨_, _, rfl, _⟩ := h; rfl) | (obtain ⟨_, _, _, rfl, _⟩ := h; rfl) | (obtain ⟨_, _, _, _, rfl, _⟩ := h; rfl) | (obtain ⟨_, _, _, _, _, rfl, _⟩ := h; rfl) | (obtain ⟨_, _, _, _, _, _, rfl, _⟩ := h; rfl) | (obtain ⟨_, _, _, _, _, _, _, rfl, _⟩ := h; rfl) | (obtain ⟨_, _, _, _, _, _, _, _, rfl, _⟩ := h; rfl) | (obtain ⟨_, _, _, _, _, _, _, _, _, rfl, _⟩ := h; rfl)) s_law_cell_at fun cdv Ar outer s H E hr =>
  (pss_cons (ps_if (pt_cmpR op_lt (pv 1) (pe_callB call_len (by rfl) T.b_len (by decide +kernel) (pa_cons (pv 0) pa_nil)) (nomark _)) (pss_one (ps_ret (pe_ix ix_seq (pv 0) (pv 1) (fun _ _ => rfl)))) pss_nil)
  (pss_one (ps_ret pe_int)))
theorem ok_law_order {f : Addr} {fd : FuncData} (F : Fun K "_law_order" "_law_order" st_law_order f fd) (T : Tx K mg A) (q_law_cell_at : Cl P w K mg base 2 "_law_cell_at" ["script", "k"] (spD K (Φ_law_cell_at A))) : FnOk P w K mg base (L2.CX P w) 3 f fd ["script", "start", "size"] (spD K (Φ_law_order A)) :=
  cl_of (t_law_order K A) F sc_law_order (by intro ds R N M h; first | (obtain ⟨rfl, _⟩ := h; rfl) | (obtain ⟨_, rfl, _⟩ := h; rfl) | (obtain ⟨_, _, rfl, _⟩ := h; rfl) | (obtain ⟨_, _, _, rfl, _⟩ := h; rfl) | (obtain ⟨_, _, _, _, rfl, _⟩ := h; rfl) | (obtain ⟨_, _, _, _, _, rfl, _⟩ := h; rfl) | (obtain ⟨_, _, _, _, _, _, rfl, _⟩ := h; rfl) | (obtain ⟨_, _, _, _, _, _, _, rfl, _⟩ := h; rfl) | (obtain ⟨_, _, _, _, _, _, _, _, rfl, _⟩ := h; rfl) | (obtain ⟨_, _, _, _, _, _, _, _, _, rfl, _⟩ := h; rfl)) s_law_order fun cdv Ar outer s H E hr =>
  (pss_one (ps_ret (pe_lc (own := [("k", 3)]) (g := gName 3) rfl sc_law_order.nd (pi_range1 (by rfl) T.b_range (pa_cons (pv 2) pa_nil)) (blkOk_by (own := [("k", 3)]) (N := N_law_order) (sc := defScope st_law_order) (by decide +kernel)) (fun _ _ _ _ _ => pg_name (i := 3) sc_law_order.nd rfl (Or.inl rfl)) (fun _ _ _ _ _ => pts_nil) (fun _ _ _ _ _ => (pe_ix ix_seq (pe_lst (pa_cons pe_str (pa_cons pe_str pa_nil))) (pe_op op_mod (pe_op op_fdiv (pe_cl q_law_cell_at hr (by decide) (by rfl) pasN (pa_cons (pv 0) (pa_cons (pe_op op_plus (pv 1) (pv 3)) pa_nil))) pe_int) pe_int) (fun _ _ => rfl))))))
theorem ok_law_refused {f : Addr} {fd : FuncData} (F : Fun K "_law_refused" "_law_refused" st_law_refused f fd) (T : Tx K mg A) (q_cost : Cl P w K mg base 3 "cost" ["levels", "order"] (spD K (Φ_cost A))) (q_plan : Cl P w K mg base 5 "plan" ["levels", "order"] (spD K (Φ_plan A))) (q_best : Cl P w K mg base 21 "best" ["levels", "ups", "downs", "patience"] (spD K (Φ_best A))) : FnOk P w K mg base (L2.CX P w) 22 f fd ["way", "levels", "order", "patience"] (spD K (Φ_law_refused A)) :=
  cl_of (t_law_refused K A) F sc_law_refused (by intro ds R N M h; first | (obtain ⟨rfl, _⟩ := h; rfl) | (obtain ⟨_, rfl, _⟩ := h; rfl) | (obtain ⟨_, _, rfl, _⟩ := h; rfl) | (obtain ⟨_, _, _, rfl, _⟩ := h; rfl) | (obtain ⟨_, _, _, _, rfl, _⟩ := h; rfl) | (obtain ⟨_, _, _, _, _, rfl, _⟩ := h; rfl) | (obtain ⟨_, _, _, _, _, _, rfl, _⟩ := h; rfl) | (obtain ⟨_, _, _, _, _, _, _, rfl, _⟩ := h; rfl) | (obtain ⟨_, _, _, _, _, _, _, _, rfl, _⟩ := h; rfl) | (obtain ⟨_, _, _, _, _, _, _, _, _, rfl, _⟩ := h; rfl)) (s_law_refused T.m_bf_bf T.i_bf_le T.i_bf_ng T.i_bf_bt) fun cdv Ar outer s H E hr =>
  (pss_cons (ps_set (i := 4) sc_law_refused.nd rfl (Or.inl rfl) pe_bl)
  (pss_cons (ps_try_as (i := 5) (tb := fun W => (tIfS (tTest (tOp (rEqP K) (tVar 0) (tC (.int 0)))) (tDrop (tCallS (spD K (Φ_cost A)) (WE W) (tCons (tVar 1) (tCons (tVar 2) tNil)))) (tIfS (tTest (tOp (rEqP K) (tVar 0) (tC (.int 1)))) (tDrop (tCallS (spD K (Φ_plan A)) (WE W) (tCons (tVar 1) (tCons (tVar 2) tNil)))) (tDrop (tCallS (spD K (Φ_best A)) (WE W) (tCons (tVar 1) (tCons (tCB (rLen K) (tCons (tVar 2) tNil)) (tCons (tC (.int 2)) (tCons (tVar 3) tNil))))))))) (ts := (fun aE cE xE => tG (cE = .ref A.bf ∧ xE = none) (tAsg (tAndV (tCB (rIsE K A.bf aE) (tCons (tVar 5) (tCons (tC (.ref A.le)) tNil))) (tAndV (tNotV (tCB (rIsE K A.bf aE) (tCons (tVar 5) (tCons (tC (.ref A.ng)) tNil)))) (tNotV (tCB (rIsE K A.bf aE) (tCons (tVar 5) (tCons (tC (.ref A.bt)) tNil)))))) (gName 4)))) (Wout := (fun cls d _ H => E cls d H)) rfl rfl sc_law_refused.nd rfl rfl ⟨by rfl, by decide, Or.inl T.g_bf⟩ (takes_of rfl rfl rfl rfl)
    (fun W pn xe0 tk xe => (pss_one (ps_if (pt_cmpR (op_eqP hr.units) (pv 0) pe_int (nomark _)) (pss_one (ps_expr (pe_cl q_cost hr (by decide) (by rfl) (pasT tk) (pa_cons (pv 1) (pa_cons (pv 2) pa_nil))))) (pss_one (ps_if (pt_cmpR (op_eqP hr.units) (pv 0) pe_int (nomark _)) (pss_one (ps_expr (pe_cl q_plan hr (by decide) (by rfl) (pasT tk) (pa_cons (pv 1) (pa_cons (pv 2) pa_nil))))) (pss_one (ps_expr (pe_cl q_best hr (by decide) (by rfl) (pasT tk) (pa_cons (pv 1) (pa_cons (pe_callB call_len (by rfl) T.b_len (by decide +kernel) (pa_cons (pv 2) pa_nil)) (pa_cons pe_int (pa_cons (pv 3) pa_nil))))))))))))
    (fun aE oE cE xE pnE hzE0 hfE => pss_g fun hpE => (fun hzE => (pss_one (ps_set (i := 4) sc_law_refused.nd rfl (Or.inl rfl) (pe_and (pe_callB (call_isE T.e_bf hzE hfE) (by rfl) T.b_isinstance (by decide +kernel) (pa_cons (pv 5) (pa_cons (pe_glob (v := .ref A.le) (by rfl) T.g_le rfl) pa_nil))) (pe_and (pe_not (pe_callB (call_isE T.e_bf hzE hfE) (by rfl) T.b_isinstance (by decide +kernel) (pa_cons (pv 5) (pa_cons (pe_glob (v := .ref A.ng) (by rfl) T.g_ng rfl) pa_nil)))) (pe_one (pe_not (pe_callB (call_isE T.e_bf hzE hfE) (by rfl) T.b_isinstance (by decide +kernel) (pa_cons (pv 5) (pa_cons (pe_glob (v := .ref A.bt) (by rfl) T.g_bt rfl) pa_nil)))))))))) (zc_of hpE hzE0)))
  (pss_one (ps_ret (pv 4)))))
theorem ok_law {f : Addr} {fd : FuncData} (F : Fun K "law" "law" st_law f fd) (T : Tx K mg A) (q_law_cell_at : Cl P w K mg base 2 "_law_cell_at" ["script", "k"] (spD K (Φ_law_cell_at A))) (q_law_order : Cl P w K mg base 3 "_law_order" ["script", "start", "size"] (spD K (Φ_law_order A))) (q_law_refused : Cl P w K mg base 22 "_law_refused" ["way", "levels", "order", "patience"] (spD K (Φ_law_refused A))) : FnOk P w K mg base (L2.CX P w) 23 f fd ["script"] (spD K (Φ_law A)) :=
  cl_of (t_law K A) F sc_law (by intro ds R N M h; first | (obtain ⟨rfl, _⟩ := h; rfl) | (obtain ⟨_, rfl, _⟩ := h; rfl) | (obtain ⟨_, _, rfl, _⟩ := h; rfl) | (obtain ⟨_, _, _, rfl, _⟩ := h; rfl) | (obtain ⟨_, _, _, _, rfl, _⟩ := h; rfl) | (obtain ⟨_, _, _, _, _, rfl, _⟩ := h; rfl) | (obtain ⟨_, _, _, _, _, _, rfl, _⟩ := h; rfl) | (obtain ⟨_, _, _, _, _, _, _, rfl, _⟩ := h; rfl) | (obtain ⟨_, _, _, _, _, _, _, _, rfl, _⟩ := h; rfl) | (obtain ⟨_, _, _, _, _, _, _, _, _, rfl, _⟩ := h; rfl)) s_law fun cdv Ar outer s H E hr =>
  (pss_cons (ps_set (i := 1) sc_law.nd rfl (Or.inl rfl) (pe_op op_plus pe_int (pe_op op_mod (pe_op op_fdiv (pe_cl q_law_cell_at hr (by decide) (by rfl) (pasX (takes_of rfl rfl rfl rfl)) (pa_cons (pv 0) (pa_cons pe_int pa_nil))) pe_int) pe_int)))
  (pss_cons (ps_if (pt_cmpR (op_eqP hr.units) (pe_op op_mod (pe_cl q_law_cell_at hr (by decide) (by rfl) (pasX (takes_of rfl rfl rfl rfl)) (pa_cons (pv 0) (pa_cons pe_int pa_nil))) pe_int) pe_int (nomark _)) (pss_one (ps_set (i := 1) sc_law.nd rfl (Or.inl rfl) pe_int)) pss_nil)
  (pss_cons (ps_setLc (i := 2) (own := [("k", 6)]) (g := gName 6) rfl sc_law.nd rfl rfl (sw_true rfl rfl rfl (by decide +kernel)) (pi_range1 (by rfl) T.b_range (pa_cons (pv 1) pa_nil)) (blkOk_by (own := [("k", 6)]) (N := N_law) (sc := defScope st_law) (by decide +kernel)) (fun _ _ _ _ _ => pg_name (i := 6) sc_law.nd rfl (Or.inl rfl)) (fun _ _ _ _ _ => pts_nil) (fun _ _ _ _ _ => (pe_cmpR (op_eqP hr.units) (pe_op op_mod (pe_op op_fdiv (pe_cl q_law_cell_at hr (by decide) (by rfl) pasN (pa_cons (pv 0) (pa_cons pe_int pa_nil))) (pe_ix ix_seq (pe_lst (pa_cons pe_int (pa_cons pe_int (pa_cons pe_int (pa_cons pe_int (pa_cons pe_int (pa_cons pe_int (pa_cons pe_int (pa_cons pe_int pa_nil))))))))) (pe_op op_mod (pv 6) pe_int) (fun _ _ => rfl))) pe_int) pe_int (nomark _))))
  (pss_cons (ps_set (i := 3) sc_law.nd rfl (Or.inl rfl) (pe_cl q_law_order hr (by decide) (by rfl) (pasX (takes_of rfl rfl rfl rfl)) (pa_cons (pv 0) (pa_cons pe_int (pa_cons (pe_op op_mod (pe_cl q_law_cell_at hr (by decide) (by rfl) (pasX (takes_of rfl rfl rfl rfl)) (pa_cons (pv 0) (pa_cons pe_int pa_nil))) pe_int) pa_nil)))))
  (pss_cons (ps_set (i := 4) sc_law.nd rfl (Or.inl rfl) (pe_op op_plus pe_int (pe_op op_mod (pe_cl q_law_cell_at hr (by decide) (by rfl) (pasX (takes_of rfl rfl rfl rfl)) (pa_cons (pv 0) (pa_cons pe_int pa_nil))) pe_int)))
  (pss_cons (ps_for (passes_of rfl) rfl (pi_range1 (by rfl) T.b_range (pa_cons pe_int pa_nil)) (pg_name (i := 5) sc_law.nd rfl (Or.inl rfl)) (pss_cons (ps_if (pt_not (pt_val (pe_cl q_law_refused hr (by decide) (by rfl) (pasX (takes_of rfl rfl rfl rfl)) (pa_cons (pv 5) (pa_cons (pe_callTy call_list_of (by rfl) T.b_list (by decide +kernel) (pa_cons (pv 2) pa_nil)) (pa_cons (pe_callTy call_list_of (by rfl) T.b_list (by decide +kernel) (pa_cons (pv 3) pa_nil)) (pa_cons (pv 4) pa_nil))))))) (pss_one (ps_ret pe_bl)) pss_nil)
  (pss_one (ps_if (pt_val (pe_cl q_law_refused hr (by decide) (by rfl) (pasX (takes_of rfl rfl rfl rfl)) (pa_cons (pv 5) (pa_cons (pe_lst (pa_cons pe_bl (pa_cons pe_bl pa_nil))) (pa_cons (pe_callTy call_list_of (by rfl) T.b_list (by decide +kernel) (pa_cons (pv 3) pa_nil)) (pa_cons (pv 4) pa_nil)))))) (pss_one (ps_ret pe_bl)) pss_nil))))
  (pss_one (ps_ret pe_bl))))))))
end
theorem all_mk {l : PySem.W.OpenLaw} {w : World} {K : PySem.W.Frag} {h : Heap} {mg : Str → Option Value} {fa : Addr} (X : K.In h) (G : h.Ns mainGlobals mg) (hfa : mg "law" = some (.ref fa))
    {t_MOST_CHAMBERS : Tok} {c_bf : Addr} {c_le : Addr} {c_ng : Addr} {c_bt : Addr}
    {f0 : Addr} {od0 an0 : Option Addr} {sl0 : Array (Option Value)} {oc0 kV0 dc0 pm0 cd0 ct0 : Value}
    {f1 : Addr} {od1 an1 : Option Addr} {sl1 : Array (Option Value)} {oc1 kV1 dc1 pm1 cd1 ct1 : Value}
    {f2 : Addr} {od2 an2 : Option Addr} {sl2 : Array (Option Value)} {oc2 kV2 dc2 pm2 cd2 ct2 : Value}
    {f3 : Addr} {od3 an3 : Option Addr} {sl3 : Array (Option Value)} {oc3 kV3 dc3 pm3 cd3 ct3 : Value}
    {f4 : Addr} {od4 an4 : Option Addr} {sl4 : Array (Option Value)} {oc4 kV4 dc4 pm4 cd4 ct4 : Value}
    {f5 : Addr} {od5 an5 : Option Addr} {sl5 : Array (Option Value)} {oc5 kV5 dc5 pm5 cd5 ct5 : Value}
    {f6 : Addr} {od6 an6 : Option Addr} {sl6 : Array (Option Value)} {oc6 kV6 dc6 pm6 cd6 ct6 : Value}
    {f7 : Addr} {od7 an7 : Option Addr} {sl7 : Array (Option Value)} {oc7 kV7 dc7 pm7 cd7 ct7 : Value}
    {f8 : Addr} {od8 an8 : Option Addr} {sl8 : Array (Option Value)} {oc8 kV8 dc8 pm8 cd8 ct8 : Value}
    {f9 : Addr} {od9 an9 : Option Addr} {sl9 : Array (Option Value)} {oc9 kV9 dc9 pm9 cd9 ct9 : Value}
    {f10 : Addr} {od10 an10 : Option Addr} {sl10 : Array (Option Value)} {oc10 kV10 dc10 pm10 cd10 ct10 : Value}
    {f11 : Addr} {od11 an11 : Option Addr} {sl11 : Array (Option Value)} {oc11 kV11 dc11 pm11 cd11 ct11 : Value}
    {f12 : Addr} {od12 an12 : Option Addr} {sl12 : Array (Option Value)} {oc12 kV12 dc12 pm12 cd12 ct12 : Value}
    {f13 : Addr} {od13 an13 : Option Addr} {sl13 : Array (Option Value)} {oc13 kV13 dc13 pm13 cd13 ct13 : Value}
    {f14 : Addr} {od14 an14 : Option Addr} {sl14 : Array (Option Value)} {oc14 kV14 dc14 pm14 cd14 ct14 : Value}
    {f15 : Addr} {od15 an15 : Option Addr} {sl15 : Array (Option Value)} {oc15 kV15 dc15 pm15 cd15 ct15 : Value}
    {f16 : Addr} {od16 an16 : Option Addr} {sl16 : Array (Option Value)} {oc16 kV16 dc16 pm16 cd16 ct16 : Value}
    {f17 : Addr} {od17 an17 : Option Addr} {sl17 : Array (Option Value)} {oc17 kV17 dc17 pm17 cd17 ct17 : Value}
    {f18 : Addr} {od18 an18 : Option Addr} {sl18 : Array (Option Value)} {oc18 kV18 dc18 pm18 cd18 ct18 : Value}
    (x_b_len : PySem.W.nsIn K mainGlobals "len" = some none)
    (x_c_MOST_CHAMBERS : PySem.W.nsIn K mainGlobals "MOST_CHAMBERS" = some (some (.int 8 t_MOST_CHAMBERS)))
    (x_g_bf : PySem.W.nsIn K mainGlobals "BadFlight" = some (some (.ref c_bf)))
    (x_x_bf : PySem.W.excIn K c_bf [.type "ValueError", .type "Exception", .type "BaseException", .type "object"] "ValueError.__new__" = true)
    (x_k_bf : PySem.W.keepIn K (.ref c_bf) = true)
    (x_s_bf : PySem.W.subIn K (.ref c_bf) (.type "BaseException") = some true)
    (x_t_bf : PySem.W.typeIn K (.ref c_bf) = some (.type "type"))
    (x_b_int : PySem.W.nsIn K mainGlobals "int" = some none)
    (x_b_reversed : PySem.W.nsIn K mainGlobals "reversed" = some none)
    (x_b_range : PySem.W.nsIn K mainGlobals "range" = some none)
    (x_b_list : PySem.W.nsIn K mainGlobals "list" = some none)
    (x_b_min : PySem.W.nsIn K mainGlobals "min" = some none)
    (x_e0_bf : PySem.W.findIn K (.ref c_bf) "__getattribute__" = some (some (.builtin "BaseException.__getattribute__")))
    (x_e1_bf : PySem.W.findIn K (.ref c_bf) "__getattr__" = some none)
    (x_h_bf : PySem.W.hasDictIn K c_bf = true)
    (x_e4_bf : PySem.W.findIn K (.ref c_bf) "__class__" = some (some (.builtin "object.__class__")))
    (x_en : PySem.W.specialIn K (.builtin "object.__class__") "__get__" = some (some (.builtin "getset_descriptor.__get__")))
    (x_et : PySem.W.takesIn K (.builtin "object.__class__") = some true)
    (x_e7_bf : PySem.W.mroIn K c_bf (.type "object") = some true)
    (x_b_isinstance : PySem.W.nsIn K mainGlobals "isinstance" = some none)
    (x_g_le : PySem.W.nsIn K mainGlobals "LockError" = some (some (.ref c_le)))
    (x_g_ng : PySem.W.nsIn K mainGlobals "NoGate" = some (some (.ref c_ng)))
    (x_g_bt : PySem.W.nsIn K mainGlobals "BadText" = some (some (.ref c_bt)))
    (x_m_bf_bf : PySem.W.subIn K (.ref c_bf) (.ref c_bf) = some true)
    (x_m_bf_le : PySem.W.subIn K (.ref c_bf) (.ref c_le) = some true)
    (x_h_le : PySem.W.hasDictIn K c_le = true)
    (x_t_le : PySem.W.typeIn K (.ref c_le) = some (.type "type"))
    (x_m_bf_ng : PySem.W.subIn K (.ref c_bf) (.ref c_ng) = some false)
    (x_h_ng : PySem.W.hasDictIn K c_ng = true)
    (x_t_ng : PySem.W.typeIn K (.ref c_ng) = some (.type "type"))
    (x_m_bf_bt : PySem.W.subIn K (.ref c_bf) (.ref c_bt) = some false)
    (x_h_bt : PySem.W.hasDictIn K c_bt = true)
    (x_t_bt : PySem.W.typeIn K (.ref c_bt) = some (.type "type"))
    (a0 : PySem.W.nsIn K mainGlobals "ask_levels" = some (some (.ref f0)))
    (l0 : K.lookup f0 = some ⟨oc0, od0, .func (PySem.W.fnOf "ask_levels" "ask_levels" (defArgs st_ask_levels) (defBody st_ask_levels) (defScope st_ask_levels) .none kV0 dc0 pm0 an0 cd0 ct0), sl0⟩)
    (c0 : PySem.W.codeIn K cd0 "ask_levels" = true)
    (k0 : PySem.W.keepIn K (.ref f0) = true)
    (a1 : PySem.W.nsIn K mainGlobals "cost_of" = some (some (.ref f1)))
    (l1 : K.lookup f1 = some ⟨oc1, od1, .func (PySem.W.fnOf "cost_of" "cost_of" (defArgs st_cost_of) (defBody st_cost_of) (defScope st_cost_of) .none kV1 dc1 pm1 an1 cd1 ct1), sl1⟩)
    (c1 : PySem.W.codeIn K cd1 "cost_of" = true)
    (k1 : PySem.W.keepIn K (.ref f1) = true)
    (a2 : PySem.W.nsIn K mainGlobals "behind" = some (some (.ref f2)))
    (l2 : K.lookup f2 = some ⟨oc2, od2, .func (PySem.W.fnOf "behind" "behind" (defArgs st_behind) (defBody st_behind) (defScope st_behind) .none kV2 dc2 pm2 an2 cd2 ct2), sl2⟩)
    (c2 : PySem.W.codeIn K cd2 "behind" = true)
    (k2 : PySem.W.keepIn K (.ref f2) = true)
    (a3 : PySem.W.nsIn K mainGlobals "cost" = some (some (.ref f3)))
    (l3 : K.lookup f3 = some ⟨oc3, od3, .func (PySem.W.fnOf "cost" "cost" (defArgs st_cost) (defBody st_cost) (defScope st_cost) .none kV3 dc3 pm3 an3 cd3 ct3), sl3⟩)
    (c3 : PySem.W.codeIn K cd3 "cost" = true)
    (k3 : PySem.W.keepIn K (.ref f3) = true)
    (a4 : PySem.W.nsIn K mainGlobals "filled" = some (some (.ref f4)))
    (l4 : K.lookup f4 = some ⟨oc4, od4, .func (PySem.W.fnOf "filled" "filled" (defArgs st_filled) (defBody st_filled) (defScope st_filled) .none kV4 dc4 pm4 an4 cd4 ct4), sl4⟩)
    (c4 : PySem.W.codeIn K cd4 "filled" = true)
    (k4 : PySem.W.keepIn K (.ref f4) = true)
    (a5 : PySem.W.nsIn K mainGlobals "emptied" = some (some (.ref f5)))
    (l5 : K.lookup f5 = some ⟨oc5, od5, .func (PySem.W.fnOf "emptied" "emptied" (defArgs st_emptied) (defBody st_emptied) (defScope st_emptied) .none kV5 dc5 pm5 an5 cd5 ct5), sl5⟩)
    (c5 : PySem.W.codeIn K cd5 "emptied" = true)
    (k5 : PySem.W.keepIn K (.ref f5) = true)
    (a6 : PySem.W.nsIn K mainGlobals "let_all" = some (some (.ref f6)))
    (l6 : K.lookup f6 = some ⟨oc6, od6, .func (PySem.W.fnOf "let_all" "let_all" (defArgs st_let_all) (defBody st_let_all) (defScope st_let_all) .none kV6 dc6 pm6 an6 cd6 ct6), sl6⟩)
    (c6 : PySem.W.codeIn K cd6 "let_all" = true)
    (k6 : PySem.W.keepIn K (.ref f6) = true)
    (a7 : PySem.W.nsIn K mainGlobals "put" = some (some (.ref f7)))
    (l7 : K.lookup f7 = some ⟨oc7, od7, .func (PySem.W.fnOf "put" "put" (defArgs st_put) (defBody st_put) (defScope st_put) .none kV7 dc7 pm7 an7 cd7 ct7), sl7⟩)
    (c7 : PySem.W.codeIn K cd7 "put" = true)
    (k7 : PySem.W.keepIn K (.ref f7) = true)
    (a8 : PySem.W.nsIn K mainGlobals "passage_up" = some (some (.ref f8)))
    (l8 : K.lookup f8 = some ⟨oc8, od8, .func (PySem.W.fnOf "passage_up" "passage_up" (defArgs st_passage_up) (defBody st_passage_up) (defScope st_passage_up) .none kV8 dc8 pm8 an8 cd8 ct8), sl8⟩)
    (c8 : PySem.W.codeIn K cd8 "passage_up" = true)
    (k8 : PySem.W.keepIn K (.ref f8) = true)
    (a9 : PySem.W.nsIn K mainGlobals "passage_down" = some (some (.ref f9)))
    (l9 : K.lookup f9 = some ⟨oc9, od9, .func (PySem.W.fnOf "passage_down" "passage_down" (defArgs st_passage_down) (defBody st_passage_down) (defScope st_passage_down) .none kV9 dc9 pm9 an9 cd9 ct9), sl9⟩)
    (c9 : PySem.W.codeIn K cd9 "passage_down" = true)
    (k9 : PySem.W.keepIn K (.ref f9) = true)
    (a10 : PySem.W.nsIn K mainGlobals "plan" = some (some (.ref f10)))
    (l10 : K.lookup f10 = some ⟨oc10, od10, .func (PySem.W.fnOf "plan" "plan" (defArgs st_plan) (defBody st_plan) (defScope st_plan) .none kV10 dc10 pm10 an10 cd10 ct10), sl10⟩)
    (c10 : PySem.W.codeIn K cd10 "plan" = true)
    (k10 : PySem.W.keepIn K (.ref f10) = true)
    (a11 : PySem.W.nsIn K mainGlobals "may_go" = some (some (.ref f11)))
    (l11 : K.lookup f11 = some ⟨oc11, od11, .func (PySem.W.fnOf "may_go" "may_go" (defArgs st_may_go) (defBody st_may_go) (defScope st_may_go) .none kV11 dc11 pm11 an11 cd11 ct11), sl11⟩)
    (c11 : PySem.W.codeIn K cd11 "may_go" = true)
    (k11 : PySem.W.keepIn K (.ref f11) = true)
    (a12 : PySem.W.nsIn K mainGlobals "left_behind" = some (some (.ref f12)))
    (l12 : K.lookup f12 = some ⟨oc12, od12, .func (PySem.W.fnOf "left_behind" "left_behind" (defArgs st_left_behind) (defBody st_left_behind) (defScope st_left_behind) .none kV12 dc12 pm12 an12 cd12 ct12), sl12⟩)
    (c12 : PySem.W.codeIn K cd12 "left_behind" = true)
    (k12 : PySem.W.keepIn K (.ref f12) = true)
    (a13 : PySem.W.nsIn K mainGlobals "rest_of" = some (some (.ref f13)))
    (l13 : K.lookup f13 = some ⟨oc13, od13, .func (PySem.W.fnOf "rest_of" "rest_of" (defArgs st_rest_of) (defBody st_rest_of) (defScope st_rest_of) .none kV13 dc13 pm13 an13 cd13 ct13), sl13⟩)
    (c13 : PySem.W.codeIn K cd13 "rest_of" = true)
    (k13 : PySem.W.keepIn K (.ref f13) = true)
    (a14 : PySem.W.nsIn K mainGlobals "best" = some (some (.ref f14)))
    (l14 : K.lookup f14 = some ⟨oc14, od14, .func (PySem.W.fnOf "best" "best" (defArgs st_best) (defBody st_best) (defScope st_best) .none kV14 dc14 pm14 an14 cd14 ct14), sl14⟩)
    (c14 : PySem.W.codeIn K cd14 "best" = true)
    (k14 : PySem.W.keepIn K (.ref f14) = true)
    (a15 : PySem.W.nsIn K mainGlobals "_law_cell_at" = some (some (.ref f15)))
    (l15 : K.lookup f15 = some ⟨oc15, od15, .func (PySem.W.fnOf "_law_cell_at" "_law_cell_at" (defArgs st_law_cell_at) (defBody st_law_cell_at) (defScope st_law_cell_at) .none kV15 dc15 pm15 an15 cd15 ct15), sl15⟩)
    (c15 : PySem.W.codeIn K cd15 "_law_cell_at" = true)
    (k15 : PySem.W.keepIn K (.ref f15) = true)
    (a16 : PySem.W.nsIn K mainGlobals "_law_order" = some (some (.ref f16)))
    (l16 : K.lookup f16 = some ⟨oc16, od16, .func (PySem.W.fnOf "_law_order" "_law_order" (defArgs st_law_order) (defBody st_law_order) (defScope st_law_order) .none kV16 dc16 pm16 an16 cd16 ct16), sl16⟩)
    (c16 : PySem.W.codeIn K cd16 "_law_order" = true)
    (k16 : PySem.W.keepIn K (.ref f16) = true)
    (a17 : PySem.W.nsIn K mainGlobals "_law_refused" = some (some (.ref f17)))
    (l17 : K.lookup f17 = some ⟨oc17, od17, .func (PySem.W.fnOf "_law_refused" "_law_refused" (defArgs st_law_refused) (defBody st_law_refused) (defScope st_law_refused) .none kV17 dc17 pm17 an17 cd17 ct17), sl17⟩)
    (c17 : PySem.W.codeIn K cd17 "_law_refused" = true)
    (k17 : PySem.W.keepIn K (.ref f17) = true)
    (a18 : PySem.W.nsIn K mainGlobals "law" = some (some (.ref f18)))
    (l18 : K.lookup f18 = some ⟨oc18, od18, .func (PySem.W.fnOf "law" "law" (defArgs st_law) (defBody st_law) (defScope st_law) .none kV18 dc18 pm18 an18 cd18 ct18), sl18⟩)
    (c18 : PySem.W.codeIn K cd18 "law" = true)
    (k18 : PySem.W.keepIn K (.ref f18) = true) :
    ∃ fd : FuncData, (∀ (s : Shared) (v : Value), BindsTo s fd ⟨[v], []⟩ [("script", v)]) ∧ ∀ base : Heap, K.In base → base.Ns mainGlobals mg → FnOk l.prog w K mg base (L2.CX l.prog w) 23 fa fd ["script"] (spD K Φ_top) := by
  have e := hfa.symm.trans (PySem.W.mg_of X G a18)
  cases e
  have T : Tx K mg (⟨0, c_bf, c_ng, 0, 0, 0, 0, 0, c_bt, c_le⟩ : Ad) := {b_len := PySem.W.mg_none_of X G x_b_len, c_MOST_CHAMBERS := ⟨_, PySem.W.mg_of X G x_c_MOST_CHAMBERS, _, rfl⟩, x_bf := x_x_bf, g_bf := PySem.W.mg_of X G x_g_bf, k_bf := x_k_bf, s_bf := x_s_bf, t_bf := x_t_bf, b_int := PySem.W.mg_none_of X G x_b_int, b_reversed := PySem.W.mg_none_of X G x_b_reversed, b_range := PySem.W.mg_none_of X G x_b_range, b_list := PySem.W.mg_none_of X G x_b_list, b_min := PySem.W.mg_none_of X G x_b_min, e_bf := ⟨x_e0_bf, x_e1_bf, x_s_bf, x_h_bf, x_e4_bf, x_en, x_et, x_e7_bf⟩, b_isinstance := PySem.W.mg_none_of X G x_b_isinstance, g_le := PySem.W.mg_of X G x_g_le, g_ng := PySem.W.mg_of X G x_g_ng, g_bt := PySem.W.mg_of X G x_g_bt, m_bf_bf := PySem.W.exm_ref x_s_bf x_h_bf x_t_bf x_m_bf_bf, i_bf_le := kit_ref x_h_le x_t_le x_m_bf_le x_m_bf_bf, i_bf_ng := kit_ref x_h_ng x_t_ng x_m_bf_ng x_m_bf_bf, i_bf_bt := kit_ref x_h_bt x_t_bt x_m_bf_bt x_m_bf_bf}
  have F0 := fun_mk (st := st_ask_levels) l0 c0 k0
  have b0 := F0.binds (ps := ["levels"]) fun _ _ _ _ _ _ us hl => match us, hl with | [_], _ => rfl
  have F1 := fun_mk (st := st_cost_of) l1 c1 k1
  have b1 := F1.binds (ps := ["levels", "side"]) fun _ _ _ _ _ _ us hl => match us, hl with | [_, _], _ => rfl
  have F2 := fun_mk (st := st_behind) l2 c2 k2
  have b2 := F2.binds (ps := ["levels", "side"]) fun _ _ _ _ _ _ us hl => match us, hl with | [_, _], _ => rfl
  have F3 := fun_mk (st := st_cost) l3 c3 k3
  have b3 := F3.binds (ps := ["levels", "order"]) fun _ _ _ _ _ _ us hl => match us, hl with | [_, _], _ => rfl
  have F4 := fun_mk (st := st_filled) l4 c4 k4
  have b4 := F4.binds (ps := ["levels", "chamber"]) fun _ _ _ _ _ _ us hl => match us, hl with | [_, _], _ => rfl
  have F5 := fun_mk (st := st_emptied) l5 c5 k5
  have b5 := F5.binds (ps := ["levels", "chamber"]) fun _ _ _ _ _ _ us hl => match us, hl with | [_, _], _ => rfl
  have F6 := fun_mk (st := st_let_all) l6 c6 k6
  have b6 := F6.binds (ps := ["levels", "deeds"]) fun _ _ _ _ _ _ us hl => match us, hl with | [_, _], _ => rfl
  have F7 := fun_mk (st := st_put) l7 c7 k7
  have b7 := F7.binds (ps := ["levels", "deeds", "more"]) fun _ _ _ _ _ _ us hl => match us, hl with | [_, _, _], _ => rfl
  have F8 := fun_mk (st := st_passage_up) l8 c8 k8
  have b8 := F8.binds (ps := ["levels", "boat", "deeds"]) fun _ _ _ _ _ _ us hl => match us, hl with | [_, _, _], _ => rfl
  have F9 := fun_mk (st := st_passage_down) l9 c9 k9
  have b9 := F9.binds (ps := ["levels", "boat", "deeds"]) fun _ _ _ _ _ _ us hl => match us, hl with | [_, _, _], _ => rfl
  have F10 := fun_mk (st := st_plan) l10 c10 k10
  have b10 := F10.binds (ps := ["levels", "order"]) fun _ _ _ _ _ _ us hl => match us, hl with | [_, _], _ => rfl
  have F11 := fun_mk (st := st_may_go) l11 c11 k11
  have b11 := F11.binds (ps := ["side", "ups", "downs", "last", "run", "patience"]) fun _ _ _ _ _ _ us hl => match us, hl with | [_, _, _, _, _, _], _ => rfl
  have F12 := fun_mk (st := st_left_behind) l12 c12 k12
  have b12 := F12.binds (ps := ["side", "ups", "downs", "last", "run"]) fun _ _ _ _ _ _ us hl => match us, hl with | [_, _, _, _, _], _ => rfl
  have F13 := fun_mk (st := st_rest_of) l13 c13 k13
  have b13 := F13.binds (ps := ["many", "stand", "patience", "known"]) fun _ _ _ _ _ _ us hl => match us, hl with | [_, _, _, _], _ => rfl
  have F14 := fun_mk (st := st_best) l14 c14 k14
  have b14 := F14.binds (ps := ["levels", "ups", "downs", "patience"]) fun _ _ _ _ _ _ us hl => match us, hl with | [_, _, _, _], _ => rfl
  have F15 := fun_mk (st := st_law_cell_at) l15 c15 k15
  have b15 := F15.binds (ps := ["script", "k"]) fun _ _ _ _ _ _ us hl => match us, hl with | [_, _], _ => rfl
  have F16 := fun_mk (st := st_law_order) l16 c16 k16
  have b16 := F16.binds (ps := ["script", "start", "size"]) fun _ _ _ _ _ _ us hl => match us, hl with | [_, _, _], _ => rfl
  have F17 := fun_mk (st := st_law_refused) l17 c17 k17
  have b17 := F17.binds (ps := ["way", "levels", "order", "patience"]) fun _ _ _ _ _ _ us hl => match us, hl with | [_, _, _, _], _ => rfl
  have F18 := fun_mk (st := st_law) l18 c18 k18
  refine ⟨PySem.W.fnOf "law" "law" (defArgs st_law) (defBody st_law) (defScope st_law) .none kV18 dc18 pm18 an18 cd18 ct18, fun s v => .of_eq rfl, fun base _ _ => ?_⟩
  have q_ask_levels : Cl l.prog w K mg base 2 "ask_levels" ["levels"] (spD K (Φ_ask_levels (⟨0, c_bf, c_ng, 0, 0, 0, 0, 0, c_bt, c_le⟩ : Ad))) := ⟨f0, _, ok_ask_levels (P := l.prog) (w := w) (base := base) F0 T , PySem.W.mg_of X G a0, k0, b0⟩
  have q_cost_of : Cl l.prog w K mg base 2 "cost_of" ["levels", "side"] (spD K (Φ_cost_of (⟨0, c_bf, c_ng, 0, 0, 0, 0, 0, c_bt, c_le⟩ : Ad))) := ⟨f1, _, ok_cost_of (P := l.prog) (w := w) (base := base) F1 T , PySem.W.mg_of X G a1, k1, b1⟩
  have q_behind : Cl l.prog w K mg base 2 "behind" ["levels", "side"] (spD K (Φ_behind (⟨0, c_bf, c_ng, 0, 0, 0, 0, 0, c_bt, c_le⟩ : Ad))) := ⟨f2, _, ok_behind (P := l.prog) (w := w) (base := base) F2 T , PySem.W.mg_of X G a2, k2, b2⟩
  have q_cost : Cl l.prog w K mg base 3 "cost" ["levels", "order"] (spD K (Φ_cost (⟨0, c_bf, c_ng, 0, 0, 0, 0, 0, c_bt, c_le⟩ : Ad))) := ⟨f3, _, ok_cost (P := l.prog) (w := w) (base := base) F3 T q_ask_levels q_cost_of q_behind, PySem.W.mg_of X G a3, k3, b3⟩
  have q_filled : Cl l.prog w K mg base 2 "filled" ["levels", "chamber"] (spD K (Φ_filled (⟨0, c_bf, c_ng, 0, 0, 0, 0, 0, c_bt, c_le⟩ : Ad))) := ⟨f4, _, ok_filled (P := l.prog) (w := w) (base := base) F4 T , PySem.W.mg_of X G a4, k4, b4⟩
  have q_emptied : Cl l.prog w K mg base 2 "emptied" ["levels", "chamber"] (spD K (Φ_emptied (⟨0, c_bf, c_ng, 0, 0, 0, 0, 0, c_bt, c_le⟩ : Ad))) := ⟨f5, _, ok_emptied (P := l.prog) (w := w) (base := base) F5 T , PySem.W.mg_of X G a5, k5, b5⟩
  have q_let_all : Cl l.prog w K mg base 2 "let_all" ["levels", "deeds"] (spD K (Φ_let_all (⟨0, c_bf, c_ng, 0, 0, 0, 0, 0, c_bt, c_le⟩ : Ad))) := ⟨f6, _, ok_let_all (P := l.prog) (w := w) (base := base) F6 T , PySem.W.mg_of X G a6, k6, b6⟩
  have q_put : Cl l.prog w K mg base 3 "put" ["levels", "deeds", "more"] (spD K (Φ_put (⟨0, c_bf, c_ng, 0, 0, 0, 0, 0, c_bt, c_le⟩ : Ad))) := ⟨f7, _, ok_put (P := l.prog) (w := w) (base := base) F7 T q_let_all, PySem.W.mg_of X G a7, k7, b7⟩
  have q_passage_up : Cl l.prog w K mg base 4 "passage_up" ["levels", "boat", "deeds"] (spD K (Φ_passage_up (⟨0, c_bf, c_ng, 0, 0, 0, 0, 0, c_bt, c_le⟩ : Ad))) := ⟨f8, _, ok_passage_up (P := l.prog) (w := w) (base := base) F8 T q_emptied q_put q_filled, PySem.W.mg_of X G a8, k8, b8⟩
  have q_passage_down : Cl l.prog w K mg base 4 "passage_down" ["levels", "boat", "deeds"] (spD K (Φ_passage_down (⟨0, c_bf, c_ng, 0, 0, 0, 0, 0, c_bt, c_le⟩ : Ad))) := ⟨f9, _, ok_passage_down (P := l.prog) (w := w) (base := base) F9 T q_filled q_put q_emptied, PySem.W.mg_of X G a9, k9, b9⟩
  have q_plan : Cl l.prog w K mg base 5 "plan" ["levels", "order"] (spD K (Φ_plan (⟨0, c_bf, c_ng, 0, 0, 0, 0, 0, c_bt, c_le⟩ : Ad))) := ⟨f10, _, ok_plan (P := l.prog) (w := w) (base := base) F10 T q_ask_levels q_passage_up q_passage_down, PySem.W.mg_of X G a10, k10, b10⟩
  have q_may_go : Cl l.prog w K mg base 2 "may_go" ["side", "ups", "downs", "last", "run", "patience"] (spD K (Φ_may_go (⟨0, c_bf, c_ng, 0, 0, 0, 0, 0, c_bt, c_le⟩ : Ad))) := ⟨f11, _, ok_may_go (P := l.prog) (w := w) (base := base) F11 T , PySem.W.mg_of X G a11, k11, b11⟩
  have q_left_behind : Cl l.prog w K mg base 2 "left_behind" ["side", "ups", "downs", "last", "run"] (spD K (Φ_left_behind (⟨0, c_bf, c_ng, 0, 0, 0, 0, 0, c_bt, c_le⟩ : Ad))) := ⟨f12, _, ok_left_behind (P := l.prog) (w := w) (base := base) F12 T , PySem.W.mg_of X G a12, k12, b12⟩
  have q_rest_of : Cl l.prog w K mg base 20 "rest_of" ["many", "stand", "patience", "known"] (spD K (Φ_rest_of (⟨0, c_bf, c_ng, 0, 0, 0, 0, 0, c_bt, c_le⟩ : Ad))) := ⟨f13, _, ok_rest_of (P := l.prog) (w := w) (base := base) F13 T q_may_go q_left_behind q_cost_of (PySem.W.mg_of X G a13) k13 b13 17, PySem.W.mg_of X G a13, k13, b13⟩
  have q_best : Cl l.prog w K mg base 21 "best" ["levels", "ups", "downs", "patience"] (spD K (Φ_best (⟨0, c_bf, c_ng, 0, 0, 0, 0, 0, c_bt, c_le⟩ : Ad))) := ⟨f14, _, ok_best (P := l.prog) (w := w) (base := base) F14 T q_ask_levels q_may_go q_left_behind q_cost_of q_rest_of q_behind, PySem.W.mg_of X G a14, k14, b14⟩
  have q_law_cell_at : Cl l.prog w K mg base 2 "_law_cell_at" ["script", "k"] (spD K (Φ_law_cell_at (⟨0, c_bf, c_ng, 0, 0, 0, 0, 0, c_bt, c_le⟩ : Ad))) := ⟨f15, _, ok_law_cell_at (P := l.prog) (w := w) (base := base) F15 T , PySem.W.mg_of X G a15, k15, b15⟩
  have q_law_order : Cl l.prog w K mg base 3 "_law_order" ["script", "start", "size"] (spD K (Φ_law_order (⟨0, c_bf, c_ng, 0, 0, 0, 0, 0, c_bt, c_le⟩ : Ad))) := ⟨f16, _, ok_law_order (P := l.prog) (w := w) (base := base) F16 T q_law_cell_at, PySem.W.mg_of X G a16, k16, b16⟩
  have q_law_refused : Cl l.prog w K mg base 22 "_law_refused" ["way", "levels", "order", "patience"] (spD K (Φ_law_refused (⟨0, c_bf, c_ng, 0, 0, 0, 0, 0, c_bt, c_le⟩ : Ad))) := ⟨f17, _, ok_law_refused (P := l.prog) (w := w) (base := base) F17 T q_cost q_plan q_best, PySem.W.mg_of X G a17, k17, b17⟩
  exact ok_law (P := l.prog) (w := w) (base := base) F18 T q_law_cell_at q_law_order q_law_refused
end Fl
open PySem PySem.W PyProof.Rows
set_option maxRecDepth 100000 in
set_option maxHeartbeats 0 in
theorem PySem.Challenge.cw_lockflight_k11_bad_flights_holds : PySem.Challenge.rw_lockflight_k11_bad_flights.Holds := by
  w_on; o_law; k_head; (case hw => w_witness2)
  k_fill
  refine Fl.walk_fl (l := PySem.Challenge.rw_lockflight_k11_bad_flights) (k := 23) rfl rfl ⟨rfl, by decide, by decide⟩ (fun w h Y => PySem.W.kIn_of Y) ?F
  case F =>
    intro w mg fa h KX Gm hmg
    refine' Fl.all_mk KX Gm hmg ?z_x_b_len ?z_x_c_MOST_CHAMBERS ?z_x_g_bf ?z_x_x_bf ?z_x_k_bf ?z_x_s_bf ?z_x_t_bf ?z_x_b_int ?z_x_b_reversed ?z_x_b_range ?z_x_b_list ?z_x_b_min ?z_x_e0_bf ?z_x_e1_bf ?z_x_h_bf ?z_x_e4_bf ?z_x_en ?z_x_et ?z_x_e7_bf ?z_x_b_isinstance ?z_x_g_le ?z_x_g_ng ?z_x_g_bt ?z_x_m_bf_bf ?z_x_m_bf_le ?z_x_h_le ?z_x_t_le ?z_x_m_bf_ng ?z_x_h_ng ?z_x_t_ng ?z_x_m_bf_bt ?z_x_h_bt ?z_x_t_bt ?z_a0 ?z_l0 ?z_c0 ?z_k0 ?z_a1 ?z_l1 ?z_c1 ?z_k1 ?z_a2 ?z_l2 ?z_c2 ?z_k2 ?z_a3 ?z_l3 ?z_c3 ?z_k3 ?z_a4 ?z_l4 ?z_c4 ?z_k4 ?z_a5 ?z_l5 ?z_c5 ?z_k5 ?z_a6 ?z_l6 ?z_c6 ?z_k6 ?z_a7 ?z_l7 ?z_c7 ?z_k7 ?z_a8 ?z_l8 ?z_c8 ?z_k8 ?z_a9 ?z_l9 ?z_c9 ?z_k9 ?z_a10 ?z_l10 ?z_c10 ?z_k10 ?z_a11 ?z_l11 ?z_c11 ?z_k11 ?z_a12 ?z_l12 ?z_c12 ?z_k12 ?z_a13 ?z_l13 ?z_c13 ?z_k13 ?z_a14 ?z_l14 ?z_c14 ?z_k14 ?z_a15 ?z_l15 ?z_c15 ?z_k15 ?z_a16 ?z_l16 ?z_c16 ?z_k16 ?z_a17 ?z_l17 ?z_c17 ?z_k17 ?z_a18 ?z_l18 ?z_c18 ?z_k18
    (case z_x_b_len => k_is)
    (case z_x_c_MOST_CHAMBERS => k_is)
    (case z_x_g_bf => k_is)
    (case z_x_x_bf => k_exc)
    (case z_x_k_bf => k_is)
    (case z_x_s_bf => k_is)
    (case z_x_t_bf => k_is)
    (case z_x_b_int => k_is)
    (case z_x_b_reversed => k_is)
    (case z_x_b_range => k_is)
    (case z_x_b_list => k_is)
    (case z_x_b_min => k_is)
    (case z_x_e0_bf => k_is)
    (case z_x_e1_bf => k_is)
    (case z_x_h_bf => k_is)
    (case z_x_e4_bf => k_is)
    (case z_x_en => k_is)
    (case z_x_et => k_is)
    (case z_x_e7_bf => k_is)
    (case z_x_b_isinstance => k_is)
    (case z_x_g_le => k_is)
    (case z_x_g_ng => k_is)
    (case z_x_g_bt => k_is)
    (case z_x_m_bf_bf => k_is)
    (case z_x_m_bf_le => k_is)
    (case z_x_h_le => k_is)
    (case z_x_t_le => k_is)
    (case z_x_m_bf_ng => k_is)
    (case z_x_h_ng => k_is)
    (case z_x_t_ng => k_is)
    (case z_x_m_bf_bt => k_is)
    (case z_x_h_bt => k_is)
    (case z_x_t_bt => k_is)
    (case z_a0 => k_is)
    (case z_l0 => k_is)
    (case z_c0 => k_is)
    (case z_k0 => k_is)
    (case z_a1 => k_is)
    (case z_l1 => k_is)
    (case z_c1 => k_is)
    (case z_k1 => k_is)
    (case z_a2 => k_is)
    (case z_l2 => k_is)
    (case z_c2 => k_is)
    (case z_k2 => k_is)
    (case z_a3 => k_is)
    (case z_l3 => k_is)
    (case z_c3 => k_is)
    (case z_k3 => k_is)
    (case z_a4 => k_is)
    (case z_l4 => k_is)
    (case z_c4 => k_is)
    (case z_k4 => k_is)
    (case z_a5 => k_is)
    (case z_l5 => k_is)
    (case z_c5 => k_is)
    (case z_k5 => k_is)
    (case z_a6 => k_is)
    (case z_l6 => k_is)
    (case z_c6 => k_is)
    (case z_k6 => k_is)
    (case z_a7 => k_is)
    (case z_l7 => k_is)
    (case z_c7 => k_is)
    (case z_k7 => k_is)
    (case z_a8 => k_is)
    (case z_l8 => k_is)
    (case z_c8 => k_is)
    (case z_k8 => k_is)
    (case z_a9 => k_is)
    (case z_l9 => k_is)
    (case z_c9 => k_is)
    (case z_k9 => k_is)
    (case z_a10 => k_is)
    (case z_l10 => k_is)
    (case z_c10 => k_is)
    (case z_k10 => k_is)
    (case z_a11 => k_is)
    (case z_l11 => k_is)
    (case z_c11 => k_is)
    (case z_k11 => k_is)
    (case z_a12 => k_is)
    (case z_l12 => k_is)
    (case z_c12 => k_is)
    (case z_k12 => k_is)
    (case z_a13 => k_is)
    (case z_l13 => k_is)
    (case z_c13 => k_is)
    (case z_k13 => k_is)
    (case z_a14 => k_is)
    (case z_l14 => k_is)
    (case z_c14 => k_is)
    (case z_k14 => k_is)
    (case z_a15 => k_is)
    (case z_l15 => k_is)
    (case z_c15 => k_is)
    (case z_k15 => k_is)
    (case z_a16 => k_is)
    (case z_l16 => k_is)
    (case z_c16 => k_is)
    (case z_k16 => k_is)
    (case z_a17 => k_is)
    (case z_l17 => k_is)
    (case z_c17 => k_is)
    (case z_k17 => k_is)
    (case z_a18 => k_is)
    (case z_l18 => k_is)
    (case z_c18 => k_is)
    (case z_k18 => k_is)
