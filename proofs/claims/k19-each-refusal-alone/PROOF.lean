import PyProof.Rows.All
import Wide.All
import OpenK.AllK
import Wide.FinOn
import PyProof.EqAt
import PyProof.EqKinds
import PyProof.TupleCall
import KE.DataEq
import HandS.ForMost
import HandS.ForExc
import HandS.SortInts
import HandS.Conv
import HandS.RevRange
import HandS.IsInst
import HandS.TryMany
import HandS.ExcIs
import HandS.Zip
import KE.DataFind
import HandS.Rev
import HandS.MapObj
import HandS.HotCalls
import PySem.Challenge.RW_lockflight_k19_each_refusal_alone
set_option Elab.async false
set_option linter.all false
set_option autoImplicit false
set_option maxRecDepth 100000
set_option maxHeartbeats 4000000
/-! The value layer: deep data D over the abstract heap, owned objects R, a state (G, H, R). -/
namespace Fl
open PySem PySem.Spec PyProof.Rows L2

theorem lim_le {n : Nat} (h : n ≤ 50000) : n ≤ sizeLine := Nat.le_trans h (by decide)
theorem lim_lt {n : Nat} (h : n ≤ 50000) : n < sizeLine := Nat.lt_of_le_of_lt h (by decide)

/-! ### heaps that grow -/
def Gx (H H' : Hp) : Prop := ∀ a o, H a = some o → H' a = some o
theorem Gx.refl (H : Hp) : Gx H H := fun _ _ h => h
theorem Gx.trans {H H1 H2 : Hp} (a : Gx H H1) (b : Gx H1 H2) : Gx H H2 := fun x o h => b x o (a x o h)
theorem Gx.free {H H' : Hp} (e : Gx H H') {a : Addr} (h : H' a = none) : H a = none := by
  cases q : H a with
  | none => rfl
  | some o => rw [e a o q] at h; cases h
theorem Gx.new {H : Hp} {p : Addr} {o : HO} (h : H p = none) : Gx H (upd H p o) := fun a u e => by
  rw [upd_ne (ne_of_none e h)]; exact e

/-! ### data -/
mutual
/-- the value v is the datum x, by the objects of G alone -/
inductive Hv (G : Hp) : V → PyData → Prop
  | non : Hv G .non .none
  | bl (b : Bool) : Hv G (.bl b) (.bool b)
  | int (i : Int) : Hv G (.int i) (.int i)
  | str (x : Str) : Hv G (.str x) (.str x)
  | lst {a : Addr} {xs : List V} {ds : List PyData} : G a = some (.lst xs) → xs.length ≤ 50000 → Hvs G xs ds → Hv G (.ref a) (.list ds)
  | tup {a : Addr} {xs : List V} {ds : List PyData} : G a = some (.tup xs) → xs.length ≤ 50000 → Hvs G xs ds → Hv G (.ref a) (.tuple ds)
inductive Hvs (G : Hp) : List V → List PyData → Prop
  | nil : Hvs G [] []
  | cons {v : V} {vs : List V} {d : PyData} {ds : List PyData} : Hv G v d → Hvs G vs ds → Hvs G (v :: vs) (d :: ds)
end
mutual
theorem Hv.mono {G G' : Hp} (e : Gx G G') : ∀ (d : PyData) {v : V}, Hv G v d → Hv G' v d
  | .none, _, h => by cases h; exact .non
  | .bool b, _, h => by cases h; exact .bl b
  | .int i, _, h => by cases h; exact .int i
  | .str x, _, h => by cases h; exact .str x
  | .list ds, _, h => by
    cases h with
    | lst h1 h2 h3 => exact .lst (e _ _ h1) h2 (Hvs.mono e ds h3)
  | .tuple ds, _, h => by
    cases h with
    | tup h1 h2 h3 => exact .tup (e _ _ h1) h2 (Hvs.mono e ds h3)
  | .dict _, _, h => by cases h
theorem Hvs.mono {G G' : Hp} (e : Gx G G') : ∀ (ds : List PyData) {vs : List V}, Hvs G vs ds → Hvs G' vs ds
  | [], _, h => by cases h; exact .nil
  | d :: ds, _, h => by
    cases h with
    | cons h1 h2 => exact .cons (Hv.mono e d h1) (Hvs.mono e ds h2)
end
mutual
theorem Hv.dp {K : PySem.W.Frag} {G : Hp} : ∀ (d : PyData) {v : V}, Hv G v d → Dp K G v d
  | .none, _, h => by cases h; exact .non
  | .bool b, _, h => by cases h; exact .bl b
  | .int i, _, h => by cases h; exact .int i
  | .str x, _, h => by cases h; exact .str x
  | .list ds, _, h => by
    cases h with
    | lst h1 h2 h3 => exact .lst (SqL.of h1) (Hvs.dp ds h3)
  | .tuple ds, _, h => by
    cases h with
    | tup h1 h2 h3 => exact .tup (SqT.of h1) (Hvs.dp ds h3)
  | .dict _, _, h => by cases h
theorem Hvs.dp {K : PySem.W.Frag} {G : Hp} : ∀ (ds : List PyData) {vs : List V}, Hvs G vs ds → DpAll K G vs ds
  | [], _, h => by cases h; exact .nil
  | d :: ds, _, h => by
    cases h with
    | cons h1 h2 => exact .cons (Hv.dp d h1) (Hvs.dp ds h2)
end
mutual
theorem Hv.plain {G : Hp} : ∀ (d : PyData) {v : V}, Hv G v d → d.plain = true
  | .none, _, _ => rfl
  | .bool b, _, _ => rfl
  | .int i, _, _ => rfl
  | .str x, _, _ => rfl
  | .list ds, _, h => by
    cases h with
    | lst h1 h2 h3 => exact Hvs.plain ds h3
  | .tuple ds, _, h => by
    cases h with
    | tup h1 h2 h3 => exact Hvs.plain ds h3
  | .dict _, _, h => by cases h
theorem Hvs.plain {G : Hp} : ∀ (ds : List PyData) {vs : List V}, Hvs G vs ds → PyData.plainAll ds = true
  | [], _, _ => rfl
  | d :: ds, _, h => by
    cases h with
    | cons h1 h2 =>
      show (d.plain && PyData.plainAll ds) = true
      rw [Hv.plain d h1, Hvs.plain ds h2]; rfl
end
theorem Hvs.len {G : Hp} : ∀ {ds : List PyData} {vs : List V}, Hvs G vs ds → vs.length = ds.length
  | [], _, h => by cases h; rfl
  | d :: ds, _, h => by
    cases h with
    | cons h1 h2 => simp [Hvs.len h2]
theorem Hvs.get {G : Hp} : ∀ {ds : List PyData} {vs : List V} {i : Nat} {v : V}, Hvs G vs ds → vs[i]? = some v → ∃ d, ds[i]? = some d ∧ Hv G v d
  | [], _, i, v, h, e => by cases h; simp at e
  | d :: ds, _, 0, v, h, e => by
    cases h with
    | cons h1 h2 => simp at e; subst e; exact ⟨d, rfl, h1⟩
  | d :: ds, _, i + 1, v, h, e => by
    cases h with
    | cons h1 h2 =>
      obtain ⟨d', q1, q2⟩ := Hvs.get (i := i) h2 (by simpa using e)
      exact ⟨d', by simpa using q1, q2⟩
theorem Hvs.getd {G : Hp} : ∀ {ds : List PyData} {vs : List V} {i : Nat} {d : PyData}, Hvs G vs ds → ds[i]? = some d → ∃ v, vs[i]? = some v ∧ Hv G v d
  | [], _, i, v, h, e => by simp at e
  | d :: ds, _, 0, v, h, e => by
    cases h with
    | cons h1 h2 => simp at e; subst e; exact ⟨_, rfl, h1⟩
  | d :: ds, _, i + 1, v, h, e => by
    cases h with
    | cons h1 h2 =>
      obtain ⟨d', q1, q2⟩ := Hvs.getd (i := i) h2 (by simpa using e)
      exact ⟨d', by simpa using q1, q2⟩
theorem Hvs.app {G : Hp} : ∀ {ds es : List PyData} {vs ws : List V}, Hvs G vs ds → Hvs G ws es → Hvs G (vs ++ ws) (ds ++ es)
  | [], _, _, _, h, k => by cases h; exact k
  | d :: ds, _, _, _, h, k => by
    cases h with
    | cons h1 h2 => exact .cons h1 (Hvs.app h2 k)
theorem Hvs.set {G : Hp} {x : PyData} {w : V} (q : Hv G w x) : ∀ {ds : List PyData} {vs : List V} (i : Nat), Hvs G vs ds → Hvs G (vs.set i w) (ds.set i x)
  | [], _, i, h => by cases h; exact .nil
  | d :: ds, _, 0, h => by
    cases h with
    | cons h1 h2 => exact .cons q h2
  | d :: ds, _, i + 1, h => by
    cases h with
    | cons h1 h2 => exact .cons h1 (Hvs.set q i h2)
theorem Hvs.drop {G : Hp} : ∀ {ds : List PyData} {vs : List V} (i : Nat), Hvs G vs ds → Hvs G (vs.drop i) (ds.drop i)
  | _, _, 0, h => h
  | [], _, i + 1, h => by cases h; exact .nil
  | d :: ds, _, i + 1, h => by
    cases h with
    | cons h1 h2 => exact Hvs.drop i h2
theorem Hvs.take {G : Hp} : ∀ {ds : List PyData} {vs : List V} (i : Nat), Hvs G vs ds → Hvs G (vs.take i) (ds.take i)
  | _, _, 0, h => .nil
  | [], _, i + 1, h => by cases h; exact .nil
  | d :: ds, _, i + 1, h => by
    cases h with
    | cons h1 h2 => exact .cons h1 (Hvs.take i h2)
theorem Hvs.rev {G : Hp} : ∀ {ds : List PyData} {vs : List V}, Hvs G vs ds → Hvs G vs.reverse ds.reverse
  | [], _, h => by cases h; exact .nil
  | d :: ds, _, h => by
    cases h with
    | cons h1 h2 =>
      rw [List.reverse_cons, List.reverse_cons]
      exact Hvs.app (Hvs.rev h2) (.cons h1 .nil)
/-- lists of one kind of scalars -/
theorem Hvs.bls {G : Hp} : ∀ {bs : List Bool} {vs : List V}, Hvs G vs (bs.map .bool) → vs = bs.map V.bl
  | [], _, h => by cases h; rfl
  | b :: bs, _, h => by
    cases h with
    | cons h1 h2 => cases h1; rw [Hvs.bls h2]; rfl
theorem Hvs.ints {G : Hp} : ∀ {bs : List Int} {vs : List V}, Hvs G vs (bs.map .int) → vs = bs.map V.int
  | [], _, h => by cases h; rfl
  | b :: bs, _, h => by
    cases h with
    | cons h1 h2 => cases h1; rw [Hvs.ints h2]; rfl
theorem Hvs.strs {G : Hp} : ∀ {bs : List Str} {vs : List V}, Hvs G vs (bs.map .str) → vs = bs.map V.str
  | [], _, h => by cases h; rfl
  | b :: bs, _, h => by
    cases h with
    | cons h1 h2 => cases h1; rw [Hvs.strs h2]; rfl
theorem hvs_ints {G : Hp} : ∀ (bs : List Int), Hvs G (bs.map V.int) (bs.map .int)
  | [] => .nil
  | b :: bs => .cons (.int b) (hvs_ints bs)
theorem hvs_bls {G : Hp} : ∀ (bs : List Bool), Hvs G (bs.map V.bl) (bs.map .bool)
  | [] => .nil
  | b :: bs => .cons (.bl b) (hvs_bls bs)
theorem hvs_strs {G : Hp} : ∀ (bs : List Str), Hvs G (bs.map V.str) (bs.map .str)
  | [] => .nil
  | b :: bs => .cons (.str b) (hvs_strs bs)

/-! ### what a slot holds: a datum, an owned object's address, the script -/
inductive D where
  | d (x : PyData)
  | r (a : Addr)
  | s (ns : List Int)
def HD (K : PySem.W.Frag) (G : Hp) (v : V) : D → Prop
  | .d x => Hv G v x
  | .r a => v = .ref a
  | .s ns => ∃ a, v = .ref a ∧ SqL K G a (ns.map V.int)
theorem gx_sql {K : PySem.W.Frag} {G G' : Hp} {a : Addr} {xs : List V} (e : Gx G G') (h : SqL K G a xs) : SqL K G' a xs := by
  rcases h with (h | ⟨o, h⟩) | h
  · exact .inl (.inl (e _ _ h))
  · exact .inl (.inr ⟨o, e _ _ h⟩)
  · exact .inr h
theorem HD.mono {K : PySem.W.Frag} {G G' : Hp} (e : Gx G G') : ∀ {d : D} {v : V}, HD K G v d → HD K G' v d
  | .d x, _, h => Hv.mono e x h
  | .r a, _, h => h
  | .s ns, _, ⟨a, h1, h2⟩ => ⟨a, h1, gx_sql e h2⟩
/-- an owned object -/
inductive RO where
  | lst (ds : List PyData)
  | lsr (as : List Addr)
  | ins (C : Addr) (fs : List (Str × D))
  | dic (kvs : List (Key × D))
  | dit (kvs : List (List Key × Int))
inductive Fvs (K : PySem.W.Frag) (G : Hp) {κ : Type} : List (κ × V) → List (κ × D) → Prop
  | nil : Fvs K G [] []
  | cons {k : κ} {v : V} {d : D} {vs : List (κ × V)} {ds : List (κ × D)} : HD K G v d → Fvs K G vs ds → Fvs K G ((k, v) :: vs) ((k, d) :: ds)
theorem Fvs.mono {K : PySem.W.Frag} {G G' : Hp} {κ : Type} (e : Gx G G') : ∀ {vs : List (κ × V)} {ds : List (κ × D)}, Fvs K G vs ds → Fvs K G' vs ds
  | _, _, .nil => .nil
  | _, _, .cons h t => .cons (h.mono e) (Fvs.mono e t)
theorem Fvs.len {K : PySem.W.Frag} {G : Hp} {κ : Type} : ∀ {vs : List (κ × V)} {ds : List (κ × D)}, Fvs K G vs ds → vs.length = ds.length
  | _, _, .nil => rfl
  | _, _, .cons h t => by simp [Fvs.len t]
theorem Fvs.keys {K : PySem.W.Frag} {G : Hp} {κ : Type} : ∀ {vs : List (κ × V)} {ds : List (κ × D)}, Fvs K G vs ds → vs.map (·.1) = ds.map (·.1)
  | _, _, .nil => rfl
  | _, _, .cons h t => by simp [Fvs.keys t]
def Own1 (K : PySem.W.Frag) (G H : Hp) (a : Addr) : RO → Prop
  | .lst ds => ∃ vs, H a = some (.lst vs) ∧ vs.length ≤ 50000 ∧ Hvs G vs ds
  | .lsr as => H a = some (.lst (as.map .ref)) ∧ as.length ≤ 50000
  | .ins C fs => ∃ dx vs, H a = some (.ins C dx vs) ∧ Fvs K G vs fs
  | .dic kvs => ∃ vs, H a = some (.dK vs) ∧ vs.length ≤ 50000 ∧ Fvs K G vs kvs
  | .dit kvs => H a = some (.dT (kvs.map fun p => (p.1, V.int p.2))) ∧ kvs.length ≤ 50000
theorem Own1.there {K : PySem.W.Frag} {G H : Hp} {a : Addr} : ∀ {o : RO}, Own1 K G H a o → ∃ u, H a = some u
  | .lst _, ⟨_, h, _⟩ => ⟨_, h⟩
  | .lsr _, h => ⟨_, h.1⟩
  | .ins _ _, ⟨_, _, h, _⟩ => ⟨_, h⟩
  | .dic _, ⟨_, h, _⟩ => ⟨_, h⟩
  | .dit _, h => ⟨_, h.1⟩
theorem Own1.mono {K : PySem.W.Frag} {G G' H H' : Hp} {a : Addr} (e : Gx G G') (k : ∀ o, H a = some o → H' a = some o) : ∀ {o : RO}, Own1 K G H a o → Own1 K G' H' a o
  | .lst ds, ⟨vs, h, hl, q⟩ => ⟨vs, k _ h, hl, Hvs.mono e ds q⟩
  | .lsr _, h => ⟨k _ h.1, h.2⟩
  | .ins _ _, ⟨dx, vs, h, q⟩ => ⟨dx, vs, k _ h, q.mono e⟩
  | .dic _, ⟨vs, h, hl, q⟩ => ⟨vs, k _ h, hl, q.mono e⟩
  | .dit _, h => ⟨k _ h.1, h.2⟩

/-! ### states -/
abbrev Res := List (Addr × RO)
abbrev adr (R : Res) : List Addr := R.map (·.1)
structure Ok (K : PySem.W.Frag) (G H : Hp) (R : Res) : Prop where
  ex : Gx G H
  own : ∀ p ∈ R, G p.1 = none ∧ Own1 K G H p.1 p.2
  nd : (adr R).Nodup
structure Le (G H : Hp) (R : Res) (G' H' : Hp) (R' : Res) : Prop where
  g : Gx G G'
  h : ∀ a o, H a = some o → a ∉ adr R → H' a = some o
  n : ∀ a, G' a ≠ none → G a ≠ none ∨ H a = none ∨ a ∈ adr R
  r : ∀ a ∈ adr R', a ∈ adr R ∨ H a = none
  dm : ∀ a, H a ≠ none → H' a ≠ none
section
variable {K : PySem.W.Frag} {G H G' H' G'' H'' : Hp} {R R' R'' : Res}
theorem Le.refl : Le G H R G H R := ⟨Gx.refl G, fun _ _ h _ => h, fun _ h => .inl h, fun _ h => .inl h, fun _ h => h⟩
theorem Le.trans (a : Le G H R G' H' R') (b : Le G' H' R' G'' H'' R'') : Le G H R G'' H'' R'' where
  g := a.g.trans b.g
  h := fun x o e n => b.h x o (a.h x o e n) fun m => by
    rcases a.r x m with z | z
    · exact n z
    · rw [e] at z; cases z
  n := fun x e => by
    rcases b.n x e with z | z | z
    · exact a.n x z
    · refine .inr (.inl ?_)
      cases q : H x with
      | none => rfl
      | some o => exact absurd z (a.dm x (by rw [q]; simp))
    · rcases a.r x z with z | z
      · exact .inr (.inr z)
      · exact .inr (.inl z)
  r := fun x m => by
    rcases b.r x m with z | z
    · exact a.r x z
    · refine .inr ?_
      cases q : H x with
      | none => rfl
      | some o => exact absurd z (a.dm x (by rw [q]; simp))
  dm := fun x e => b.dm x (a.dm x e)
theorem Ok.there (ok : Ok K G H R) {a : Addr} (m : a ∈ adr R) : ∃ u, H a = some u := by
  obtain ⟨p, hp, rfl⟩ := List.mem_map.mp m
  exact Own1.there (ok.own p hp).2
/-- a new object is laid: visible -/
theorem Ok.seen {p : Addr} {o : HO} (ok : Ok K G H R) (n : H p = none) : Ok K (upd G p o) (upd H p o) R ∧ Le G H R (upd G p o) (upd H p o) R := by
  have ng : G p = none := ok.ex.free n
  have np : ∀ a, a ∈ adr R → a ≠ p := fun a m z => by
    obtain ⟨u, e⟩ := ok.there m
    rw [z, n] at e; cases e
  refine ⟨⟨fun a u e => ?_, fun q hq => ?_, ok.nd⟩, ⟨Gx.new ng, fun a u e _ => Gx.new n a u e, fun a e => ?_, fun a m => .inl m, fun a e => ?_⟩⟩
  · by_cases z : a = p
    · subst z; rw [upd_same] at e ⊢; exact e
    · rw [upd_ne z] at e ⊢; exact ok.ex a u e
  · have z := np q.1 (List.mem_map.mpr ⟨q, hq, rfl⟩)
    obtain ⟨h1, h2⟩ := ok.own q hq
    exact ⟨by rw [upd_ne z]; exact h1, Own1.mono (Gx.new ng) (fun u e => Gx.new n _ u e) h2⟩
  · by_cases z : a = p
    · subst z; exact .inr (.inl n)
    · rw [upd_ne z] at e; exact .inl e
  · by_cases z : a = p
    · subst z; rw [upd_same]; simp
    · rw [upd_ne z]; exact e
/-- a new object is laid: owned -/
theorem Ok.laid {p : Addr} {o : HO} {q : RO} (ok : Ok K G H R) (n : H p = none) (w : Own1 K G (upd H p o) p q) : Ok K G (upd H p o) ((p, q) :: R) ∧ Le G H R G (upd H p o) ((p, q) :: R) := by
  have ng : G p = none := ok.ex.free n
  have np : ∀ a, a ∈ adr R → a ≠ p := fun a m z => by
    obtain ⟨u, e⟩ := ok.there m
    rw [z, n] at e; cases e
  refine ⟨⟨fun a u e => Gx.new n a u (ok.ex a u e), fun y hy => ?_, ?_⟩, ⟨Gx.refl G, fun a u e _ => Gx.new n a u e, fun a e => .inl e, fun a m => ?_, fun a e => ?_⟩⟩
  · rcases List.mem_cons.mp hy with e | hy
    · subst e; exact ⟨ng, w⟩
    · obtain ⟨h1, h2⟩ := ok.own y hy
      exact ⟨h1, Own1.mono (Gx.refl G) (fun u e => Gx.new n _ u e) h2⟩
  · show (p :: adr R).Nodup
    exact List.nodup_cons.mpr ⟨fun m => np p m rfl, ok.nd⟩
  · rcases List.mem_cons.mp m with e | m
    · subst e; exact .inr n
    · exact .inl m
  · by_cases z : a = p
    · subst z; rw [upd_same]; simp
    · rw [upd_ne z]; exact e
/-- an untracked object of the heap (an instance's own dict) -/
theorem Ok.aside {p : Addr} {o : HO} (ok : Ok K G H R) (n : H p = none) : Ok K G (upd H p o) R ∧ Le G H R G (upd H p o) R := by
  refine ⟨⟨fun a u e => Gx.new n a u (ok.ex a u e), fun y hy => ?_, ok.nd⟩, ⟨Gx.refl G, fun a u e _ => Gx.new n a u e, fun a e => .inl e, fun a m => .inl m, fun a e => ?_⟩⟩
  · obtain ⟨h1, h2⟩ := ok.own y hy
    exact ⟨h1, Own1.mono (Gx.refl G) (fun u e => Gx.new n _ u e) h2⟩
  · by_cases z : a = p
    · subst z; rw [upd_same]; simp
    · rw [upd_ne z]; exact e
theorem nd_set {R : Res} {i : Nat} {a : Addr} {o q : RO} (h : R[i]? = some (a, o)) : adr (R.set i (a, q)) = adr R := by
  show (R.set i (a, q)).map (·.1) = R.map (·.1)
  rw [List.map_set]
  obtain ⟨hi, e⟩ := List.getElem?_eq_some_iff.mp h
  apply List.ext_getElem?
  intro j
  by_cases z : i = j
  · subst z
    rw [List.getElem?_set_self (by simpa using hi), List.getElem?_map, h]
    rfl
  · rw [List.getElem?_set_ne z]
theorem mem_set_ne {R : Res} {i : Nat} {a : Addr} {o q : RO} (nd : (adr R).Nodup) (h : R[i]? = some (a, o)) {y : Addr × RO} (hy : y ∈ R.set i (a, q)) : y = (a, q) ∨ (y ∈ R ∧ y.1 ≠ a) := by
  obtain ⟨j, hj⟩ := List.getElem?_of_mem hy
  by_cases z : i = j
  · subst z
    obtain ⟨hi, _⟩ := List.getElem?_eq_some_iff.mp h
    rw [List.getElem?_set_self hi] at hj
    exact .inl (Option.some.inj hj).symm
  · rw [List.getElem?_set_ne z] at hj
    refine .inr ⟨List.mem_of_getElem? hj, fun e => z ?_⟩
    have h1 : (adr R)[i]? = some a := by show (R.map (·.1))[i]? = some a; rw [List.getElem?_map, h]; rfl
    have h2 : (adr R)[j]? = some a := by show (R.map (·.1))[j]? = some a; rw [List.getElem?_map, hj]; simp [e]
    exact nd_ix nd h1 h2
/-- an owned object is written -/
theorem Ok.write {i : Nat} {a : Addr} {o : HO} {p q : RO} (ok : Ok K G H R) (h : R[i]? = some (a, p)) (w : Own1 K G (upd H a o) a q) : Ok K G (upd H a o) (R.set i (a, q)) ∧ Le G H R G (upd H a o) (R.set i (a, q)) := by
  have m : (a, p) ∈ R := List.mem_of_getElem? h
  have ng := (ok.own _ m).1
  refine ⟨⟨fun b u e => ?_, fun y hy => ?_, ?_⟩, ⟨Gx.refl G, fun b u e n => ?_, fun b e => .inl e, fun b z => ?_, fun b e => ?_⟩⟩
  · rw [upd_ne (ne_of_none e ng)]; exact ok.ex b u e
  · rcases mem_set_ne ok.nd h hy with e | ⟨e, z⟩
    · subst e; exact ⟨ng, w⟩
    · obtain ⟨h1, h2⟩ := ok.own y e
      exact ⟨h1, Own1.mono (Gx.refl G) (fun u e => by rw [upd_ne z]; exact e) h2⟩
  · rw [nd_set h]; exact ok.nd
  · rw [upd_ne (fun z => n (by subst z; exact List.mem_map.mpr ⟨_, m, rfl⟩))]; exact e
  · rw [nd_set h] at z; exact .inl z
  · by_cases z : b = a
    · subst z; rw [upd_same]; simp
    · rw [upd_ne z]; exact e
theorem Ok.at (ok : Ok K G H R) {i : Nat} {a : Addr} {p : RO} (h : R[i]? = some (a, p)) : Own1 K G H a p := (ok.own _ (List.mem_of_getElem? h)).2
/-- an owned list is let go: from now on a datum -/
theorem Ok.freeze {a : Addr} {ds : List PyData} {G0 H0 : Hp} {R0 : Res} (ok : Ok K G H ((a, .lst ds) :: R)) (le : Le G0 H0 R0 G H ((a, .lst ds) :: R)) (n : a ∉ adr R0) :
    ∃ G', Ok K G' H R ∧ Le G0 H0 R0 G' H R ∧ Hv G' (.ref a) (.list ds) ∧ Gx G G' := by
  obtain ⟨ng, vs, e, hl, hv⟩ := ok.own _ List.mem_cons_self
  have nd : (a :: adr R).Nodup := ok.nd
  obtain ⟨nd1, nd2⟩ := List.nodup_cons.mp nd
  refine ⟨upd G a (.lst vs), ⟨fun b u q => ?_, fun y hy => ?_, nd2⟩, ⟨le.g.trans (Gx.new ng), le.h, fun b q => ?_, fun b m => le.r b (List.mem_cons_of_mem _ m), le.dm⟩, .lst upd_same hl (Hvs.mono (Gx.new ng) ds hv), Gx.new ng⟩
  · by_cases z : b = a
    · subst z; rw [upd_same] at q; cases q; exact e
    · rw [upd_ne z] at q; exact ok.ex b u q
  · obtain ⟨h1, h2⟩ := ok.own y (List.mem_cons_of_mem _ hy)
    have z : y.1 ≠ a := fun z => nd1 (z ▸ List.mem_map.mpr ⟨y, hy, rfl⟩)
    exact ⟨by rw [upd_ne z]; exact h1, Own1.mono (Gx.new ng) (fun _ q => q) h2⟩
  · by_cases z : b = a
    · subst z
      rcases le.r b List.mem_cons_self with q | q
      · exact absurd q n
      · exact .inr (.inl q)
    · rw [upd_ne z] at q; exact le.n b q
/-- the frame: a part of what is owned -/
theorem Ok.part {A B : Res} (ok : Ok K G H (A ++ R ++ B)) : Ok K G H R := by
  refine ⟨ok.ex, fun p hp => ok.own p (by simp [hp]), ?_⟩
  have q := ok.nd
  unfold adr at q
  rw [List.map_append, List.map_append] at q
  exact (List.nodup_append.mp (List.nodup_append.mp q).1).2.1
theorem Ok.whole {A B : Res} (ok : Ok K G H (A ++ R ++ B)) (ok' : Ok K G' H' R') (le : Le G H R G' H' R') : Ok K G' H' (A ++ R' ++ B) ∧ Le G H (A ++ R ++ B) G' H' (A ++ R' ++ B) := by
  have q := ok.nd
  unfold adr at q
  rw [List.map_append, List.map_append] at q
  obtain ⟨q1, qB, qd⟩ := List.nodup_append.mp q
  obtain ⟨qA, qR, qd1⟩ := List.nodup_append.mp q1
  have nA : ∀ p ∈ A, p.1 ∉ adr R := fun p hp m => qd1 p.1 (List.mem_map.mpr ⟨p, hp, rfl⟩) p.1 m rfl
  have nB : ∀ p ∈ B, p.1 ∉ adr R := fun p hp m => qd p.1 (List.mem_append.mpr (.inr m)) p.1 (List.mem_map.mpr ⟨p, hp, rfl⟩) rfl
  have there : ∀ p ∈ A ++ R ++ B, H p.1 ≠ none := fun p hp z => by
    obtain ⟨u, e⟩ := Own1.there (ok.own p hp).2
    rw [z] at e; cases e
  have keep : ∀ p, p ∈ A ++ R ++ B → p.1 ∉ adr R → G' p.1 = none ∧ Own1 K G' H' p.1 p.2 := fun p hp hn => by
    obtain ⟨h1, h2⟩ := ok.own p hp
    refine ⟨?_, Own1.mono le.g (fun o e => le.h _ o e hn) h2⟩
    cases z : G' p.1 with
    | none => rfl
    | some u =>
      rcases le.n p.1 (by rw [z]; simp) with w | w | w
      · exact absurd h1 w
      · exact absurd w (there p hp)
      · exact absurd w hn
  refine ⟨⟨ok'.ex, fun p hp => ?_, ?_⟩, ⟨le.g, fun a o e n => le.h a o e fun m => n (by simp only [adr, List.map_append, List.mem_append]; exact .inl (.inr m)), fun a e => (le.n a e).imp id (fun q => q.imp id fun m => by simp only [adr, List.map_append, List.mem_append]; exact .inl (.inr m)), fun a m => ?_, le.dm⟩⟩
  · rcases List.mem_append.mp hp with hp | hp
    · rcases List.mem_append.mp hp with hp | hp
      · exact keep p (by simp [hp]) (nA p hp)
      · exact ok'.own p hp
    · exact keep p (by simp [hp]) (nB p hp)
  · have out : ∀ p, p ∈ A ++ R ++ B → p.1 ∉ adr R → p.1 ∉ adr R' := fun p hp hn m => by
      rcases le.r p.1 m with z | z
      · exact hn z
      · exact there p hp z
    show ((A ++ R' ++ B).map (·.1)).Nodup
    rw [List.map_append, List.map_append]
    refine List.nodup_append.mpr ⟨List.nodup_append.mpr ⟨qA, ok'.nd, fun x hx y hy z => ?_⟩, qB, fun x hx y hy z => ?_⟩
    · obtain ⟨p, hp, rfl⟩ := List.mem_map.mp hx
      exact out p (by simp [hp]) (nA p hp) (z ▸ hy)
    · obtain ⟨p, hp, rfl⟩ := List.mem_map.mp hy
      rcases List.mem_append.mp hx with hx | hx
      · exact qd x (List.mem_append.mpr (.inl hx)) p.1 (List.mem_map.mpr ⟨p, hp, rfl⟩) z
      · exact out p (by simp [hp]) (nB p hp) (z ▸ hx)
  · simp only [adr, List.map_append, List.mem_append] at m ⊢
    rcases m with (m | m) | m
    · exact .inl (.inl (.inl m))
    · rcases le.r a m with z | z
      · exact .inl (.inl (.inr z))
      · exact .inr z
    · exact .inl (.inr m)
end

/-! ### slots -/
abbrev DEnv := List (Option D)
structure DE (K : PySem.W.Frag) (G : Hp) (σ : L2.St) (δ : DEnv) : Prop where
  len : σ.length = δ.length
  get : ∀ (i : Nat) (d : D), δ[i]? = some (some d) → ∃ v, σ[i]? = some (some v) ∧ HD K G v d
section
variable {K : PySem.W.Frag} {G G' : Hp} {σ : L2.St} {δ : DEnv}
theorem DE.mono (e : Gx G G') (h : DE K G σ δ) : DE K G' σ δ := ⟨h.len, fun i d q => let ⟨v, a, b⟩ := h.get i d q; ⟨v, a, b.mono e⟩⟩
theorem DE.set (h : DE K G σ δ) {i : Nat} {v : V} {d : D} (q : HD K G v d) : DE K G (σ.set i (some v)) (δ.set i (some d)) := by
  refine ⟨by rw [List.length_set, List.length_set]; exact h.len, fun j e hj => ?_⟩
  by_cases z : i = j
  · subst z
    by_cases hi : i < δ.length
    · rw [List.getElem?_set_self hi] at hj
      cases hj
      exact ⟨v, by rw [List.getElem?_set_self (by rw [h.len]; exact hi)], q⟩
    · rw [List.getElem?_eq_none (by simpa using hi)] at hj; cases hj
  · rw [List.getElem?_set_ne z] at hj ⊢
    exact h.get j e hj
theorem DE.unset (h : DE K G σ δ) {i : Nat} {o : Option V} : DE K G (σ.set i o) (δ.set i none) := by
  refine ⟨by rw [List.length_set, List.length_set]; exact h.len, fun j e hj => ?_⟩
  by_cases z : i = j
  · subst z
    by_cases hi : i < δ.length
    · rw [List.getElem?_set_self hi] at hj; cases hj
    · rw [List.getElem?_eq_none (by simpa using hi)] at hj; cases hj
  · rw [List.getElem?_set_ne z] at hj ⊢
    exact h.get j e hj
def wipeD (δ : DEnv) : List Nat → DEnv
  | [] => δ
  | v :: vs => (wipeD δ vs).set v none
theorem DE.wipe (h : DE K G σ δ) : ∀ (vs : List Nat), DE K G (L2.wipe σ vs) (wipeD δ vs)
  | [] => h
  | v :: vs => (DE.wipe h vs).unset
theorem wipe_set {σ : L2.St} {j : Nat} {x : Option V} : ∀ {vs : List Nat}, j ∈ vs → L2.wipe ((L2.wipe σ vs).set j x) vs = L2.wipe σ vs := by
  have look : ∀ (vs : List Nat) (τ : L2.St) (i : Nat), (L2.wipe τ vs)[i]? = if i ∈ vs then (if i < τ.length then some none else none) else τ[i]? := by
    intro vs
    induction vs with
    | nil => intro τ i; simp [L2.wipe]
    | cons v vs ih =>
      intro τ i
      show ((L2.wipe τ vs).set v none)[i]? = _
      rw [List.getElem?_set]
      by_cases z : v = i
      · subst z
        simp [L2.wipe_length]
      · have z' : i ≠ v := fun e => z e.symm
        rw [if_neg z, ih]
        simp [z']
  intro vs hj
  apply List.ext_getElem?
  intro i
  rw [look, look]
  by_cases hi : i ∈ vs
  · rw [if_pos hi, if_pos hi]
    simp [L2.wipe_length]
  · rw [if_neg hi, if_neg hi]
    have z : j ≠ i := fun e => hi (e ▸ hj)
    rw [List.getElem?_set_ne z, look, if_neg hi]
theorem DE.weak {δ' : DEnv} (h : DE K G σ δ) (hl : δ'.length = δ.length) (w : ∀ (i : Nat) (d : D), δ'[i]? = some (some d) → δ[i]? = some (some d)) : DE K G σ δ' :=
  ⟨h.len.trans hl.symm, fun i d q => h.get i d (w i d q)⟩
end
end Fl
/-! What an expression is worth, by slots δ and owned objects R. -/
namespace Fl
open PySem PySem.Spec PyProof.Rows L2
section
variable (K : PySem.W.Frag)
/-- te is worth d, and what is owned stays -/
def Ev (δ : DEnv) (R : Res) (te : TE) (d : D) : Prop := ∀ (G H : Hp) (σ : L2.St) (Q : VK), Ok K G H R → DE K G σ δ → (∀ v G' H', Ok K G' H' R → Le G H R G' H' R → HD K G' v d → Q v H') → te σ H Q
/-- te is a new list of ds, nobody else's -/
def EvF (δ : DEnv) (R : Res) (te : TE) (ds : List PyData) : Prop := ∀ (G H : Hp) (σ : L2.St) (Q : VK), Ok K G H R → DE K G σ δ → (∀ a G' H', Ok K G' H' ((a, .lst ds) :: R) → Le G H R G' H' ((a, .lst ds) :: R) → Q (.ref a) H') → te σ H Q
def EvA (δ : DEnv) (R : Res) (ta : TA) (ds : List D) : Prop := ∀ (G H : Hp) (σ : L2.St) (Q : List V → Hp → Prop), Ok K G H R → DE K G σ δ → (∀ vs G' H', Ok K G' H' R → Le G H R G' H' R → (vs.length = ds.length ∧ ∀ (i : Nat) (v : V) (d : D), vs[i]? = some v → ds[i]? = some d → HD K G' v d) → Q vs H') → ta σ H Q
def EvX (δ : DEnv) (R : Res) (ta : TA) (xs : List PyData) : Prop := ∀ (G H : Hp) (σ : L2.St) (Q : List V → Hp → Prop), Ok K G H R → DE K G σ δ → (∀ vs G' H', Ok K G' H' R → Le G H R G' H' R → Hvs G' vs xs → Q vs H') → ta σ H Q
def EvT (δ : DEnv) (R : Res) (tt : TT) (b : Bool) : Prop := ∀ (G H : Hp) (σ : L2.St) (Q : Bool → Hp → Prop), Ok K G H R → DE K G σ δ → (∀ G' H', Ok K G' H' R → Le G H R G' H' R → Q b H') → tt σ H Q
def EvO (δ : DEnv) (R : Res) (to : TO) (o : Option Int) : Prop := ∀ (G H : Hp) (σ : L2.St) (Q : Option Int → Hp → Prop), Ok K G H R → DE K G σ δ → (∀ G' H', Ok K G' H' R → Le G H R G' H' R → Q o H') → to σ H Q
/-- an operator on two values; a call on values -/
def RV (R : Res) (r : R2) (x y z : D) : Prop := ∀ (G H : Hp) (v w : V) (Q : VK), Ok K G H R → HD K G v x → HD K G w y → (∀ u G' H', Ok K G' H' R → Le G H R G' H' R → HD K G' u z → Q u H') → r v w H Q
def RVF (R : Res) (r : R2) (x y : D) (ds : List PyData) : Prop := ∀ (G H : Hp) (v w : V) (Q : VK), Ok K G H R → HD K G v x → HD K G w y → (∀ a G' H', Ok K G' H' ((a, .lst ds) :: R) → Le G H R G' H' ((a, .lst ds) :: R) → Q (.ref a) H') → r v w H Q
end
section
variable {K : PySem.W.Frag} {G G' H H' : Hp} {R : Res} {δ : DEnv} {ta tb tc te : TE} {d x y z : D} {r : R2}
theorem Le.adr_ne {a : Addr} {q : RO} (ok : Ok K G' H' ((a, q) :: R)) (ok0 : Ok K G H R) : a ∉ adr R := (List.nodup_cons.mp (show (a :: adr R).Nodup from ok.nd)).1
theorem ev_frz {ds : List PyData} (h : EvF K δ R te ds) : Ev K δ R te (.d (.list ds)) := fun G H σ Q ok en k => h G H σ Q ok en fun a G' H' ok' le => by
  obtain ⟨G2, ok2, le2, hv, _⟩ := ok'.freeze le (Le.adr_ne ok' ok)
  exact k _ G2 H' ok2 le2 hv
theorem ev_var {i : Nat} (h : δ[i]? = some (some d)) : Ev K δ R (tVar i) d := fun G H σ Q ok en k => by
  obtain ⟨v, e, q⟩ := en.get i d h
  exact ⟨v, e, k v G H ok .refl q⟩
theorem ev_non : Ev K δ R (tC .non) (.d .none) := fun G H σ Q ok en k => k _ G H ok .refl (show Hv G _ _ from .non)
theorem ev_bl {b : Bool} : Ev K δ R (tC (.bl b)) (.d (.bool b)) := fun G H σ Q ok en k => k _ G H ok .refl (show Hv G _ _ from .bl b)
theorem ev_int {i : Int} : Ev K δ R (tC (.int i)) (.d (.int i)) := fun G H σ Q ok en k => k _ G H ok .refl (show Hv G _ _ from .int i)
theorem ev_str {s : Str} : Ev K δ R (tC (.str s)) (.d (.str s)) := fun G H σ Q ok en k => k _ G H ok .refl (show Hv G _ _ from .str s)
theorem ev_op (ha : Ev K δ R ta x) (hb : Ev K δ R tb y) (hr : RV K R r x y z) : Ev K δ R (tOp r ta tb) z := fun G H σ Q ok en k =>
  ha G H σ _ ok en fun v G1 H1 ok1 l1 h1 => hb G1 H1 σ _ ok1 (en.mono l1.g) fun w G2 H2 ok2 l2 h2 =>
    hr G2 H2 v w Q ok2 (h1.mono l2.g) h2 fun u G3 H3 ok3 l3 h3 => k u G3 H3 ok3 ((l1.trans l2).trans l3) h3
theorem evf_op {ds : List PyData} (ha : Ev K δ R ta x) (hb : Ev K δ R tb y) (hr : RVF K R r x y ds) : EvF K δ R (tOp r ta tb) ds := fun G H σ Q ok en k =>
  ha G H σ _ ok en fun v G1 H1 ok1 l1 h1 => hb G1 H1 σ _ ok1 (en.mono l1.g) fun w G2 H2 ok2 l2 h2 =>
    hr G2 H2 v w Q ok2 (h1.mono l2.g) h2 fun a G3 H3 ok3 l3 => k a G3 H3 ok3 ((l1.trans l2).trans l3)
theorem ev_is {d' : D} (h : Ev K δ R te d) (e : d = d') : Ev K δ R te d' := e ▸ h
theorem evf_is {ds es : List PyData} (h : EvF K δ R te ds) (e : ds = es) : EvF K δ R te es := e ▸ h

/-! ### views: what an owned list reads as -/
inductive Vw (R : Res) : D → PyData → Prop
  | d (x : PyData) : Vw R (.d x) x
  | own {i : Nat} {a : Addr} {ds : List PyData} (h : R[i]? = some (a, .lst ds)) : Vw R (.r a) (.list ds)
  | two {i j k : Nat} {a b c : Addr} {xs ys : List PyData} (h : R[i]? = some (c, .lsr [a, b])) (h1 : R[j]? = some (a, .lst xs)) (h2 : R[k]? = some (b, .lst ys)) : Vw R (.r c) (.list [.list xs, .list ys])
theorem Vw.hv {x : PyData} {v : V} (w : Vw R d x) (ok : Ok K G H R) (h : HD K G v d) : Hv H v x := by
  cases w with
  | d => exact Hv.mono ok.ex _ h
  | own e =>
    obtain ⟨vs, q1, q2, q3⟩ := ok.at e
    cases (show v = .ref _ from h)
    exact .lst q1 q2 (Hvs.mono ok.ex _ q3)
  | two e e1 e2 =>
    obtain ⟨p1, p2⟩ := ok.at e
    obtain ⟨vs, q1, q2, q3⟩ := ok.at e1
    obtain ⟨ws, r1, r2, r3⟩ := ok.at e2
    cases (show v = .ref _ from h)
    exact .lst p1 (by show 2 ≤ 50000; decide) (.cons (.lst q1 q2 (Hvs.mono ok.ex _ q3)) (.cons (.lst r1 r2 (Hvs.mono ok.ex _ r3)) .nil))
/-- a list, its items data of G -/
inductive Ls (R : Res) : D → List PyData → Prop
  | d (ds : List PyData) : Ls R (.d (.list ds)) ds
  | own {i : Nat} {a : Addr} {ds : List PyData} (h : R[i]? = some (a, .lst ds)) : Ls R (.r a) ds
theorem Ls.hv {ds : List PyData} {v : V} (w : Ls R d ds) (ok : Ok K G H R) (h : HD K G v d) : ∃ a vs, v = .ref a ∧ H a = some (.lst vs) ∧ vs.length ≤ 50000 ∧ Hvs G vs ds := by
  cases w with
  | d =>
    cases (show Hv G v (.list ds) from h) with
    | lst h1 h2 h3 => exact ⟨_, _, rfl, ok.ex _ _ h1, h2, h3⟩
  | own e =>
    obtain ⟨vs, q1, q2, q3⟩ := ok.at e
    cases (show v = .ref _ from h)
    exact ⟨_, _, rfl, q1, q2, q3⟩

/-! ### the operators -/
theorem rv_I0 {g : Int → Int → V} {i j : Int} {x : PyData} (h : ∀ G, Hv G (g i j) x) : RV K R (rI0 g) (.d (.int i)) (.d (.int j)) (.d x) := fun G H v w Q ok h1 h2 k => by
  cases (show Hv G v (.int i) from h1)
  cases (show Hv G w (.int j) from h2)
  exact ⟨i, j, rfl, rfl, k _ G H ok .refl (h G)⟩
theorem rv_I {C : Int → Int → Prop} {g : Int → Int → V} {i j : Int} {x : PyData} (hc : C i j) (h : ∀ G, Hv G (g i j) x) : RV K R (rI C g) (.d (.int i)) (.d (.int j)) (.d x) := fun G H v w Q ok h1 h2 k => by
  cases (show Hv G v (.int i) from h1)
  cases (show Hv G w (.int j) from h2)
  exact ⟨i, j, rfl, rfl, hc, k _ G H ok .refl (h G)⟩
/-- + of ints, texts, lists -/
def rPlus : R2 := fun x y H Q => rI0 (fun i j => .int (i + j)) x y H Q ∨ (∃ i j, x = .str i ∧ y = .str j ∧ i.length + j.length ≤ sizeLine ∧ Q (.str (i ++ j)) H) ∨ rCat x y H Q
theorem op_plus {X : Cx} : OpR X (binaryOp .Add) rPlus := fun pins s σ H x y u v Q I rx ry h => by
  rcases h with h | h | h
  · exact op_add pins s σ H x y u v Q I rx ry h
  · exact op_add_str pins s σ H x y u v Q I rx ry h
  · exact op_cat pins s σ H x y u v Q I rx ry h
theorem rv_plusI {i j : Int} : RV K R rPlus (.d (.int i)) (.d (.int j)) (.d (.int (i + j))) := fun G H v w Q ok h1 h2 k => .inl (rv_I0 (fun _ => .int _) G H v w Q ok h1 h2 k)
theorem rv_plusS {i j : Str} (hl : i.length + j.length ≤ 50000) : RV K R rPlus (.d (.str i)) (.d (.str j)) (.d (.str (i ++ j))) := fun G H v w Q ok h1 h2 k => by
  cases (show Hv G v (.str i) from h1)
  cases (show Hv G w (.str j) from h2)
  exact .inr (.inl ⟨i, j, rfl, rfl, lim_le hl, k _ G H ok .refl (show Hv G _ _ from .str _)⟩)
theorem rvf_plus {xs ys : List PyData} (hx : Ls R x xs) (hy : Ls R y ys) (hl : xs.length + ys.length ≤ 50000) : RVF K R rPlus x y (xs ++ ys) := fun G H v w Q ok h1 h2 k => by
  obtain ⟨a, vs, rfl, ea, la, ha⟩ := hx.hv ok h1
  obtain ⟨b, ws, rfl, eb, lb, hb⟩ := hy.hv ok h2
  have e1 := ha.len
  have e2 := hb.len
  refine .inr (.inr ⟨a, b, vs, ws, rfl, rfl, ea, eb, lim_le (by omega), fun p hp => ?_⟩)
  obtain ⟨ok', le⟩ := ok.laid (q := .lst (xs ++ ys)) hp ⟨_, upd_same, by rw [List.length_append]; omega, ha.app hb⟩
  exact k p _ _ ok' le
theorem rv_of_F {ds : List PyData} (h : RVF K R r x y ds) : RV K R r x y (.d (.list ds)) := fun G H v w Q ok h1 h2 k => h G H v w Q ok h1 h2 fun a G' H' ok' le => by
  obtain ⟨G2, ok2, le2, hv, _⟩ := ok'.freeze le (Le.adr_ne ok' ok)
  exact k _ G2 H' ok2 le2 hv
abbrev rMinus : R2 := rI0 fun i j => .int (i - j)
abbrev rTimes : R2 := rI CMul fun i j => .int (i * j)
abbrev rDiv : R2 := rI CDiv fun i j => .int (i / j)
abbrev rMod : R2 := rI (fun _ j => 0 < j) fun i j => .int (i % j)
abbrev rPow : R2 := rI CPow fun i j => .int (i ^ j.toNat)
abbrev rLt : R2 := rI0 fun i j => .bl (decide (i < j))
abbrev rLe : R2 := rI0 fun i j => .bl (decide (i ≤ j))
abbrev rGt : R2 := rI0 fun i j => .bl (decide (j < i))
abbrev rGe : R2 := rI0 fun i j => .bl (decide (j ≤ i))
/-- == and != of data -/
def rEqP (K : PySem.W.Frag) : R2 := fun x y H Q => ∃ d e, Dp K H x d ∧ Dp K H y e ∧ d.plain = true ∧ e.plain = true ∧ min d.depth e.depth ≤ 64 ∧ Q (.bl (PyData.eqv d e)) H
def rNeP (K : PySem.W.Frag) : R2 := fun x y H Q => ∃ d e, Dp K H x d ∧ Dp K H y e ∧ d.plain = true ∧ e.plain = true ∧ min d.depth e.depth ≤ 64 ∧ Q (.bl (!PyData.eqv d e)) H
theorem op_eqP {X : Cx} (hu : X.A.units + 64 < cLine) : OpR X (compareOp .Eq) (rEqP X.K) := by
  intro pins s σ H x y v u Q I rx ry h
  obtain ⟨d, e, hd, he, sd, se, hm, q⟩ := h
  obtain ⟨as, r1⟩ := Dp.reads I d x v hd rx
  obtain ⟨bs, r2⟩ := Dp.reads I e y u he ry
  exact SeqAt.eq_plain r1 r2 sd se (by omega) ⟨.bl _, H, I, rfl, q⟩
theorem op_neP {X : Cx} (hu : X.A.units + 64 < cLine) : OpR X (compareOp .NotEq) (rNeP X.K) := by
  intro pins s σ H x y v u Q I rx ry h
  obtain ⟨d, e, hd, he, sd, se, hm, q⟩ := h
  obtain ⟨as, r1⟩ := Dp.reads I d x v hd rx
  obtain ⟨bs, r2⟩ := Dp.reads I e y u he ry
  exact SeqAt.ne_plain r1 r2 sd se (by omega) ⟨.bl _, H, I, rfl, q⟩
theorem rv_eq {a b : PyData} (ha : Vw R x a) (hb : Vw R y b) (hm : min a.depth b.depth ≤ 64) : RV K R (rEqP K) x y (.d (.bool (PyData.eqv a b))) := fun G H v w Q ok h1 h2 k => by
  have q1 := ha.hv ok h1
  have q2 := hb.hv ok h2
  exact ⟨a, b, Hv.dp a q1, Hv.dp b q2, Hv.plain a q1, Hv.plain b q2, hm, k _ G H ok .refl (show Hv G _ _ from .bl _)⟩
theorem rv_ne {a b : PyData} (ha : Vw R x a) (hb : Vw R y b) (hm : min a.depth b.depth ≤ 64) : RV K R (rNeP K) x y (.d (.bool (!PyData.eqv a b))) := fun G H v w Q ok h1 h2 k => by
  have q1 := ha.hv ok h1
  have q2 := hb.hv ok h2
  exact ⟨a, b, Hv.dp a q1, Hv.dp b q2, Hv.plain a q1, Hv.plain b q2, hm, k _ G H ok .refl (show Hv G _ _ from .bl _)⟩
/-- in, not in: a list or a tuple -/
def rInP (K : PySem.W.Frag) (neg : Bool) : R2 := fun x y H Q => ∃ d es, Dp K H x d ∧ (Dp K H y (.list es) ∨ Dp K H y (.tuple es)) ∧ d.plain = true ∧ PyData.plainAll es = true ∧ min (PyData.depthAll es) d.depth ≤ 60 ∧ Q (.bl (if neg then !(es.any fun e => PyData.eqv e d) else es.any fun e => PyData.eqv e d)) H
theorem op_inP {X : Cx} (hu : X.A.units + 64 < cLine) : OpR X (compareOp .In) (rInP X.K false) := by
  intro pins s σ H x y v u Q I rx ry h
  obtain ⟨d, es, hd, he, sd, se, hm, q⟩ := h
  obtain ⟨as, r1⟩ := Dp.reads I d x v hd rx
  rcases he with he | he
  · obtain ⟨bs, r2⟩ := Dp.reads I _ y u he ry
    exact SeqAt.in_list_data r2 r1 se sd (by omega) ⟨.bl _, H, I, rfl, q⟩
  · obtain ⟨bs, r2⟩ := Dp.reads I _ y u he ry
    exact SeqAt.in_tuple_data r2 r1 se sd (by omega) ⟨.bl _, H, I, rfl, q⟩
theorem op_ninP {X : Cx} (hu : X.A.units + 64 < cLine) : OpR X (compareOp .NotIn) (rInP X.K true) := by
  intro pins s σ H x y v u Q I rx ry h
  obtain ⟨d, es, hd, he, sd, se, hm, q⟩ := h
  obtain ⟨as, r1⟩ := Dp.reads I d x v hd rx
  rcases he with he | he
  · obtain ⟨bs, r2⟩ := Dp.reads I _ y u he ry
    exact SeqAt.notIn_list_data r2 r1 se sd (by omega) ⟨.bl _, H, I, rfl, q⟩
  · obtain ⟨bs, r2⟩ := Dp.reads I _ y u he ry
    exact SeqAt.notIn_tuple_data r2 r1 se sd (by omega) ⟨.bl _, H, I, rfl, q⟩
inductive Sq (R : Res) : D → List PyData → Prop
  | l {d : D} {ds : List PyData} (h : Vw R d (.list ds)) : Sq R d ds
  | t (ds : List PyData) : Sq R (.d (.tuple ds)) ds
theorem rv_in {a : PyData} {es : List PyData} (ha : Vw R x a) (hb : Sq R y es) (hm : min (PyData.depthAll es) a.depth ≤ 60) : RV K R (rInP K false) x y (.d (.bool (es.any fun e => PyData.eqv e a))) := fun G H v w Q ok h1 h2 k => by
  have q1 := ha.hv ok h1
  refine ⟨a, es, Hv.dp a q1, ?_, Hv.plain a q1, ?_, hm, k _ G H ok .refl (show Hv G _ _ from .bl _)⟩
  · cases hb with
    | l h => exact .inl (Hv.dp _ (h.hv ok h2))
    | t => exact .inr (Hv.dp _ (Hv.mono ok.ex _ h2))
  · cases hb with
    | l h => exact Hv.plain _ (h.hv ok h2)
    | t => exact Hv.plain _ (Hv.mono ok.ex _ h2)
theorem rv_nin {a : PyData} {es : List PyData} (ha : Vw R x a) (hb : Sq R y es) (hm : min (PyData.depthAll es) a.depth ≤ 60) : RV K R (rInP K true) x y (.d (.bool (!(es.any fun e => PyData.eqv e a)))) := fun G H v w Q ok h1 h2 k => by
  have q1 := ha.hv ok h1
  refine ⟨a, es, Hv.dp a q1, ?_, Hv.plain a q1, ?_, hm, k _ G H ok .refl (show Hv G _ _ from .bl _)⟩
  · cases hb with
    | l h => exact .inl (Hv.dp _ (h.hv ok h2))
    | t => exact .inr (Hv.dp _ (Hv.mono ok.ex _ h2))
  · cases hb with
    | l h => exact Hv.plain _ (h.hv ok h2)
    | t => exact Hv.plain _ (Hv.mono ok.ex _ h2)
/-- is None -/
def rIsN : R2 := fun x y H Q => y = .non ∧ Q (.bl (decide (x = .non))) H
def rNotN : R2 := fun x y H Q => y = .non ∧ Q (.bl (!decide (x = .non))) H
def isNo : PyData → Bool
  | .none => true
  | _ => false
theorem Hv.isNo {G : Hp} {v : V} {x : PyData} (h : Hv G v x) : decide (v = .non) = Fl.isNo x := by
  cases h <;> rfl
theorem rv_isN {a : PyData} : RV K R rIsN (.d a) (.d .none) (.d (.bool (isNo a))) := fun G H v w Q ok h1 h2 k => by
  have q : Hv G v a := h1
  cases (show Hv G w .none from h2)
  refine ⟨rfl, ?_⟩
  rw [q.isNo]
  exact k _ G H ok .refl (show Hv G _ _ from .bl _)
theorem rv_notN {a : PyData} : RV K R rNotN (.d a) (.d .none) (.d (.bool (!isNo a))) := fun G H v w Q ok h1 h2 k => by
  have q : Hv G v a := h1
  cases (show Hv G w .none from h2)
  refine ⟨rfl, ?_⟩
  rw [q.isNo]
  exact k _ G H ok .refl (show Hv G _ _ from .bl _)
/-! ### subscripts -/
theorem atI_ds {G : Hp} {ds : List PyData} {vs : List V} {i : Int} {x : PyData} (h : Hvs G vs ds) (e : atI ds i = some x) : ∃ v, atI vs i = some v ∧ Hv G v x := by
  unfold atI at e ⊢
  rw [h.len]
  cases q : ixN ds.length i with
  | none => rw [q] at e; cases e
  | some j =>
    rw [q] at e
    exact h.getd e
theorem rv_ixL {ds : List PyData} {i : Int} {e : PyData} (h : Ls R x ds) (ha : atI ds i = some e) : RV K R (rIx K) x (.d (.int i)) (.d e) := fun G H v w Q ok h1 h2 k => by
  obtain ⟨a, vs, rfl, ea, la, hv⟩ := h.hv ok h1
  cases (show Hv G w (.int i) from h2)
  obtain ⟨u, q1, q2⟩ := atI_ds hv ha
  exact .inl ⟨a, vs, i, u, rfl, rfl, SqL.of ea, q1, k u G H ok .refl q2⟩
theorem rv_ixT {ds : List PyData} {i : Int} {e : PyData} (ha : atI ds i = some e) : RV K R (rIx K) (.d (.tuple ds)) (.d (.int i)) (.d e) := fun G H v w Q ok h1 h2 k => by
  cases (show Hv G w (.int i) from h2)
  cases (show Hv G v (.tuple ds) from h1) with
  | tup e1 e2 e3 =>
    obtain ⟨u, q1, q2⟩ := atI_ds e3 ha
    exact .inr (.inl ⟨_, _, i, u, rfl, rfl, SqT.of (ok.ex _ _ e1), q1, k u G H ok .refl q2⟩)
theorem rv_ixS {z : Str} {i : Int} {c : Nat} (hl : z.length ≤ 50000) (ha : atI z.cps.toList i = some c) : RV K R (rIx K) (.d (.str z)) (.d (.int i)) (.d (.str ⟨#[c]⟩)) := fun G H v w Q ok h1 h2 k => by
  cases (show Hv G v (.str z) from h1)
  cases (show Hv G w (.int i) from h2)
  exact .inr (.inr ⟨z, i, c, rfl, rfl, lim_le hl, ha, k _ G H ok .refl (show Hv G _ _ from .str _)⟩)
theorem atI_map {α β : Type} {f : α → β} {xs : List α} {i : Int} {v : α} (h : atI xs i = some v) : atI (xs.map f) i = some (f v) := by
  unfold atI at h ⊢
  rw [List.length_map]
  cases q : ixN xs.length i with
  | none => rw [q] at h; cases h
  | some j =>
    rw [q] at h
    show (xs.map f)[j]? = some (f v)
    rw [List.getElem?_map, show xs[j]? = some v from h]
    rfl
theorem rv_ixs {ns : List Int} {i n : Int} (ha : atI ns i = some n) : RV K R (rIx K) (.s ns) (.d (.int i)) (.d (.int n)) := fun G H v w Q ok h1 h2 k => by
  obtain ⟨a, rfl, hs⟩ := h1
  cases (show Hv G w (.int i) from h2)
  exact .inl ⟨a, _, i, .int n, rfl, rfl, gx_sql ok.ex hs, atI_map ha, k _ G H ok .refl (show Hv G _ _ from .int _)⟩
theorem rv_ixR {as : List Addr} {j : Nat} {a : Addr} {i : Int} {b : Addr} (h : R[j]? = some (a, .lsr as)) (ha : atI as i = some b) : RV K R (rIx K) (.r a) (.d (.int i)) (.r b) := fun G H v w Q ok h1 h2 k => by
  cases (show v = .ref a from h1)
  cases (show Hv G w (.int i) from h2)
  obtain ⟨q1, q2⟩ := ok.at h
  exact .inl ⟨a, _, i, .ref b, rfl, rfl, SqL.of q1, atI_map ha, k _ G H ok .refl rfl⟩
/-! ### slices -/
def cutD (xs : List PyData) (lo hi : Option Int) : List PyData := (xs.drop (HT.sIx xs.length 0 lo)).take (HT.sIx xs.length xs.length hi - HT.sIx xs.length 0 lo)
theorem eo_none : EvO K δ R tNoPart none := fun G H σ Q ok en k => k G H ok .refl
theorem eo_some {i : Int} (h : Ev K δ R te (.d (.int i))) : EvO K δ R (tPart te) (some i) := fun G H σ Q ok en k => h G H σ _ ok en fun v G1 H1 ok1 l1 h1 => by
  cases (show Hv G1 v (.int i) from h1)
  exact ⟨i, rfl, k G1 H1 ok1 l1⟩
theorem evf_sl {tl th : TO} {lo hi : Option Int} {xs : List PyData} (h : Ev K δ R te d) (h1 : EvO K δ R tl lo) (h2 : EvO K δ R th hi) (hl : Ls R d xs) : EvF K δ R (tSl (rSlL K) te tl th) (cutD xs lo hi) := fun G H σ Q ok en k =>
  h G H σ _ ok en fun v G1 H1 ok1 l1 q1 => h1 G1 H1 σ _ ok1 (en.mono l1.g) fun G2 H2 ok2 l2 => h2 G2 H2 σ _ ok2 ((en.mono l1.g).mono l2.g) fun G3 H3 ok3 l3 => by
    obtain ⟨a, vs, rfl, ea, la, hv⟩ := hl.hv ok3 (q1.mono (l2.g.trans l3.g))
    refine ⟨a, vs, rfl, SqL.of ea, fun p hp => ?_⟩
    have e := hv.len
    have hc : Hvs G3 (cutV vs lo hi) (cutD xs lo hi) := by
      unfold cutV cutD
      rw [e]
      exact (hv.drop _).take _
    obtain ⟨ok', le⟩ := ok3.laid (q := .lst (cutD xs lo hi)) hp ⟨_, upd_same, by unfold cutV; rw [List.length_take, List.length_drop]; omega, hc⟩
    exact k p _ _ ok' (((l1.trans l2).trans l3).trans le)
theorem cutV_map {f : Int → V} (ns : List Int) (lo hi : Option Int) : cutV (ns.map f) lo hi = ((ns.drop (HT.sIx ns.length 0 lo)).take (HT.sIx ns.length ns.length hi - HT.sIx ns.length 0 lo)).map f := by
  unfold cutV
  rw [List.length_map, List.map_take, List.map_drop]
def cutI (ns : List Int) (lo hi : Option Int) : List Int := (ns.drop (HT.sIx ns.length 0 lo)).take (HT.sIx ns.length ns.length hi - HT.sIx ns.length 0 lo)
theorem evf_sls {tl th : TO} {lo hi : Option Int} {ns : List Int} (h : Ev K δ R te (.s ns)) (h1 : EvO K δ R tl lo) (h2 : EvO K δ R th hi) (hn : ns.length ≤ 50000) : EvF K δ R (tSl (rSlL K) te tl th) ((cutI ns lo hi).map .int) := fun G H σ Q ok en k =>
  h G H σ _ ok en fun v G1 H1 ok1 l1 q1 => h1 G1 H1 σ _ ok1 (en.mono l1.g) fun G2 H2 ok2 l2 => h2 G2 H2 σ _ ok2 ((en.mono l1.g).mono l2.g) fun G3 H3 ok3 l3 => by
    obtain ⟨a, rfl, hs⟩ := q1.mono (l2.g.trans l3.g)
    refine ⟨a, _, rfl, gx_sql ok3.ex hs, fun p hp => ?_⟩
    have e := cutV_map (f := V.int) ns lo hi
    rw [e]
    obtain ⟨ok', le⟩ := ok3.laid (q := .lst ((cutI ns lo hi).map .int)) hp ⟨_, upd_same, by rw [List.length_map]; unfold cutI; rw [List.length_take, List.length_drop]; omega, hvs_ints _⟩
    exact k p _ _ ok' (((l1.trans l2).trans l3).trans le)
theorem ev_sls {tl th : TO} {lo hi : Option Int} {z : Str} (h : Ev K δ R te (.d (.str z))) (h1 : EvO K δ R tl lo) (h2 : EvO K δ R th hi) (hn : z.length ≤ 50000) : Ev K δ R (tSl rSlS te tl th) (.d (.str (cutS z lo hi))) := fun G H σ Q ok en k =>
  h G H σ _ ok en fun v G1 H1 ok1 l1 q1 => h1 G1 H1 σ _ ok1 (en.mono l1.g) fun G2 H2 ok2 l2 => h2 G2 H2 σ _ ok2 ((en.mono l1.g).mono l2.g) fun G3 H3 ok3 l3 => by
    cases (show Hv G1 v (.str z) from q1)
    exact ⟨z, rfl, lim_le hn, k _ G3 H3 ok3 ((l1.trans l2).trans l3) (show Hv G3 _ _ from .str _)⟩
/-! ### arguments, displays -/
theorem ex_nil : EvX K δ R tNil [] := fun G H σ Q ok en k => k _ G H ok .refl .nil
theorem ex_cons {tr : TA} {x : PyData} {xs : List PyData} (h : Ev K δ R ta (.d x)) (hr : EvX K δ R tr xs) : EvX K δ R (tCons ta tr) (x :: xs) := fun G H σ Q ok en k =>
  h G H σ _ ok en fun v G1 H1 ok1 l1 q1 => hr G1 H1 σ _ ok1 (en.mono l1.g) fun vs G2 H2 ok2 l2 q2 => k _ G2 H2 ok2 (l1.trans l2) (.cons (Hv.mono l2.g _ q1) q2)
theorem ea_nil : EvA K δ R tNil [] := fun G H σ Q ok en k => k _ G H ok .refl ⟨rfl, fun i v d h => by simp at h⟩
theorem ea_cons {tr : TA} {ds : List D} (h : Ev K δ R ta d) (hr : EvA K δ R tr ds) : EvA K δ R (tCons ta tr) (d :: ds) := fun G H σ Q ok en k =>
  h G H σ _ ok en fun v G1 H1 ok1 l1 q1 => hr G1 H1 σ _ ok1 (en.mono l1.g) fun vs G2 H2 ok2 l2 ⟨q2, q3⟩ => k _ G2 H2 ok2 (l1.trans l2) ⟨by simp [q2], fun i u e h1 h2 => by
    cases i with
    | zero =>
      simp at h1 h2
      subst h1 h2
      exact q1.mono l2.g
    | succ i => exact q3 i u e (by simpa using h1) (by simpa using h2)⟩
theorem ev_tup {ta : TA} {xs : List PyData} (h : EvX K δ R ta xs) (hl : xs.length ≤ 50000) : Ev K δ R (tTup ta) (.d (.tuple xs)) := fun G H σ Q ok en k => h G H σ _ ok en fun vs G1 H1 ok1 l1 q1 => by
  have e := q1.len
  refine ⟨lim_le (by omega), fun p hp => ?_⟩
  obtain ⟨ok', le⟩ := ok1.seen (o := .tup vs) hp
  exact k _ _ _ ok' (l1.trans le) (show Hv _ _ _ from .tup upd_same (by omega) (Hvs.mono le.g _ q1))
theorem evf_lst {ta : TA} {xs : List PyData} (h : EvX K δ R ta xs) (hl : xs.length ≤ 50000) : EvF K δ R (tLst ta) xs := fun G H σ Q ok en k => h G H σ _ ok en fun vs G1 H1 ok1 l1 q1 => by
  have e := q1.len
  refine ⟨lim_le (by omega), fun p hp => ?_⟩
  obtain ⟨ok', le⟩ := ok1.laid (q := .lst xs) (o := .lst vs) hp ⟨vs, upd_same, by omega, q1⟩
  exact k _ _ _ ok' (l1.trans le)
/-! ### tests, and, or, not -/
theorem et_val {b : Bool} (h : Ev K δ R te (.d (.bool b))) : EvT K δ R (tB te) b := fun G H σ Q ok en k => h G H σ _ ok en fun v G1 H1 ok1 l1 q1 => by
  cases (show Hv G1 v (.bool b) from q1)
  exact ⟨b, rfl, k G1 H1 ok1 l1⟩
theorem et_test {b : Bool} (h : Ev K δ R te (.d (.bool b))) : EvT K δ R (tTest te) b := fun G H σ Q ok en k => h G H σ _ ok en fun v G1 H1 ok1 l1 q1 => by
  cases (show Hv G1 v (.bool b) from q1)
  exact ⟨b, rfl, k G1 H1 ok1 l1⟩
theorem et_not {t : TT} {b : Bool} (h : EvT K δ R t b) : EvT K δ R (tNot t) (!b) := fun G H σ Q ok en k => h G H σ _ ok en fun G1 H1 ok1 l1 => k G1 H1 ok1 l1
theorem et_and {t u : TT} {a b : Bool} (h1 : EvT K δ R t a) (h2 : a = true → EvT K δ R u b) : EvT K δ R (tAnd t u) (a && b) := fun G H σ Q ok en k => h1 G H σ _ ok en fun G1 H1 ok1 l1 => by
  cases a with
  | true =>
    rw [if_pos rfl]
    exact h2 rfl G1 H1 σ Q ok1 (en.mono l1.g) fun G2 H2 ok2 l2 => k G2 H2 ok2 (l1.trans l2)
  | false =>
    rw [if_neg Bool.false_ne_true]
    exact k G1 H1 ok1 l1
theorem et_or {t u : TT} {a b : Bool} (h1 : EvT K δ R t a) (h2 : a = false → EvT K δ R u b) : EvT K δ R (tOr t u) (a || b) := fun G H σ Q ok en k => h1 G H σ _ ok en fun G1 H1 ok1 l1 => by
  cases a with
  | true =>
    rw [if_pos rfl]
    exact k G1 H1 ok1 l1
  | false =>
    rw [if_neg Bool.false_ne_true]
    exact h2 rfl G1 H1 σ Q ok1 (en.mono l1.g) fun G2 H2 ok2 l2 => k G2 H2 ok2 (l1.trans l2)
theorem et_is {t : TT} {a b : Bool} (h : EvT K δ R t a) (e : a = b) : EvT K δ R t b := e ▸ h
theorem et_yes : EvT K δ R tYes true := fun G H σ Q ok en k => k G H ok .refl
theorem ev_not {b : Bool} (h : Ev K δ R te (.d (.bool b))) : Ev K δ R (tNotV te) (.d (.bool (!b))) := fun G H σ Q ok en k => h G H σ _ ok en fun v G1 H1 ok1 l1 q1 => by
  cases (show Hv G1 v (.bool b) from q1)
  exact ⟨b, rfl, k _ G1 H1 ok1 l1 (show Hv G1 _ _ from .bl _)⟩
theorem ev_and {a b : Bool} (h1 : Ev K δ R ta (.d (.bool a))) (h2 : a = true → Ev K δ R tb (.d (.bool b))) : Ev K δ R (tAndV ta tb) (.d (.bool (a && b))) := fun G H σ Q ok en k => h1 G H σ _ ok en fun v G1 H1 ok1 l1 q1 => by
  cases (show Hv G1 v (.bool a) from q1)
  refine ⟨a, rfl, ?_⟩
  cases a with
  | true =>
    rw [if_pos rfl]
    exact h2 rfl G1 H1 σ Q ok1 (en.mono l1.g) fun u G2 H2 ok2 l2 => k u G2 H2 ok2 (l1.trans l2)
  | false =>
    rw [if_neg Bool.false_ne_true]
    exact k _ G1 H1 ok1 l1 (show Hv G1 _ _ from .bl _)
theorem ev_or {a b : Bool} (h1 : Ev K δ R ta (.d (.bool a))) (h2 : a = false → Ev K δ R tb (.d (.bool b))) : Ev K δ R (tOrV ta tb) (.d (.bool (a || b))) := fun G H σ Q ok en k => h1 G H σ _ ok en fun v G1 H1 ok1 l1 q1 => by
  cases (show Hv G1 v (.bool a) from q1)
  refine ⟨a, rfl, ?_⟩
  cases a with
  | true =>
    rw [if_pos rfl]
    exact k _ G1 H1 ok1 l1 (show Hv G1 _ _ from .bl _)
  | false =>
    rw [if_neg Bool.false_ne_true]
    exact h2 rfl G1 H1 σ Q ok1 (en.mono l1.g) fun u G2 H2 ok2 l2 => k u G2 H2 ok2 (l1.trans l2)
theorem ev_chain {r r' : R2} {a b : Bool} (h1 : Ev K δ R ta x) (h2 : Ev K δ R tb y) (hr : RV K R r x y (.d (.bool a))) (h3 : a = true → Ev K δ R tc z ∧ RV K R r' y z (.d (.bool b))) : Ev K δ R (tChain r r' ta tb tc) (.d (.bool (a && b))) := fun G H σ Q ok en k =>
  h1 G H σ _ ok en fun v G1 H1 ok1 l1 q1 => h2 G1 H1 σ _ ok1 (en.mono l1.g) fun w G2 H2 ok2 l2 q2 => hr G2 H2 v w _ ok2 (q1.mono l2.g) q2 fun u G3 H3 ok3 l3 q3 => by
    cases (show Hv G3 u (.bool a) from q3)
    refine ⟨a, rfl, ?_⟩
    cases a with
    | true =>
      rw [if_pos rfl]
      obtain ⟨h4, h5⟩ := h3 rfl
      exact h4 G3 H3 σ _ ok3 (en.mono ((l1.trans l2).trans l3).g) fun u' G4 H4 ok4 l4 q4 => h5 G4 H4 w u' Q ok4 (q2.mono (l3.trans l4).g) q4 fun u'' G5 H5 ok5 l5 q5 => k u'' G5 H5 ok5 ((((l1.trans l2).trans l3).trans l4).trans l5) q5
    | false =>
      rw [if_neg Bool.false_ne_true]
      exact k _ G3 H3 ok3 ((l1.trans l2).trans l3) (show Hv G3 _ _ from .bl _)
/-! ### fields, dicts -/
theorem Fvs.look {K : PySem.W.Frag} {G : Hp} : ∀ {vs : List (Str × V)} {ds : List (Str × D)} {f : Str} {d : D}, Fvs K G vs ds → ds.lookup f = some d → ∃ v, vs.lookup f = some v ∧ HD K G v d
  | _, _, f, d, .nil, e => by simp at e
  | _, _, f, d, .cons (k := k) h t, e => by
    rw [List.lookup_cons] at e ⊢
    cases q : f == k with
    | true => rw [q] at e; cases e; exact ⟨_, rfl, h⟩
    | false => rw [q] at e; exact Fvs.look t e
theorem Fvs.lookN {K : PySem.W.Frag} {G : Hp} : ∀ {vs : List (Str × V)} {ds : List (Str × D)} {f : Str}, Fvs K G vs ds → ds.lookup f = none → vs.lookup f = none
  | _, _, f, .nil, e => rfl
  | _, _, f, .cons (k := k) h t, e => by
    rw [List.lookup_cons] at e ⊢
    cases q : f == k with
    | true => rw [q] at e; cases e
    | false => rw [q] at e; exact Fvs.lookN t e
theorem ev_fld {i : Nat} {a C : Addr} {fs : List (Str × D)} {f : Str} (h : Ev K δ R ta (.r a)) (hi : R[i]? = some (a, .ins C fs)) (hl : fs.lookup f = some d) (hc : Cls K C) (hn : NoAttr K C f) : Ev K δ R (tFld K ta f) d := fun G H σ Q ok en k =>
  h G H σ _ ok en fun v G1 H1 ok1 l1 q1 => by
    cases (show v = .ref a from q1)
    obtain ⟨dx, vs, e, fv⟩ := ok1.at hi
    obtain ⟨w, e2, q2⟩ := fv.look hl
    exact ⟨a, C, dx, vs, w, rfl, e, hc, hn, e2, k w G1 H1 ok1 l1 q2⟩
/-- a key -/
def keyD : Key → PyData
  | .inl i => .int i
  | .inr x => .str x
theorem Hv.key {G : Hp} {v : V} {k : Key} (h : Hv G v (keyD k)) : v = kV k := by
  cases k <;> (cases h; rfl)
def valD {κ : Type} [DecidableEq κ] (kvs : List (κ × D)) (k : κ) : Option D := (kvs.find? fun kv => decide (kv.1 = k)).map (·.2)
def ValAt (K : PySem.W.Frag) (G : Hp) (o : Option V) : Option D → Prop
  | some d => ∃ v, o = some v ∧ HD K G v d
  | none => o = none
theorem Fvs.val {K : PySem.W.Frag} {G : Hp} {κ : Type} [DecidableEq κ] {k : κ} : ∀ {vs : List (κ × V)} {ds : List (κ × D)}, Fvs K G vs ds → ValAt K G (valV vs k) (valD ds k)
  | _, _, .nil => rfl
  | _, _, .cons (k := j) (v := v) (d := d) (vs := vs) (ds := ds) h t => by
    by_cases e : j = k
    · have q1 : valD ((j, d) :: ds) k = some d := by simp [valD, List.find?_cons, e]
      rw [q1]
      exact ⟨v, valV_pos e, h⟩
    · have q1 : valD ((j, d) :: ds) k = valD ds k := by simp [valD, List.find?_cons, e]
      rw [q1]
      have q2 : valV ((j, v) :: vs) k = valV vs k := valV_neg e
      rw [q2]
      exact Fvs.val t
theorem Fvs.some {K : PySem.W.Frag} {G : Hp} {κ : Type} [DecidableEq κ] {k : κ} {vs : List (κ × V)} {ds : List (κ × D)} {d : D} (h : Fvs K G vs ds) (e : valD ds k = some d) : ∃ v, valV vs k = some v ∧ HD K G v d := by
  have q := h.val (k := k)
  rw [e] at q
  exact q
theorem Fvs.isSome {K : PySem.W.Frag} {G : Hp} {κ : Type} [DecidableEq κ] {k : κ} {vs : List (κ × V)} {ds : List (κ × D)} (h : Fvs K G vs ds) : (valV vs k).isSome = (valD ds k).isSome := by
  have q := h.val (k := k)
  cases e : valD ds k with
  | none => rw [e] at q; rw [show valV vs k = none from q]; rfl
  | some d => rw [e] at q; obtain ⟨v, q1, _⟩ := q; rw [q1]; rfl
theorem ev_dget {i : Nat} {a : Addr} {kvs : List (Key × D)} {k : Key} (h1 : Ev K δ R ta (.r a)) (h2 : Ev K δ R tb (.d (keyD k))) (hi : R[i]? = some (a, .dic kvs)) (hl : valD kvs k = some d) : Ev K δ R (tDGet ta tb) d := fun G H σ Q ok en kk =>
  h1 G H σ _ ok en fun v G1 H1 ok1 l1 q1 => h2 G1 H1 σ _ ok1 (en.mono l1.g) fun w G2 H2 ok2 l2 q2 => by
    cases (show v = .ref a from q1)
    have ew := Hv.key (show Hv G2 w (keyD k) from q2)
    subst ew
    obtain ⟨vs, e, _, fv⟩ := ok2.at hi
    obtain ⟨u, e1, e2⟩ := fv.some hl
    refine ⟨a, u, rfl, ?_, kk u G2 H2 ok2 (l1.trans l2) e2⟩
    rw [← e1]
    exact DGet.k e
theorem ev_din {i : Nat} {a : Addr} {kvs : List (Key × D)} {k : Key} (h2 : Ev K δ R tb (.d (keyD k))) (h1 : Ev K δ R ta (.r a)) (hi : R[i]? = some (a, .dic kvs)) : Ev K δ R (tDIn tb ta) (.d (.bool (valD kvs k).isSome)) := fun G H σ Q ok en kk =>
  h2 G H σ _ ok en fun w G1 H1 ok1 l1 q1 => h1 G1 H1 σ _ ok1 (en.mono l1.g) fun v G2 H2 ok2 l2 q2 => by
    cases (show v = .ref a from q2)
    have ew := Hv.key (show Hv G1 w (keyD k) from q1)
    subst ew
    obtain ⟨vs, e, _, fv⟩ := ok2.at hi
    refine ⟨a, _, rfl, DGet.k (k := k) e, ?_⟩
    rw [fv.isSome]
    exact kk _ G2 H2 ok2 (l1.trans l2) (show Hv G2 _ _ from .bl _)
theorem ev_dnotin {i : Nat} {a : Addr} {kvs : List (Key × D)} {k : Key} (h2 : Ev K δ R tb (.d (keyD k))) (h1 : Ev K δ R ta (.r a)) (hi : R[i]? = some (a, .dic kvs)) : Ev K δ R (tDNotIn tb ta) (.d (.bool (!(valD kvs k).isSome))) := fun G H σ Q ok en kk =>
  h2 G H σ _ ok en fun w G1 H1 ok1 l1 q1 => h1 G1 H1 σ _ ok1 (en.mono l1.g) fun v G2 H2 ok2 l2 q2 => by
    cases (show v = .ref a from q2)
    have ew := Hv.key (show Hv G1 w (keyD k) from q1)
    subst ew
    obtain ⟨vs, e, _, fv⟩ := ok2.at hi
    refine ⟨a, _, rfl, DGet.k (k := k) e, ?_⟩
    rw [fv.isSome]
    exact kk _ G2 H2 ok2 (l1.trans l2) (show Hv G2 _ _ from .bl _)
/-! ### calls of built-ins by values -/
theorem vals_one {G : Hp} {vs : List V} {x : PyData} (h : Hvs G vs [x]) : ∃ v, vs = [v] ∧ Hv G v x := by
  cases h with
  | cons h1 h2 => cases h2; exact ⟨_, rfl, h1⟩
def lenD (R : Res) (d : D) (n : Nat) : Prop := (∃ ds, Ls R d ds ∧ n = ds.length) ∨ (∃ ds, d = .d (.tuple ds) ∧ n = ds.length) ∨ (∃ z, d = .d (.str z) ∧ z.length ≤ 50000 ∧ n = z.length) ∨ ∃ ns, d = .s ns ∧ n = ns.length
def rLen (K : PySem.W.Frag) : List V → Hp → VK → Prop := fun xs H Q => ∃ x n, xs = [x] ∧ LenV K x H n ∧ Q (.int n) H
theorem ev_len {n : Nat} (h : Ev K δ R ta d) (hn : lenD R d n) : Ev K δ R (tCB (rLen K) (tCons ta tNil)) (.d (.int n)) := fun G H σ Q ok en k => h G H σ _ ok en fun v G1 H1 ok1 l1 q1 => by
  refine ⟨v, n, rfl, ?_, k _ G1 H1 ok1 l1 (show Hv G1 _ _ from .int _)⟩
  rcases hn with ⟨ds, hl, e⟩ | ⟨ds, rfl, e⟩ | ⟨z, rfl, hz, e⟩ | ⟨ns, rfl, e⟩
  · obtain ⟨a, vs, rfl, ea, la, hv⟩ := hl.hv ok1 q1
    exact .inl ⟨vs, SqL.of ea, by rw [e, hv.len]⟩
  · cases (show Hv G1 v (.tuple ds) from q1) with
    | tup e1 e2 e3 => exact .inr ⟨_, SqT.of (ok1.ex _ _ e1), by rw [e, e3.len]⟩
  · cases (show Hv G1 v (.str z) from q1)
    exact ⟨lim_le hz, e⟩
  · obtain ⟨a, rfl, hs⟩ := q1
    exact .inl ⟨_, gx_sql ok1.ex hs, by rw [e, List.length_map]⟩
theorem ev_lenL {ds : List PyData} (h : Ev K δ R ta d) (hn : Ls R d ds) : Ev K δ R (tCB (rLen K) (tCons ta tNil)) (.d (.int ds.length)) := ev_len h (.inl ⟨ds, hn, rfl⟩)
theorem ev_lenT {ds : List PyData} (h : Ev K δ R ta (.d (.tuple ds))) : Ev K δ R (tCB (rLen K) (tCons ta tNil)) (.d (.int ds.length)) := ev_len h (.inr (.inl ⟨ds, rfl, rfl⟩))
theorem ev_lenS {z : Str} (h : Ev K δ R ta (.d (.str z))) (hz : z.length ≤ 50000) : Ev K δ R (tCB (rLen K) (tCons ta tNil)) (.d (.int z.length)) := ev_len h (.inr (.inr (.inl ⟨z, rfl, hz, rfl⟩)))
theorem ev_lens {ns : List Int} (h : Ev K δ R ta (.s ns)) : Ev K δ R (tCB (rLen K) (tCons ta tNil)) (.d (.int ns.length)) := ev_len h (.inr (.inr (.inr ⟨ns, rfl, rfl⟩)))
def rListS (K : PySem.W.Frag) : List V → Hp → VK → Prop := fun xs H Q => ∃ p ys, xs = [.ref p] ∧ (SqL K H p ys ∨ SqT K H p ys) ∧ ∀ l, H l = none → Q (.ref l) (upd H l (.lst ys))
theorem evf_list {ds : List PyData} (h : Ev K δ R ta d) (hl : Ls R d ds) : EvF K δ R (tCB (rListS K) (tCons ta tNil)) ds := fun G H σ Q ok en k => h G H σ _ ok en fun v G1 H1 ok1 l1 q1 => by
  obtain ⟨a, vs, rfl, ea, la, hv⟩ := hl.hv ok1 q1
  refine ⟨a, vs, rfl, .inl (SqL.of ea), fun p hp => ?_⟩
  obtain ⟨ok', le⟩ := ok1.laid (q := .lst ds) (o := .lst vs) hp ⟨vs, upd_same, la, hv⟩
  exact k _ _ _ ok' (l1.trans le)
theorem evf_listD {i : Nat} {a : Addr} {kvs : List (Key × D)} (h : Ev K δ R ta (.r a)) (hi : R[i]? = some (a, .dic kvs)) : EvF K δ R (tCB rListD (tCons ta tNil)) (kvs.map fun kv => keyD kv.1) := fun G H σ Q ok en k => h G H σ _ ok en fun v G1 H1 ok1 l1 q1 => by
  cases (show v = .ref a from q1)
  obtain ⟨vs, e, hl, fv⟩ := ok1.at hi
  refine ⟨a, vs, rfl, e, fun p hp => ?_⟩
  have hv : Hvs G1 (vs.map fun kv => kV kv.1) (kvs.map fun kv => keyD kv.1) := by
    have e1 : (vs.map fun kv => kV kv.1) = (vs.map (·.1)).map kV := by rw [List.map_map]; rfl
    have e2 : (kvs.map fun kv => keyD kv.1) = (kvs.map (·.1)).map keyD := by rw [List.map_map]; rfl
    rw [e1, e2, fv.keys]
    generalize kvs.map (·.1) = ks
    induction ks with
    | nil => exact .nil
    | cons k ks ih =>
      refine .cons ?_ ih
      cases k with
      | inl i => exact .int i
      | inr x => exact .str x
  obtain ⟨ok', le⟩ := ok1.laid (q := .lst (kvs.map fun kv => keyD kv.1)) hp ⟨_, upd_same, by rw [List.length_map]; exact hl, hv⟩
  exact k _ _ _ ok' (l1.trans le)
def rInt1 : List V → Hp → VK → Prop := fun xs H Q => (∃ i, xs = [.int i] ∧ Q (.int i) H) ∨ ∃ k, xs = [.bl k] ∧ Q (.int (if k then 1 else 0)) H
theorem ev_int1 {b : Bool} (h : Ev K δ R ta (.d (.bool b))) : Ev K δ R (tCB rInt1 (tCons ta tNil)) (.d (.int (if b then 1 else 0))) := fun G H σ Q ok en k => h G H σ _ ok en fun v G1 H1 ok1 l1 q1 => by
  cases (show Hv G1 v (.bool b) from q1)
  exact .inr ⟨b, rfl, k _ G1 H1 ok1 l1 (show Hv G1 _ _ from .int _)⟩
def rStr1 : List V → Hp → VK → Prop := fun xs H Q => ∃ i, xs = [.int i] ∧ i.natAbs.log2 < 1920 ∧ Q (.str (toString i)) H
theorem ev_str1 {i : Int} (h : Ev K δ R ta (.d (.int i))) (hl : i.natAbs.log2 < 1920) : Ev K δ R (tCB rStr1 (tCons ta tNil)) (.d (.str (toString i))) := fun G H σ Q ok en k => h G H σ _ ok en fun v G1 H1 ok1 l1 q1 => by
  cases (show Hv G1 v (.int i) from q1)
  exact ⟨i, rfl, hl, k _ G1 H1 ok1 l1 (show Hv G1 _ _ from .str _)⟩
def rMin2 : List V → Hp → VK → Prop := fun xs H Q => ∃ i j, xs = [.int i, .int j] ∧ Q (.int (if j < i then j else i)) H
def rMax2 : List V → Hp → VK → Prop := fun xs H Q => ∃ i j, xs = [.int i, .int j] ∧ Q (.int (if j > i then j else i)) H
theorem ev_min2 {i j : Int} (h1 : Ev K δ R ta (.d (.int i))) (h2 : Ev K δ R tb (.d (.int j))) : Ev K δ R (tCB rMin2 (tCons ta (tCons tb tNil))) (.d (.int (if j < i then j else i))) := fun G H σ Q ok en k =>
  h1 G H σ _ ok en fun v G1 H1 ok1 l1 q1 => h2 G1 H1 σ _ ok1 (en.mono l1.g) fun w G2 H2 ok2 l2 q2 => by
    cases (show Hv G1 v (.int i) from q1)
    cases (show Hv G2 w (.int j) from q2)
    exact ⟨i, j, rfl, k _ G2 H2 ok2 (l1.trans l2) (show Hv G2 _ _ from .int _)⟩
theorem ev_max2 {i j : Int} (h1 : Ev K δ R ta (.d (.int i))) (h2 : Ev K δ R tb (.d (.int j))) : Ev K δ R (tCB rMax2 (tCons ta (tCons tb tNil))) (.d (.int (if j > i then j else i))) := fun G H σ Q ok en k =>
  h1 G H σ _ ok en fun v G1 H1 ok1 l1 q1 => h2 G1 H1 σ _ ok1 (en.mono l1.g) fun w G2 H2 ok2 l2 q2 => by
    cases (show Hv G1 v (.int i) from q1)
    cases (show Hv G2 w (.int j) from q2)
    exact ⟨i, j, rfl, k _ G2 H2 ok2 (l1.trans l2) (show Hv G2 _ _ from .int _)⟩
theorem ev_min1 {ns : List Int} {m : Int} (h : Ev K δ R ta d) (hl : Ls R d (ns.map .int)) (hm : m ∈ ns) (hle : ∀ y ∈ ns, m ≤ y) : Ev K δ R (tCB (rMin K) (tCons ta tNil)) (.d (.int m)) := fun G H σ Q ok en k => h G H σ _ ok en fun v G1 H1 ok1 l1 q1 => by
  obtain ⟨a, vs, rfl, ea, la, hv⟩ := hl.hv ok1 q1
  have e := hv.ints
  subst e
  refine ⟨a, ns, rfl, SqL.of ea, List.length_pos_of_mem hm, fun m' hm' hle' => ?_⟩
  have e : m' = m := Int.le_antisymm (hle' m hm) (hle m' hm')
  subst e
  exact k _ G1 H1 ok1 l1 (show Hv G1 _ _ from .int _)
theorem ev_sum {ns : List Int} (h : Ev K δ R ta d) (hl : Ls R d (ns.map .int)) : Ev K δ R (tCB (rSum K) (tCons ta tNil)) (.d (.int ns.sum)) := fun G H σ Q ok en k => h G H σ _ ok en fun v G1 H1 ok1 l1 q1 => by
  obtain ⟨a, vs, rfl, ea, la, hv⟩ := hl.hv ok1 q1
  have e := hv.ints
  subst e
  exact ⟨a, ns, rfl, SqL.of ea, k _ G1 H1 ok1 l1 (show Hv G1 _ _ from .int _)⟩
theorem ev_all {bs : List Bool} (h : Ev K δ R ta d) (hl : Ls R d (bs.map .bool)) : Ev K δ R (tCB (rAll K) (tCons ta tNil)) (.d (.bool (bs.all id))) := fun G H σ Q ok en k => h G H σ _ ok en fun v G1 H1 ok1 l1 q1 => by
  obtain ⟨a, vs, rfl, ea, la, hv⟩ := hl.hv ok1 q1
  have e := hv.bls
  subst e
  exact ⟨a, bs, rfl, SqL.of ea, k _ G1 H1 ok1 l1 (show Hv G1 _ _ from .bl _)⟩
/-- sorted, of ints: the sorted list is any list that is a permutation and rises -/
theorem evf_sorted {ns ms : List Int} (h : Ev K δ R ta d) (hl : Ls R d (ns.map .int)) (hp : ns.Perm ms) (hs : ms.Pairwise (· ≤ ·)) : EvF K δ R (tCB (rSortedI K) (tCons ta tNil)) (ms.map .int) := fun G H σ Q ok en k => h G H σ _ ok en fun v G1 H1 ok1 l1 q1 => by
  obtain ⟨a, vs, rfl, ea, la, hv⟩ := hl.hv ok1 q1
  have e := hv.ints
  subst e
  refine ⟨a, ns, rfl, SqL.of ea, fun ns' p hp' hs' new => ?_⟩
  have e : ns' = ms := by
    have q : ns'.Perm ms := hp'.trans hp
    exact q.eq_of_pairwise (fun a b _ _ h1 h2 => Int.le_antisymm h1 h2) hs' hs
  subst e
  have hlen : ns'.length = ns.length := hp'.length_eq
  obtain ⟨ok', le⟩ := ok1.laid (q := .lst (ns'.map .int)) new ⟨_, upd_same, by rw [List.length_map] at la ⊢; omega, hvs_ints _⟩
  exact k _ _ _ ok' (l1.trans le)
/-! ### isinstance with a built-in class -/
def tyD : PyData → Option String
  | .none => some "NoneType"
  | .bool _ => some "bool"
  | .int _ => some "int"
  | .str _ => some "str"
  | .list _ => some "list"
  | .tuple _ => some "tuple"
  | .dict _ => none
theorem Hv.ty {H : Hp} {v : V} {x : PyData} (h : Hv H v x) : ∃ T, tyD x = some T ∧ TyX K H v (.type T) := by
  cases h with
  | non => exact ⟨_, rfl, .base .non⟩
  | bl b => exact ⟨_, rfl, .base (.bl b)⟩
  | int i => exact ⟨_, rfl, .base (.int i)⟩
  | str x => exact ⟨_, rfl, .base (.str x)⟩
  | lst h1 _ _ => exact ⟨_, rfl, .base (.lst h1)⟩
  | tup h1 _ _ => exact ⟨_, rfl, .base (.tup h1)⟩
theorem ev_isi {x : PyData} {T C : String} {b : Bool} (h : Ev K δ R ta d) (hv : Vw R d x) (ht : tyD x = some T) (hb : kitB T C = some b) : Ev K δ R (tCB (rIsi K) (tCons ta (tCons (tC (.ty C)) tNil))) (.d (.bool b)) := fun G H σ Q ok en k => h G H σ _ ok en fun v G1 H1 ok1 l1 q1 => by
  obtain ⟨T', e, ty⟩ := Hv.ty (K := K) (hv.hv ok1 q1)
  rw [ht] at e
  cases e
  exact ⟨v, .ty C, .type T, .type C, b, rfl, .ty C, ty, kit_ty hb, k _ G1 H1 ok1 l1 (show Hv G1 _ _ from .bl _)⟩
end
end Fl
/-! Sources, comprehensions, statements, calls, defs. -/
namespace Fl
open PySem PySem.Spec PyProof.Rows L2
/-! ### sources: what a for walks -/
/-- the value x that a turn hands out, at the heap H' -/
def StepTo (K : PySem.W.Frag) (G H : Hp) (x : V) (H' : Hp) (u : PyData) : Prop :=
  (H' = H ∧ Hv G x u) ∨ ∃ (T : Addr) (vs : List V) (xs : List PyData), H T = none ∧ H' = upd H T (.tup vs) ∧ vs.length ≤ 50000 ∧ x = .ref T ∧ Hvs G vs xs ∧ u = .tuple xs
def IsIt (K : PySem.W.Frag) (J : It) (G : Hp) (us : List PyData) : Prop := ∀ G2 H2 : Hp, Gx G G2 → Gx G2 H2 → (∀ i, us.length ≤ i → J.stop i H2) ∧ ∀ (i : Nat) (u : PyData), us[i]? = some u → J.go i H2 ∧ ∀ x H', J.yld i H2 x H' → StepTo K G2 H2 x H' u
def EvI (K : PySem.W.Frag) (δ : DEnv) (R : Res) (wi : TI) (us : List PyData) : Prop := ∀ (G H : Hp) (σ : L2.St) (Q : It → Hp → Prop), Ok K G H R → DE K G σ δ →
  (∀ J G' H', Ok K G' H' R → Le G H R G' H' R → us.length ≤ 50000 → IsIt K J G' us → Q J H') → wi σ H Q
section
variable {K : PySem.W.Frag} {G G' H H' : Hp} {R : Res} {δ : DEnv} {ta tb tc te tl : TE} {d x y z : D} {r : R2}
theorem StepTo.ok {v : V} {u : PyData} (s : StepTo K G H v H' u) (ok : Ok K G H R) : ∃ G', Ok K G' H' R ∧ Le G H R G' H' R ∧ Hv G' v u := by
  rcases s with ⟨rfl, h⟩ | ⟨T, vs, xs, hT, rfl, hl, rfl, hv, rfl⟩
  · exact ⟨G, ok, .refl, h⟩
  · obtain ⟨ok', le⟩ := ok.seen (o := .tup vs) hT
    exact ⟨_, ok', le, .tup upd_same hl (Hvs.mono le.g _ hv)⟩
theorem isIt_list {a : Addr} {vs : List V} {ds : List PyData} (e : G a = some (.lst vs)) (hv : Hvs G vs ds) : IsIt K (Itl K a) G ds := fun G2 H2 g1 g2 => by
  have e2 : H2 a = some (.lst vs) := g2 _ _ (g1 _ _ e)
  have el := hv.len
  refine ⟨fun i hi => ⟨vs, SqL.of e2, by omega⟩, fun i u hu => ?_⟩
  obtain ⟨v, h1, h2⟩ := hv.getd hu
  exact ⟨⟨vs, v, SqL.of e2, h1⟩, fun x H' ⟨y1, y2⟩ => .inl ⟨y1, by
    have q := y2 vs (SqL.of e2)
    rw [h1] at q
    cases q
    exact Hv.mono g1 _ h2⟩⟩
theorem ei_list {ds : List PyData} (h : Ev K δ R tl (.d (.list ds))) : EvI K δ R (iList K tl) ds := fun G H σ Q ok en k => h G H σ _ ok en fun v G1 H1 ok1 l1 q1 => by
  cases (show Hv G1 v (.list ds) from q1) with
  | lst e1 e2 e3 =>
    refine ⟨_, rfl, ⟨_, SqL.of (ok1.ex _ _ e1)⟩, k _ G1 H1 ok1 l1 ?_ (isIt_list e1 e3)⟩
    rw [← e3.len]
    exact e2
theorem ei_tup {ds : List PyData} (h : Ev K δ R tl (.d (.tuple ds))) : EvI K δ R (iTup K tl) ds := fun G H σ Q ok en k => h G H σ _ ok en fun v G1 H1 ok1 l1 q1 => by
  cases (show Hv G1 v (.tuple ds) from q1) with
  | @tup a vs ds e1 e2 e3 =>
    have el := e3.len
    refine ⟨a, rfl, ⟨vs, SqT.of (ok1.ex _ _ e1)⟩, k _ G1 H1 ok1 l1 (by omega) fun G2 H2 g1 g2 => ?_⟩
    have e4 : H2 a = some (.tup vs) := g2 _ _ (g1 _ _ e1)
    refine ⟨fun i hi => ⟨vs, SqT.of e4, by omega⟩, fun i u hu => ?_⟩
    obtain ⟨w, h1, h2⟩ := e3.getd hu
    exact ⟨⟨vs, w, SqT.of e4, h1⟩, fun x H' ⟨y1, y2⟩ => .inl ⟨y1, by
      have q := y2 vs (SqT.of e4)
      rw [h1] at q
      cases q
      exact Hv.mono g1 _ h2⟩⟩
def rngD (lo : Int) (n : Nat) : List PyData := (List.range n).map fun i => .int (lo + (i : Nat))
theorem rngD_len (lo : Int) (n : Nat) : (rngD lo n).length = n := by simp [rngD]
theorem rngD_get {lo : Int} {n i : Nat} {u : PyData} (h : (rngD lo n)[i]? = some u) : i < n ∧ u = .int (lo + (i : Nat)) := by
  unfold rngD at h
  rw [List.getElem?_map] at h
  by_cases z : i < n
  · rw [List.getElem?_range z] at h
    exact ⟨z, (Option.some.inj h).symm⟩
  · rw [List.getElem?_eq_none (by simpa using z)] at h
    cases h
theorem isIt_rng {lo : Int} {n : Nat} : IsIt K (Itr lo n) G (rngD lo n) := fun G2 H2 g1 g2 => by
  refine ⟨fun i hi => by rw [rngD_len] at hi; exact hi, fun i u hu => ?_⟩
  obtain ⟨h1, rfl⟩ := rngD_get hu
  exact ⟨h1, fun x H' ⟨y1, y2⟩ => .inl ⟨y1, by rw [y2]; exact .int _⟩⟩
theorem ei_rng1 {n : Int} (h : Ev K δ R ta (.d (.int n))) (hn : 0 ≤ n ∧ n ≤ 50000) : EvI K δ R (iRng1 (tCons ta tNil)) (rngD 0 n.toNat) := fun G H σ Q ok en k => h G H σ _ ok en fun v G1 H1 ok1 l1 q1 => by
  cases (show Hv G1 v (.int n) from q1)
  exact ⟨n, rfl, by omega, by omega, k _ G1 H1 ok1 l1 (by rw [rngD_len]; omega) isIt_rng⟩
theorem ei_rng2 {a n : Int} (h1 : Ev K δ R ta (.d (.int a))) (h2 : Ev K δ R tb (.d (.int n))) (hn : -50000 ≤ a ∧ a ≤ n + 1 ∧ n ≤ 50000 ∧ n - a ≤ 50000) : EvI K δ R (iRng2 (tCons ta (tCons tb tNil))) (rngD a (n - a).toNat) := fun G H σ Q ok en k =>
  h1 G H σ _ ok en fun v G1 H1 ok1 l1 q1 => h2 G1 H1 σ _ ok1 (en.mono l1.g) fun w G2 H2 ok2 l2 q2 => by
    cases (show Hv G1 v (.int a) from q1)
    cases (show Hv G2 w (.int n) from q2)
    exact ⟨a, n, rfl, ⟨by omega, by omega, by omega, by omega⟩, k _ G2 H2 ok2 (l1.trans l2) (by rw [rngD_len]; omega) isIt_rng⟩
/-- reversed(range(a, n)) -/
theorem ei_revR {a n : Int} (h1 : Ev K δ R ta (.d (.int a))) (h2 : Ev K δ R tb (.d (.int n))) (hn : -50000 ≤ a ∧ a ≤ n + 1 ∧ n ≤ 50000 ∧ n - a ≤ 50000) : EvI K δ R (iRevR (tRg2 ta tb)) (rngD a (n - a).toNat).reverse := fun G H σ Q ok en k =>
  h1 G H σ _ ok en fun v G1 H1 ok1 l1 q1 => h2 G1 H1 σ _ ok1 (en.mono l1.g) fun w G2 H2 ok2 l2 q2 => by
    cases (show Hv G1 v (.int a) from q1)
    cases (show Hv G2 w (.int n) from q2)
    refine ⟨a, n, rfl, rfl, by omega, by omega, by omega, by omega, k _ G2 H2 ok2 (l1.trans l2) (by rw [List.length_reverse, rngD_len]; omega) fun G3 H3 g1 g2 => ⟨fun i hi => by rw [List.length_reverse, rngD_len] at hi; exact hi, fun i u hu => ?_⟩⟩
    obtain ⟨hi, e⟩ := List.getElem?_eq_some_iff.mp hu
    have hi' := hi
    rw [List.length_reverse, rngD_len] at hi'
    rw [List.getElem_reverse] at e
    have e2 : (rngD a (n - a).toNat)[(rngD a (n - a).toNat).length - 1 - i]? = some u := by
      rw [← e]
      exact List.getElem?_eq_getElem _
    obtain ⟨_, rfl⟩ := rngD_get e2
    rw [rngD_len]
    refine ⟨hi', fun x H' ⟨y1, y2⟩ => .inl ⟨y1, ?_⟩⟩
    rw [y2]
    have e3 : a + (((n - a).toNat : Nat) : Int) - 1 + (i : Nat) * -1 = a + (((n - a).toNat - 1 - i : Nat) : Int) := by omega
    rw [e3]
    exact .int _
/-- the signs of a text -/
def sgnD (z : Str) : List PyData := z.cps.toList.map fun c => .str ⟨#[c]⟩
theorem ei_str {z : Str} (h : Ev K δ R te (.d (.str z))) (hz : z.cps.size ≤ 50000) : EvI K δ R (iStr te) (sgnD z) := fun G H σ Q ok en k => h G H σ _ ok en fun v G1 H1 ok1 l1 q1 => by
  cases (show Hv G1 v (.str z) from q1)
  have e1 : (sgnD z).length = z.cps.size := by simp [sgnD]
  refine ⟨z, rfl, k _ G1 H1 ok1 l1 (by omega) fun G2 H2 g1 g2 => ⟨fun i hi => by rw [e1] at hi; exact hi, fun i u hu => ?_⟩⟩
  have hi : i < z.cps.size := by rw [← e1]; exact (List.getElem?_eq_some_iff.mp hu).1
  refine ⟨hi, fun x H' ⟨y1, c, y2, y3⟩ => .inl ⟨y1, ?_⟩⟩
  unfold sgnD at hu
  rw [List.getElem?_map, Array.getElem?_toList, y2] at hu
  rw [y3, ← Option.some.inj hu]
  exact .str _

theorem zip_get {α β : Type} : ∀ {xs : List α} {ys : List β} {i : Nat} {p : α × β}, (xs.zip ys)[i]? = some p → xs[i]? = some p.1 ∧ ys[i]? = some p.2
  | [], ys, i, p, h => by simp at h
  | x :: xs, [], i, p, h => by simp at h
  | x :: xs, y :: ys, 0, p, h => by simp at h; subst h; exact ⟨rfl, rfl⟩
  | x :: xs, y :: ys, i + 1, p, h => by
    have := zip_get (xs := xs) (ys := ys) (i := i) (p := p) (by simpa using h)
    simpa using this
/-- zip of two lists -/
def zipD (xs ys : List PyData) : List PyData := (xs.zip ys).map fun p => .tuple [p.1, p.2]
theorem ei_zip {xs ys : List PyData} (h1 : Ev K δ R ta (.d (.list xs))) (h2 : Ev K δ R tb (.d (.list ys))) : EvI K δ R (iZip K (tCons ta (tCons tb tNil))) (zipD xs ys) := fun G H σ Q ok en k =>
  h1 G H σ _ ok en fun v G1 H1 ok1 l1 q1 => h2 G1 H1 σ _ ok1 (en.mono l1.g) fun w G2 H2 ok2 l2 q2 => by
    cases (show Hv G2 v (.list xs) from q1.mono l2.g) with
    | @lst a vs _ e1 e2 e3 =>
      cases (show Hv G2 w (.list ys) from q2) with
      | @lst b ws _ f1 f2 f3 =>
        have a1 := e3.len
        have a2 := f3.len
        have zl : (zipD xs ys).length = min xs.length ys.length := by simp [zipD]
        refine ⟨a, b, vs, ws, rfl, SqL.of (ok2.ex _ _ e1), SqL.of (ok2.ex _ _ f1), k _ G2 H2 ok2 (l1.trans l2) (by omega) fun G3 H3 g1 g2 => ⟨fun i hi => ⟨vs, ws, SqL.of (g2 _ _ (g1 _ _ e1)), SqL.of (g2 _ _ (g1 _ _ f1)), by omega⟩, fun i u hu => ?_⟩⟩
        unfold zipD at hu
        rw [List.getElem?_map] at hu
        cases hz : (xs.zip ys)[i]? with
        | none => rw [hz] at hu; cases hu
        | some p =>
          rw [hz] at hu
          obtain ⟨p1, p2⟩ := zip_get hz
          obtain ⟨v', b1, b2⟩ := e3.getd p1
          obtain ⟨w', c1, c2⟩ := f3.getd p2
          have s1 := SqL.of (K := K) (g2 _ _ (g1 _ _ e1))
          have s2 := SqL.of (K := K) (g2 _ _ (g1 _ _ f1))
          refine ⟨⟨vs, ws, v', w', s1, s2, b1, c1⟩, fun x H' ⟨T, x1, x2, t1, t2, t3, t4, t5⟩ => .inr ⟨T, [x1, x2], [p.1, p.2], t2, t3, by show 2 ≤ 50000; decide, t1, ?_, (Option.some.inj hu).symm⟩⟩
          have t4 := t4 vs s1
          have t5 := t5 ws s2
          rw [b1] at t4
          rw [c1] at t5
          cases t4
          cases t5
          exact .cons (Hv.mono g1 _ b2) (.cons (Hv.mono g1 _ c2) .nil)
/-! ### targets -/
def EvG (K : PySem.W.Frag) (δ : DEnv) (g : TG) (u : PyData) (δ' : DEnv) : Prop := ∀ (G H : Hp) (R : Res) (σ : L2.St) (v : V) (Q : L2.St → Hp → Prop), Ok K G H R → DE K G σ δ → Hv G v u → (∀ σ', DE K G σ' δ' → Q σ' H) → g v σ H Q
theorem eg_name {i : Nat} {u : PyData} : EvG K δ (gName i) u (δ.set i (some (.d u))) := fun G H R σ v Q ok en h k => k _ (en.set h)
theorem eg_tup2 {i j : Nat} {a b : PyData} : EvG K δ (gTup K 2 (gCons (gName i) (gCons (gName j) gNil))) (.tuple [a, b]) ((δ.set i (some (.d a))).set j (some (.d b))) := fun G H R σ v Q ok en h k => by
  cases h with
  | tup e1 e2 e3 =>
    cases e3 with
    | cons h1 h2 =>
      cases h2 with
      | cons h3 h4 =>
        cases h4
        exact ⟨_, _, rfl, SqT.of (ok.ex _ _ e1), rfl, _, _, rfl, _, _, rfl, rfl, k _ ((en.set (d := .d a) h1).set (d := .d b) h3)⟩
theorem eg_tup4 {i j k l : Nat} {a b c e : PyData} : EvG K δ (gTup K 4 (gCons (gName i) (gCons (gName j) (gCons (gName k) (gCons (gName l) gNil))))) (.tuple [a, b, c, e]) ((((δ.set i (some (.d a))).set j (some (.d b))).set k (some (.d c))).set l (some (.d e))) := fun G H R σ v Q ok en h kk => by
  cases h with
  | tup e1 e2 e3 =>
    cases e3 with
    | cons h1 t1 => cases t1 with
      | cons h2 t2 => cases t2 with
        | cons h3 t3 => cases t3 with
          | cons h4 t4 =>
            cases t4
            exact ⟨_, _, rfl, SqT.of (ok.ex _ _ e1), rfl, _, _, rfl, _, _, rfl, _, _, rfl, _, _, rfl, rfl, kk _ ((((en.set (d := .d a) h1).set (d := .d b) h2).set (d := .d c) h3).set (d := .d e) h4)⟩
/-! ### comprehensions -/
theorem ok_pre {p : Addr × RO} (ok : Ok K G H (p :: R)) : Ok K G H R := Ok.part (A := [p]) (B := []) (by simpa using ok)
theorem ok_pre_whole {p : Addr × RO} {R' : Res} (ok : Ok K G H (p :: R)) (ok' : Ok K G' H' R') (le : Le G H R G' H' R') : Ok K G' H' (p :: R') ∧ Le G H (p :: R) G' H' (p :: R') := by
  have q := Ok.whole (A := [p]) (B := []) (by simpa using ok) ok' le
  simpa using q
/-- [te for target in wi if tt]: the turns' data are us; f tells which stay, g what is made -/
theorem evf_lcG {wi : TI} {j : Nat} {tt : TT} {vs : List Nat} {us : List PyData} (f : Nat → Bool) (g : Nat → PyData) (hi : EvI K δ R wi us) (hj : j ∈ vs)
    (ht : ∀ (i : Nat) (u : PyData), us[i]? = some u → EvT K ((wipeD δ vs).set j (some (.d u))) R tt (f i))
    (he : ∀ (i : Nat) (u : PyData), us[i]? = some u → f i = true → Ev K ((wipeD δ vs).set j (some (.d u))) R te (.d (g i))) :
    EvF K δ R (tLc wi (gName j) tt te vs) (((List.range us.length).filter f).map g) := fun G H σ Q ok en k => hi G H σ _ ok en fun J G1 H1 ok1 l1 hlen it => by
  intro Dl hD
  let acc := fun n => ((List.range n).filter f).map g
  have acc_len : ∀ n, (acc n).length ≤ n := fun n => by
    show (((List.range n).filter f).map g).length ≤ n
    rw [List.length_map]
    exact Nat.le_trans (List.length_filter_le _ _) (by simp)
  have acc_yes : ∀ n, f n = true → acc (n + 1) = acc n ++ [g n] := fun n h => by
    show ((List.range (n + 1)).filter f).map g = ((List.range n).filter f).map g ++ [g n]
    rw [List.range_succ, List.filter_append, List.map_append, List.filter_cons, if_pos h]
    rfl
  have acc_no : ∀ n, f n = false → acc (n + 1) = acc n := fun n h => by
    show ((List.range (n + 1)).filter f).map g = ((List.range n).filter f).map g
    rw [List.range_succ, List.filter_append, List.map_append, List.filter_cons, if_neg (by rw [h]; decide)]
    simp
  let W : Nat → Hp → Prop := fun n H2 => ∃ G2, Ok K G2 H2 ((Dl, .lst (acc n)) :: R) ∧ Le G H R G2 H2 ((Dl, .lst (acc n)) :: R) ∧ Gx G1 G2
  have start : W 0 (upd H1 Dl (.lst [])) := by
    obtain ⟨ok2, l2⟩ := ok1.laid (p := Dl) (o := .lst []) (q := .lst []) hD ⟨[], upd_same, Nat.zero_le _, .nil⟩
    exact ⟨G1, ok2, l1.trans l2, Gx.refl _⟩
  refine ⟨fun i m H2 => m = us.length - i ∧ i ≤ us.length ∧ W i H2, ⟨us.length, by simp, Nat.zero_le _, start⟩, ?_⟩
  rintro i m H2 ⟨rfl, hle, G2, ok2, l2, gx⟩
  obtain ⟨st, go⟩ := it G2 H2 gx ok2.ex
  by_cases hlt : i < us.length
  · obtain ⟨u, hu⟩ : ∃ u, us[i]? = some u := ⟨us[i], List.getElem?_eq_getElem hlt⟩
    obtain ⟨hg, hy⟩ := go i u hu
    refine .inr ⟨hg, W (i + 1), fun H' p => ⟨us.length - (i + 1), by omega, rfl, hlt, p⟩, fun x H3 y => ?_⟩
    obtain ⟨G3, ok3, l3, hv⟩ := (hy x H3 y).ok (ok_pre ok2)
    obtain ⟨ok3', l3'⟩ := ok_pre_whole ok2 ok3 l3
    have enw : DE K G3 (L2.wipe σ vs) (wipeD δ vs) := (en.wipe vs).mono (l2.g.trans l3.g)
    show L2.wipe ((L2.wipe σ vs).set j (some x)) vs = L2.wipe σ vs ∧ _
    refine ⟨wipe_set hj, ht i u hu G3 H3 _ _ ok3 (enw.set (d := .d u) hv) fun G4 H4 ok4 l4 => ?_⟩
    obtain ⟨ok4', l4'⟩ := ok_pre_whole ok3' ok4 l4
    cases hf : f i with
    | true =>
      rw [if_pos rfl]
      refine he i u hu hf G4 H4 _ _ ok4 ((enw.set (d := .d u) hv).mono l4.g) fun y G5 H5 ok5 l5 q5 => ?_
      obtain ⟨ok5', l5'⟩ := ok_pre_whole ok4' ok5 l5
      obtain ⟨ws, e1, e2, e3⟩ := ok5'.at (i := 0) rfl
      have el := e3.len
      have al := acc_len i
      refine ⟨ws, e1, lim_lt e2, G5, ?_⟩
      have w := ok5'.write (i := 0) (a := Dl) (o := .lst (ws ++ [y])) (q := .lst (acc (i + 1))) rfl ⟨_, upd_same, by rw [List.length_append]; show ws.length + 1 ≤ 50000; omega, by rw [acc_yes i hf]; exact e3.app (.cons q5 .nil)⟩
      obtain ⟨ok6, l6⟩ := w
      exact ⟨ok6, (((l2.trans l3').trans l4').trans l5').trans l6, ((gx.trans l3.g).trans l4.g).trans l5.g⟩
    | false =>
      rw [if_neg Bool.false_ne_true]
      refine ⟨G4, ?_⟩
      rw [acc_no i hf]
      exact ⟨ok4', (l2.trans l3').trans l4', (gx.trans l3.g).trans l4.g⟩
  · have e : i = us.length := by omega
    subst e
    exact .inl ⟨st _ (Nat.le_refl _), k Dl G2 H2 ok2 l2⟩
theorem filter_range_map {α β : Type} (xs : List α) (p : α → Bool) (h : α → β) (f : Nat → Bool) (g : Nat → β) (hf : ∀ i x, xs[i]? = some x → f i = p x) (hg : ∀ i x, xs[i]? = some x → g i = h x) :
    ((List.range xs.length).filter f).map g = (xs.filter p).map h := by
  have all : ∀ n, n ≤ xs.length → ((List.range n).filter f).map g = ((xs.take n).filter p).map h := by
    intro n
    induction n with
    | zero => intro _; simp
    | succ n ih =>
      intro hn
      have e1 : xs[n]? = some xs[n] := List.getElem?_eq_getElem (by omega)
      have q1 := hf _ _ e1
      have q2 := hg _ _ e1
      rw [List.range_succ, List.filter_append, List.map_append, ih (by omega), List.take_succ, e1, List.filter_append, List.map_append]
      congr 1
      cases hp : p xs[n] with
      | true => simp [q1, q2, hp]
      | false => simp [q1, q2, hp]
  have q := all xs.length (Nat.le_refl _)
  rw [List.take_length] at q
  exact q
/-- over a list of α, told by enc -/
theorem evf_lcI {α : Type} {wi : TI} {j : Nat} {tt : TT} {vs : List Nat} {xs : List α} {enc : α → PyData} (f : α → Bool) (g : α → PyData) (hi : EvI K δ R wi (xs.map enc)) (hj : j ∈ vs)
    (ht : ∀ x ∈ xs, EvT K ((wipeD δ vs).set j (some (.d (enc x)))) R tt (f x)) (he : ∀ x ∈ xs, f x = true → Ev K ((wipeD δ vs).set j (some (.d (enc x)))) R te (.d (g x))) :
    EvF K δ R (tLc wi (gName j) tt te vs) ((xs.filter f).map g) := by
  have get : ∀ (i : Nat) (u : PyData), (xs.map enc)[i]? = some u → ∃ x, xs[i]? = some x ∧ x ∈ xs ∧ u = enc x := fun i u h => by
    rw [List.getElem?_map] at h
    cases e : xs[i]? with
    | none => rw [e] at h; cases h
    | some x => rw [e] at h; exact ⟨x, rfl, List.mem_of_getElem? e, (Option.some.inj h).symm⟩
  refine evf_is (evf_lcG (fun i => match xs[i]? with | some x => f x | none => false) (fun i => match xs[i]? with | some x => g x | none => .none) hi hj (fun i u hu => ?_) (fun i u hu hf => ?_)) ?_
  · obtain ⟨x, e, m, rfl⟩ := get i u hu
    simp only [e]
    exact ht x m
  · obtain ⟨x, e, m, rfl⟩ := get i u hu
    simp only [e] at hf ⊢
    exact he x m hf
  · rw [List.length_map]
    exact filter_range_map xs f g _ _ (fun i x e => by simp only [e]) (fun i x e => by simp only [e])
/-- the same without a test -/
theorem evf_lcI0 {α : Type} {wi : TI} {j : Nat} {vs : List Nat} {xs : List α} {enc : α → PyData} (g : α → PyData) (hi : EvI K δ R wi (xs.map enc)) (hj : j ∈ vs)
    (he : ∀ x ∈ xs, Ev K ((wipeD δ vs).set j (some (.d (enc x)))) R te (.d (g x))) : EvF K δ R (tLc wi (gName j) tYes te vs) (xs.map g) :=
  evf_is (evf_lcI (fun _ => true) g hi hj (fun _ _ => et_yes) fun x m _ => he x m) (by rw [List.filter_eq_self.mpr (fun _ _ => rfl)])
theorem ei_is {wi : TI} {us ws : List PyData} (h : EvI K δ R wi us) (e : us = ws) : EvI K δ R wi ws := e ▸ h
end
end Fl
/-! Statements, calls, defs. -/
namespace Fl
open PySem PySem.Spec PyProof.Rows L2
/-- an expression that may change what is owned, or raise -/
def EvE (K : PySem.W.Frag) (Ek : WX) (δ : DEnv) (R : Res) (te : TE) (N : D → Res → Prop) (M : Value → Res → Prop) : Prop := ∀ (G H : Hp) (σ : L2.St) (Q : VK), Ok K G H R → DE K G σ δ →
  (∀ d R' v G' H', N d R' → Ok K G' H' R' → Le G H R G' H' R' → HD K G' v d → Q v H') → (∀ c R' G' H', M c R' → Ok K G' H' R' → Le G H R G' H' R' → Ek c none σ H') → te σ H Q
/-- what is wanted behind a statement -/
structure Post where
  nx : DEnv → Res → Prop
  rt : D → Res → Prop
  bk : DEnv → Res → Prop
  ct : DEnv → Res → Prop
  xe : Value → DEnv → Res → Prop
structure Cn (K : PySem.W.Frag) (Ek : WX) (P : Post) (D : Ends) (G H : Hp) (R : Res) : Prop where
  nx : ∀ δ' R' σ' G' H', P.nx δ' R' → Ok K G' H' R' → Le G H R G' H' R' → DE K G' σ' δ' → D.nx σ' H'
  rt : ∀ d R' v G' H', P.rt d R' → Ok K G' H' R' → Le G H R G' H' R' → HD K G' v d → D.rt v H'
  bk : ∀ δ' R' σ' G' H', P.bk δ' R' → Ok K G' H' R' → Le G H R G' H' R' → DE K G' σ' δ' → D.bk σ' H'
  ct : ∀ δ' R' σ' G' H', P.ct δ' R' → Ok K G' H' R' → Le G H R G' H' R' → DE K G' σ' δ' → D.ct σ' H'
  xe : ∀ c δ' R' σ' G' H', P.xe c δ' R' → Ok K G' H' R' → Le G H R G' H' R' → DE K G' σ' δ' → Ek c none σ' H'
def XS (K : PySem.W.Frag) (Ek : WX) (δ : DEnv) (R : Res) (t : TS) (P : Post) : Prop := ∀ (G H : Hp) (σ : L2.St) (D : Ends), Ok K G H R → DE K G σ δ → Cn K Ek P D G H R → t D σ H
section
variable {K : PySem.W.Frag} {Ek : WX} {G G' H H' : Hp} {R R' : Res} {δ δ' : DEnv} {ta tb tc te tl : TE} {d x y z : D} {r : R2} {t u : TS} {P : Post} {tt : TT} {D : Ends}
theorem Cn.mono (c : Cn K Ek P D G H R) (le : Le G H R G' H' R') : Cn K Ek P D G' H' R' :=
  ⟨fun a b e f g p q l => c.nx a b e f g p q (le.trans l), fun a b e f g p q l => c.rt a b e f g p q (le.trans l), fun a b e f g p q l => c.bk a b e f g p q (le.trans l), fun a b e f g p q l => c.ct a b e f g p q (le.trans l), fun a b e f g h p q l => c.xe a b e f g h p q (le.trans l)⟩
/-! ### expressions as such -/
theorem ee_ev {N : Fl.D → Res → Prop} {M : Value → Res → Prop} (h : Ev K δ R te d) (n : N d R) : EvE K Ek δ R te N M := fun G H σ Q ok en k _ => h G H σ Q ok en fun v G' H' ok' le hv => k d R v G' H' n ok' le hv
theorem ee_evf {ds : List PyData} {N : Fl.D → Res → Prop} {M : Value → Res → Prop} (h : EvF K δ R te ds) (n : ∀ a, N (.r a) ((a, .lst ds) :: R)) : EvE K Ek δ R te N M := fun G H σ Q ok en k _ => h G H σ Q ok en fun a G' H' ok' le => k _ _ _ G' H' (n a) ok' le rfl
theorem EvE.mono {N N' : Fl.D → Res → Prop} {M M' : Value → Res → Prop} (h : EvE K Ek δ R te N M) (n : ∀ d R', N d R' → N' d R') (m : ∀ c R', M c R' → M' c R') : EvE K Ek δ R te N' M' := fun G H σ Q ok en k j =>
  h G H σ Q ok en (fun d R' v G' H' q => k d R' v G' H' (n d R' q)) fun c R' G' H' q => j c R' G' H' (m c R' q)
theorem ev_ee (h : EvE K (fun _ _ _ _ => False) δ R te (fun d' R' => d' = d ∧ R' = R) fun _ _ => False) : Ev K δ R te d := fun G H σ Q ok en k => h G H σ Q ok en (fun d' R' v G' H' q ok' le hv => by
  obtain ⟨rfl, rfl⟩ := q
  exact k v G' H' ok' le hv) fun c R' G' H' q => q.elim
/-! ### blocks -/
theorem x_nil (h : P.nx δ R) : XS K Ek δ R tNext P := fun G H σ D ok en c => c.nx δ R σ G H h ok .refl en
theorem x_seq (h : XS K Ek δ R t { P with nx := fun δ' R' => XS K Ek δ' R' u P }) : XS K Ek δ R (tSeq t u) P := fun G H σ D ok en c =>
  h G H σ { D with nx := u D } ok en ⟨fun δ' R' σ' G' H' q ok' le en' => q G' H' σ' D ok' en' (c.mono le), c.rt, c.bk, c.ct, c.xe⟩
theorem XS.post {P' : Post} (h : XS K Ek δ R t P) (n : ∀ δ' R', P.nx δ' R' → P'.nx δ' R') (r : ∀ d R', P.rt d R' → P'.rt d R') (b : ∀ δ' R', P.bk δ' R' → P'.bk δ' R') (c : ∀ δ' R', P.ct δ' R' → P'.ct δ' R') (x : ∀ e δ' R', P.xe e δ' R' → P'.xe e δ' R') : XS K Ek δ R t P' :=
  fun G H σ D ok en k => h G H σ D ok en ⟨fun a b' e f g p => k.nx a b' e f g (n _ _ p), fun a b' e f g p => k.rt a b' e f g (r _ _ p), fun a b' e f g p => k.bk a b' e f g (b _ _ p), fun a b' e f g p => k.ct a b' e f g (c _ _ p), fun a b' e f g h' p => k.xe a b' e f g h' (x _ _ _ p)⟩
theorem x_brk (h : P.bk δ R) : XS K Ek δ R tBreak P := fun G H σ D ok en c => c.bk δ R σ G H h ok .refl en
theorem x_cont (h : P.ct δ R) : XS K Ek δ R tCont P := fun G H σ D ok en c => c.ct δ R σ G H h ok .refl en
/-! ### x = e, the general form, a datum, an own list -/
theorem x_asgE {i : Nat} {N : Fl.D → Res → Prop} {M : Value → Res → Prop} (h : EvE K Ek δ R te N M) (n : ∀ d R', N d R' → P.nx (δ.set i (some d)) R') (m : ∀ c R', M c R' → P.xe c δ R') : XS K Ek δ R (tAsg te (gName i)) P := fun G H σ D ok en c =>
  h G H σ _ ok en (fun d R' v G' H' q ok' le hv => c.nx _ R' _ G' H' (n d R' q) ok' le ((en.mono le.g).set hv)) fun e R' G' H' q ok' le => c.xe e δ R' σ G' H' (m e R' q) ok' le (en.mono le.g)
theorem x_asg {i : Nat} (h : Ev K δ R te d) (n : P.nx (δ.set i (some d)) R) : XS K Ek δ R (tAsg te (gName i)) P := fun G H σ D ok en c =>
  h G H σ _ ok en fun v G' H' ok' le hv => c.nx _ R _ G' H' n ok' le ((en.mono le.g).set hv)
theorem x_asgF {i : Nat} {ds : List PyData} (h : EvF K δ R te ds) (n : ∀ a, P.nx (δ.set i (some (.r a))) ((a, .lst ds) :: R)) : XS K Ek δ R (tAsg te (gName i)) P := fun G H σ D ok en c =>
  h G H σ _ ok en fun a G' H' ok' le => c.nx _ _ _ G' H' (n a) ok' le ((en.mono le.g).set (d := .r a) rfl)
theorem x_asgG {g : TG} {w : PyData} (h : Ev K δ R te (.d w)) (hg : EvG K δ g w δ') (n : P.nx δ' R) : XS K Ek δ R (tAsg te g) P := fun G H σ D ok en c =>
  h G H σ _ ok en fun v G' H' ok' le hv => hg G' H' R σ v _ ok' (en.mono le.g) hv fun σ' en' => c.nx _ R _ G' H' n ok' le en'
/-! ### return, drop -/
theorem x_ret (h : Ev K δ R te d) (n : P.rt d R) : XS K Ek δ R (tRet te) P := fun G H σ D ok en c => h G H σ _ ok en fun v G' H' ok' le hv => c.rt d R v G' H' n ok' le hv
theorem x_retE {N : Fl.D → Res → Prop} {M : Value → Res → Prop} (h : EvE K Ek δ R te N M) (n : ∀ d R', N d R' → P.rt d R') (m : ∀ c R', M c R' → P.xe c δ R') : XS K Ek δ R (tRet te) P := fun G H σ D ok en c =>
  h G H σ _ ok en (fun d R' v G' H' q ok' le hv => c.rt d R' v G' H' (n d R' q) ok' le hv) fun e R' G' H' q ok' le => c.xe e δ R' σ G' H' (m e R' q) ok' le (en.mono le.g)
theorem x_retF {ds : List PyData} (h : EvF K δ R te ds) (n : ∀ a, P.rt (.r a) ((a, .lst ds) :: R)) : XS K Ek δ R (tRet te) P := fun G H σ D ok en c => h G H σ _ ok en fun a G' H' ok' le => c.rt _ _ _ G' H' (n a) ok' le rfl
theorem x_retN (n : P.rt (.d .none) R) : XS K Ek δ R tRetN P := fun G H σ D ok en c => c.rt _ R _ G H n ok .refl (show Hv G .non .none from .non)
theorem x_drop (h : Ev K δ R te d) (n : P.nx δ R) : XS K Ek δ R (tDrop te) P := fun G H σ D ok en c => h G H σ _ ok en fun v G' H' ok' le hv => c.nx δ R σ G' H' n ok' le (en.mono le.g)
theorem x_dropE {N : Fl.D → Res → Prop} {M : Value → Res → Prop} (h : EvE K Ek δ R te N M) (n : ∀ d R', N d R' → P.nx δ R') (m : ∀ c R', M c R' → P.xe c δ R') : XS K Ek δ R (tDrop te) P := fun G H σ D ok en c =>
  h G H σ _ ok en (fun d R' v G' H' q ok' le hv => c.nx δ R' σ G' H' (n d R' q) ok' le (en.mono le.g)) fun e R' G' H' q ok' le => c.xe e δ R' σ G' H' (m e R' q) ok' le (en.mono le.g)
/-! ### if -/
theorem x_if {b : Bool} (h : EvT K δ R tt b) (h1 : b = true → XS K Ek δ R t P) (h2 : b = false → XS K Ek δ R u P) : XS K Ek δ R (tIfS tt t u) P := fun G H σ D ok en c => h G H σ _ ok en fun G' H' ok' le => by
  cases b with
  | true =>
    rw [if_pos rfl]
    exact h1 rfl G' H' σ D ok' (en.mono le.g) (c.mono le)
  | false =>
    rw [if_neg Bool.false_ne_true]
    exact h2 rfl G' H' σ D ok' (en.mono le.g) (c.mono le)
/-! ### for, while -/
/-- I: the turn, the slots, what is owned -/
theorem x_for {wi : TI} {g : TG} {us : List PyData} (I : Nat → DEnv → Res → Prop) (h : EvI K δ R wi us) (h0 : I 0 δ R)
    (hs : ∀ (i : Nat) (w : PyData) δ' R', us[i]? = some w → I i δ' R' → ∃ δ2, EvG K δ' g w δ2 ∧ XS K Ek δ2 R' t { P with nx := I (i + 1), ct := I (i + 1), bk := P.nx })
    (hd : ∀ δ' R', I us.length δ' R' → P.nx δ' R') : XS K Ek δ R (tFor wi g t) P := fun G H σ D ok en c => h G H σ _ ok en fun J G1 H1 ok1 l1 hlen it => by
  refine ⟨fun i m σ2 H2 => m = us.length - i ∧ i ≤ us.length ∧ ∃ δ2 R2 G2, I i δ2 R2 ∧ Ok K G2 H2 R2 ∧ Le G H R G2 H2 R2 ∧ Gx G1 G2 ∧ DE K G2 σ2 δ2, ⟨us.length, by simp, Nat.zero_le _, δ, R, G1, h0, ok1, l1, Gx.refl _, en.mono l1.g⟩, ?_⟩
  rintro i m σ2 H2 ⟨rfl, hle, δ2, R2, G2, hI, ok2, l2, gx, en2⟩
  obtain ⟨st, go⟩ := it G2 H2 gx ok2.ex
  by_cases hlt : i < us.length
  · obtain ⟨w, hw⟩ : ∃ w, us[i]? = some w := ⟨us[i], List.getElem?_eq_getElem hlt⟩
    obtain ⟨hg, hy⟩ := go i w hw
    refine .inr ⟨hg, fun σ' H' => ∃ δ3 R3 G3, I (i + 1) δ3 R3 ∧ Ok K G3 H' R3 ∧ Le G H R G3 H' R3 ∧ Gx G1 G3 ∧ DE K G3 σ' δ3, fun σ' H' p => ⟨us.length - (i + 1), by omega, rfl, hlt, p⟩, fun v H3 q => ?_⟩
    obtain ⟨G3, ok3, l3, hv⟩ := (hy v H3 q).ok ok2
    obtain ⟨δ4, eg, xs⟩ := hs i w δ2 R2 hw hI
    refine eg G3 H3 R2 σ2 v _ ok3 (en2.mono l3.g) hv fun σ4 en4 => ?_
    have c3 := c.mono (l2.trans l3)
    exact xs G3 H3 σ4 _ ok3 en4 ⟨fun a b e f g' p q' l w' => ⟨a, b, f, p, q', (l2.trans l3).trans l, (gx.trans l3.g).trans l.g, w'⟩, c3.rt, fun a b e f g' p q' l w' => c3.nx a b e f g' p q' l w', fun a b e f g' p q' l w' => ⟨a, b, f, p, q', (l2.trans l3).trans l, (gx.trans l3.g).trans l.g, w'⟩, c3.xe⟩
  · have e : i = us.length := by omega
    subst e
    exact .inl ⟨st _ (Nat.le_refl _), c.nx δ2 R2 σ2 G2 H2 (hd δ2 R2 hI) ok2 l2 en2⟩
/-- I: a measure that falls, the slots, what is owned -/
theorem x_while (I : Nat → DEnv → Res → Prop) (m : Nat) (h0 : I m δ R)
    (hs : ∀ m δ' R', I m δ' R' → ∃ b, EvT K δ' R' tt b ∧ (b = true → XS K Ek δ' R' t { P with nx := fun δ2 R2 => ∃ m', m' < m ∧ I m' δ2 R2, ct := fun δ2 R2 => ∃ m', m' < m ∧ I m' δ2 R2, bk := P.nx }) ∧ (b = false → P.nx δ' R')) : XS K Ek δ R (tWhile tt t) P := fun G H σ D ok en c => by
  refine ⟨fun m σ2 H2 => ∃ δ2 R2 G2, I m δ2 R2 ∧ Ok K G2 H2 R2 ∧ Le G H R G2 H2 R2 ∧ DE K G2 σ2 δ2, ⟨m, δ, R, G, h0, ok, .refl, en⟩, ?_⟩
  rintro m σ2 H2 ⟨δ2, R2, G2, hI, ok2, l2, en2⟩
  obtain ⟨b, ht, h1, h2⟩ := hs m δ2 R2 hI
  refine ht G2 H2 σ2 _ ok2 en2 fun G3 H3 ok3 l3 => ?_
  have c3 := c.mono (l2.trans l3)
  cases b with
  | true =>
    rw [if_pos rfl]
    refine ⟨fun σ' H' => ∃ m', m' < m ∧ ∃ δ2 R2 G2, I m' δ2 R2 ∧ Ok K G2 H' R2 ∧ Le G H R G2 H' R2 ∧ DE K G2 σ' δ2, fun σ' H' p => p, h1 rfl G3 H3 σ2 _ ok3 (en2.mono l3.g) ⟨fun a b e f g' p q' l w' => ?_, c3.rt, c3.nx, fun a b e f g' p q' l w' => ?_, c3.xe⟩⟩
    · obtain ⟨m', hm, p⟩ := p
      exact ⟨m', hm, a, b, f, p, q', (l2.trans l3).trans l, w'⟩
    · obtain ⟨m', hm, p⟩ := p
      exact ⟨m', hm, a, b, f, p, q', (l2.trans l3).trans l, w'⟩
  | false =>
    rw [if_neg Bool.false_ne_true]
    exact c.nx δ2 R2 σ2 G3 H3 (h2 rfl) ok3 (l2.trans l3) (en2.mono l3.g)
/-! ### owned objects change -/
/-- xs.append(e) -/
theorem x_app {i : Nat} {a : Addr} {ds : List PyData} {w : PyData} (h1 : Ev K δ R ta (.r a)) (hi : R[i]? = some (a, .lst ds)) (h : Ev K δ R te (.d w)) (hz : ds.length < 50000) (n : P.nx δ (R.set i (a, .lst (ds ++ [w])))) :
    XS K Ek δ R (tDrop (tBM K "list" rAppend ta (tCons te tNil))) P := fun G H σ D ok en c => h1 G H σ _ ok en fun v G1 H1 ok1 l1 q1 => by
  cases (show v = .ref a from q1)
  obtain ⟨ws, e1, _, _⟩ := ok1.at hi
  refine ⟨.inl ⟨rfl, ws, SqL.of e1⟩, h G1 H1 σ _ ok1 (en.mono l1.g) fun u G2 H2 ok2 l2 q2 => ?_⟩
  obtain ⟨vs, e2, e3, e4⟩ := ok2.at hi
  have el := e4.len
  refine ⟨a, vs, u, rfl, rfl, e2, lim_lt e3, ?_⟩
  obtain ⟨ok3, l3⟩ := ok2.write (o := .lst (vs ++ [u])) (q := .lst (ds ++ [w])) hi ⟨_, upd_same, by rw [List.length_append]; show vs.length + 1 ≤ 50000; omega, e4.app (.cons q2 .nil)⟩
  exact c.nx δ _ σ _ _ n ok3 ((l1.trans l2).trans l3) (((en.mono l1.g).mono l2.g).mono l3.g)
/-- xs.extend(ys) -/
theorem x_ext {i : Nat} {a : Addr} {ds es : List PyData} (h1 : Ev K δ R ta (.r a)) (hi : R[i]? = some (a, .lst ds)) (h : Ev K δ R te (.d (.list es))) (hz : ds.length + es.length ≤ 50000) (n : P.nx δ (R.set i (a, .lst (ds ++ es)))) :
    XS K Ek δ R (tDrop (tBM K "list" rExtend ta (tCons te tNil))) P := fun G H σ D ok en c => h1 G H σ _ ok en fun v G1 H1 ok1 l1 q1 => by
  cases (show v = .ref a from q1)
  obtain ⟨ws, e1, _, _⟩ := ok1.at hi
  refine ⟨.inl ⟨rfl, ws, SqL.of e1⟩, h G1 H1 σ _ ok1 (en.mono l1.g) fun u G2 H2 ok2 l2 q2 => ?_⟩
  obtain ⟨vs, e2, e3, e4⟩ := ok2.at hi
  have el := e4.len
  cases (show Hv G2 u (.list es) from q2) with
  | @lst b us _ f1 f2 f3 =>
    have fl := f3.len
    refine ⟨a, b, vs, us, rfl, rfl, e2, ok2.ex _ _ f1, lim_le (by omega), ?_⟩
    obtain ⟨ok3, l3⟩ := ok2.write (o := .lst (vs ++ us)) (q := .lst (ds ++ es)) hi ⟨_, upd_same, by rw [List.length_append]; omega, e4.app f3⟩
    exact c.nx δ _ σ _ _ n ok3 ((l1.trans l2).trans l3) (((en.mono l1.g).mono l2.g).mono l3.g)
/-- xs[i] = e -/
theorem x_setL {i j : Nat} {a : Addr} {ds : List PyData} {w : PyData} {k : Int} (h : Ev K δ R te (.d w)) (h1 : Ev K δ R ta (.r a)) (h2 : Ev K δ R tb (.d (.int k))) (hi : R[i]? = some (a, .lst ds)) (hj : ixN ds.length k = some j) (n : P.nx δ (R.set i (a, .lst (ds.set j w)))) :
    XS K Ek δ R (tAsg te (gSub ta tb rSetL)) P := fun G H σ D ok en c => h G H σ _ ok en fun u G1 H1 ok1 l1 q1 => h1 G1 H1 σ _ ok1 (en.mono l1.g) fun v G2 H2 ok2 l2 q2 => h2 G2 H2 σ _ ok2 ((en.mono l1.g).mono l2.g) fun x G3 H3 ok3 l3 q3 => by
  cases (show v = .ref a from q2)
  cases (show Hv G3 x (.int k) from q3)
  obtain ⟨vs, e1, e2, e3⟩ := ok3.at hi
  have el := e3.len
  refine ⟨a, vs, k, j, rfl, rfl, e1, by rw [el]; exact hj, ?_⟩
  obtain ⟨ok4, l4⟩ := ok3.write (o := .lst (vs.set j u)) (q := .lst (ds.set j w)) hi ⟨_, upd_same, by rw [List.length_set]; exact e2, e3.set (Hv.mono (l2.g.trans l3.g) _ q1) j⟩
  exact c.nx δ _ σ _ _ n ok4 (((l1.trans l2).trans l3).trans l4) ((((en.mono l1.g).mono l2.g).mono l3.g).mono l4.g)
/-- xs.clear() -/
theorem x_clear {i : Nat} {a : Addr} {ds : List PyData} (h1 : Ev K δ R ta (.r a)) (hi : R[i]? = some (a, .lst ds)) (n : P.nx δ (R.set i (a, .lst []))) : XS K Ek δ R (tDrop (tBM0 K "list" rClear ta)) P := fun G H σ D ok en c => h1 G H σ _ ok en fun v G1 H1 ok1 l1 q1 => by
  cases (show v = .ref a from q1)
  obtain ⟨ws, e1, _, _⟩ := ok1.at hi
  obtain ⟨ok3, l3⟩ := ok1.write (o := .lst []) (q := .lst []) hi ⟨[], upd_same, Nat.zero_le _, .nil⟩
  exact ⟨.inl ⟨rfl, ws, SqL.of e1⟩, a, ws, rfl, rfl, e1, c.nx δ _ σ _ _ n ok3 (l1.trans l3) ((en.mono l1.g).mono l3.g)⟩
/-- an attribute is stored -/
def putFD (f : Str) (v : Fl.D) : List (Str × Fl.D) → List (Str × Fl.D)
  | [] => [(f, v)]
  | (g, w) :: r => if g = f then (g, v) :: r else (g, w) :: putFD f v r
theorem Fvs.put {f : Str} {v : V} (q : HD K G v d) : ∀ {vs : List (Str × V)} {ds : List (Str × Fl.D)}, Fvs K G vs ds → Fvs K G (putF f v vs) (putFD f d ds)
  | _, _, .nil => .cons q .nil
  | _, _, .cons (k := k) h t => by
    unfold putF putFD
    by_cases e : k = f
    · rw [if_pos e, if_pos e]; exact .cons q t
    · rw [if_neg e, if_neg e]; exact .cons h (Fvs.put q t)
theorem x_fld {i : Nat} {a C : Addr} {fs : List (Str × Fl.D)} {f : Str} (h : Ev K δ R te d) (h1 : Ev K δ R ta (.r a)) (hi : R[i]? = some (a, .ins C fs)) (hl : fs.length < 1000) (n : P.nx δ (R.set i (a, .ins C (putFD f d fs)))) (hc : Cls K C) (hn : NoAttr K C f) :
    XS K Ek δ R (sFld K ta te f) P := fun G H σ D ok en c => h G H σ _ ok en fun u G1 H1 ok1 l1 q1 => h1 G1 H1 σ _ ok1 (en.mono l1.g) fun v G2 H2 ok2 l2 q2 => by
  cases (show v = .ref a from q2)
  obtain ⟨dx, vs, e, fv⟩ := ok2.at hi
  obtain ⟨ok4, l4⟩ := ok2.write (o := .ins C dx (putF f u vs)) (q := .ins C (putFD f d fs)) hi ⟨dx, _, upd_same, fv.put (q1.mono l2.g)⟩
  exact ⟨a, C, dx, vs, rfl, e, hc, hn, by rw [fv.len]; exact hl, c.nx δ _ σ _ _ n ok4 ((l1.trans l2).trans l4) (((en.mono l1.g).mono l2.g).mono l4.g)⟩
/-- an attribute is a new own list -/
theorem x_fldF {i : Nat} {a C : Addr} {fs : List (Str × Fl.D)} {f : Str} {ds : List PyData} (h : EvF K δ R te ds) (h1 : ∀ R', Ev K δ R' ta (.r a)) (hi : R[i]? = some (a, .ins C fs)) (hl : fs.length < 1000) (n : ∀ b, P.nx δ ((b, .lst ds) :: R.set i (a, .ins C (putFD f (.r b) fs)))) (hc : Cls K C) (hn : NoAttr K C f) :
    XS K Ek δ R (sFld K ta te f) P := fun G H σ D ok en c => h G H σ _ ok en fun b G1 H1 ok1 l1 => h1 _ G1 H1 σ _ ok1 (en.mono l1.g) fun v G2 H2 ok2 l2 q2 => by
  cases (show v = .ref a from q2)
  have hi' : ((b, RO.lst ds) :: R)[i + 1]? = some (a, .ins C fs) := by simpa using hi
  obtain ⟨dx, vs, e, fv⟩ := ok2.at hi'
  obtain ⟨ok4, l4⟩ := ok2.write (o := .ins C dx (putF f (.ref b) vs)) (q := .ins C (putFD f (.r b) fs)) hi' ⟨dx, _, upd_same, fv.put (d := .r b) rfl⟩
  exact ⟨a, C, dx, vs, rfl, e, hc, hn, by rw [fv.len]; exact hl, c.nx δ _ σ _ _ (n b) ok4 ((l1.trans l2).trans l4) (((en.mono l1.g).mono l2.g).mono l4.g)⟩
/-- an attribute is a new empty dict -/
theorem x_fldD {i : Nat} {a C : Addr} {fs : List (Str × Fl.D)} {f : Str} (h1 : ∀ R', Ev K δ R' ta (.r a)) (hi : R[i]? = some (a, .ins C fs)) (hl : fs.length < 1000) (n : ∀ b, P.nx δ ((b, .dic []) :: R.set i (a, .ins C (putFD f (.r b) fs)))) (hc : Cls K C) (hn : NoAttr K C f) :
    XS K Ek δ R (sFld K ta tDNewK f) P := fun G H σ D ok en c b hb => by
  obtain ⟨ok1, l1⟩ := ok.laid (o := .dK []) (q := .dic []) hb ⟨[], upd_same, Nat.zero_le _, .nil⟩
  refine h1 _ G _ σ _ ok1 (en.mono l1.g) fun v G2 H2 ok2 l2 q2 => ?_
  cases (show v = .ref a from q2)
  have hi' : ((b, RO.dic []) :: R)[i + 1]? = some (a, .ins C fs) := by simpa using hi
  obtain ⟨dx, vs, e, fv⟩ := ok2.at hi'
  obtain ⟨ok4, l4⟩ := ok2.write (o := .ins C dx (putF f (.ref b) vs)) (q := .ins C (putFD f (.r b) fs)) hi' ⟨dx, _, upd_same, fv.put (d := .r b) rfl⟩
  exact ⟨a, C, dx, vs, rfl, e, hc, hn, by rw [fv.len]; exact hl, c.nx δ _ σ _ _ (n b) ok4 ((l1.trans l2).trans l4) (((en.mono l1.g).mono l2.g).mono l4.g)⟩
/-- d[k] = v -/
def putD {κ : Type} [DecidableEq κ] (kvs : List (κ × Fl.D)) (k : κ) (v : Fl.D) : List (κ × Fl.D) := if (kvs.any fun kv => decide (kv.1 = k)) = true then kvs.map (fun kv => if kv.1 = k then (kv.1, v) else kv) else kvs ++ [(k, v)]
def dropD {κ : Type} [DecidableEq κ] (kvs : List (κ × Fl.D)) (k : κ) : List (κ × Fl.D) := kvs.filter fun kv => decide (kv.1 ≠ k)
theorem Fvs.app1 {κ : Type} {k : κ} {v : V} (q : HD K G v d) : ∀ {vs : List (κ × V)} {ds : List (κ × Fl.D)}, Fvs K G vs ds → Fvs K G (vs ++ [(k, v)]) (ds ++ [(k, d)])
  | _, _, .nil => .cons q .nil
  | _, _, .cons h t => .cons h (Fvs.app1 q t)
theorem Fvs.mapPut {κ : Type} [DecidableEq κ] {k : κ} {v : V} (q : HD K G v d) : ∀ {vs : List (κ × V)} {ds : List (κ × Fl.D)}, Fvs K G vs ds → Fvs K G (vs.map fun kv => if kv.1 = k then (kv.1, v) else kv) (ds.map fun kv => if kv.1 = k then (kv.1, d) else kv)
  | _, _, .nil => .nil
  | _, _, .cons (k := j) h t => by
    simp only [List.map_cons]
    by_cases e : j = k
    · rw [if_pos e, if_pos e]; exact .cons q (Fvs.mapPut q t)
    · rw [if_neg e, if_neg e]; exact .cons h (Fvs.mapPut q t)
theorem Fvs.anyKey {κ : Type} [DecidableEq κ] {k : κ} : ∀ {vs : List (κ × V)} {ds : List (κ × Fl.D)}, Fvs K G vs ds → (vs.any fun kv => decide (kv.1 = k)) = (ds.any fun kv => decide (kv.1 = k))
  | _, _, .nil => rfl
  | _, _, .cons h t => by
    rw [List.any_cons, List.any_cons, Fvs.anyKey t]
theorem Fvs.putK {κ : Type} [DecidableEq κ] {k : κ} {v : V} {vs : List (κ × V)} {ds : List (κ × Fl.D)} (h : Fvs K G vs ds) (q : HD K G v d) : Fvs K G (L2.putK vs k v) (putD ds k d) := by
  unfold L2.putK putD
  rw [h.anyKey]
  by_cases e : (ds.any fun kv => decide (kv.1 = k)) = true
  · rw [if_pos e, if_pos e]; exact h.mapPut q
  · rw [if_neg e, if_neg e]; exact h.app1 q
theorem Fvs.dropK {κ : Type} [DecidableEq κ] {k : κ} : ∀ {vs : List (κ × V)} {ds : List (κ × Fl.D)}, Fvs K G vs ds → Fvs K G (L2.dropK vs k) (dropD ds k)
  | _, _, .nil => .nil
  | _, _, .cons (k := j) (v := v) (d := e) (vs := vs) (ds := ds) h t => by
    by_cases q : j = k
    · have e1 : L2.dropK ((j, v) :: vs) k = L2.dropK vs k := dropK_pos q
      have e2 : dropD ((j, e) :: ds) k = dropD ds k := by unfold dropD; rw [List.filter_cons, if_neg (by simp [q])]
      rw [e1, e2]; exact Fvs.dropK t
    · have e1 : L2.dropK ((j, v) :: vs) k = (j, v) :: L2.dropK vs k := dropK_neg q
      have e2 : dropD ((j, e) :: ds) k = (j, e) :: dropD ds k := by unfold dropD; rw [List.filter_cons, if_pos (by simp [q])]
      rw [e1, e2]; exact .cons h (Fvs.dropK t)
theorem putK_len {κ : Type} [DecidableEq κ] (c : List (κ × V)) (k : κ) (x : V) : (L2.putK c k x).length ≤ c.length + 1 := by
  unfold L2.putK
  split
  · rw [List.length_map]; omega
  · rw [List.length_append]; simp
theorem x_dput {i : Nat} {a : Addr} {kvs : List (Key × Fl.D)} {k : Key} (h : Ev K δ R te d) (h1 : Ev K δ R ta (.r a)) (h2 : Ev K δ R tb (.d (keyD k))) (hi : R[i]? = some (a, .dic kvs)) (hz : kvs.length < 50000) (n : P.nx δ (R.set i (a, .dic (putD kvs k d)))) :
    XS K Ek δ R (sDPut ta tb te) P := fun G H σ D ok en c => h G H σ _ ok en fun u G1 H1 ok1 l1 q1 => h1 G1 H1 σ _ ok1 (en.mono l1.g) fun v G2 H2 ok2 l2 q2 => h2 G2 H2 σ _ ok2 ((en.mono l1.g).mono l2.g) fun x G3 H3 ok3 l3 q3 => by
  cases (show v = .ref a from q2)
  have ex := Hv.key (show Hv G3 x (keyD k) from q3)
  subst ex
  obtain ⟨vs, e1, e2, fv⟩ := ok3.at hi
  have fl := fv.len
  have pl := putK_len vs k u
  obtain ⟨ok4, l4⟩ := ok3.write (o := .dK (L2.putK vs k u)) (q := .dic (putD kvs k d)) hi ⟨_, upd_same, by omega, fv.putK (q1.mono (l2.g.trans l3.g))⟩
  exact ⟨a, _, rfl, DPut.k e1 (lim_lt e2), c.nx δ _ σ _ _ n ok4 (((l1.trans l2).trans l3).trans l4) ((((en.mono l1.g).mono l2.g).mono l3.g).mono l4.g)⟩
/-- d.pop(k), dropped -/
theorem x_dpop {i : Nat} {a : Addr} {kvs : List (Key × Fl.D)} {k : Key} (h1 : Ev K δ R ta (.r a)) (h2 : Ev K δ R tb (.d (keyD k))) (hi : R[i]? = some (a, .dic kvs)) (hl : valD kvs k = some d) (n : P.nx δ (R.set i (a, .dic (dropD kvs k)))) :
    XS K Ek δ R (tDrop (tDPop1 ta tb)) P := fun G H σ D ok en c => h1 G H σ _ ok en fun v G1 H1 ok1 l1 q1 => by
  cases (show v = .ref a from q1)
  obtain ⟨ws, f1, f2, f3⟩ := ok1.at hi
  refine ⟨a, rfl, .inl ⟨ws, .inl f1⟩, h2 G1 H1 σ _ ok1 (en.mono l1.g) fun x G2 H2 ok2 l2 q2 => ?_⟩
  have ex := Hv.key (show Hv G2 x (keyD k) from q2)
  subst ex
  obtain ⟨vs, e1, e2, fv⟩ := ok2.at hi
  obtain ⟨w, g1, g2⟩ := fv.some hl
  have fl := dropK_le vs k
  obtain ⟨ok4, l4⟩ := ok2.write (o := .dK (L2.dropK vs k)) (q := .dic (dropD kvs k)) hi ⟨_, upd_same, by omega, fv.dropK⟩
  exact ⟨vs, k, w, e1, rfl, g1, c.nx δ _ σ _ _ n ok4 ((l1.trans l2).trans l4) (((en.mono l1.g).mono l2.g).mono l4.g)⟩
end

/-! ### defs: what they promise, and how they are called -/
abbrev Fn := List D → Res → (D → Res → Prop) → (Value → Res → Prop) → Prop
inductive HDs (K : PySem.W.Frag) (G : Hp) : List V → List D → Prop
  | nil : HDs K G [] []
  | cons {v : V} {vs : List V} {d : D} {ds : List D} : HD K G v d → HDs K G vs ds → HDs K G (v :: vs) (d :: ds)
theorem HDs.len {K : PySem.W.Frag} {G : Hp} : ∀ {vs : List V} {ds : List D}, HDs K G vs ds → vs.length = ds.length
  | _, _, .nil => rfl
  | _, _, .cons h t => by simp [HDs.len t]
theorem HDs.get {K : PySem.W.Frag} {G : Hp} : ∀ {vs : List V} {ds : List D} {i : Nat} {d : D}, HDs K G vs ds → ds[i]? = some d → ∃ v, vs[i]? = some v ∧ HD K G v d
  | _, _, i, d, .nil, e => by simp at e
  | _, _, 0, d, .cons h t, e => by simp at e; subst e; exact ⟨_, rfl, h⟩
  | _, _, i + 1, d, .cons h t, e => by
    obtain ⟨v, a, b⟩ := HDs.get (i := i) t (by simpa using e)
    exact ⟨v, by simpa using a, b⟩
theorem hds_of {K : PySem.W.Frag} {G : Hp} : ∀ {vs : List V} {ds : List D}, vs.length = ds.length → (∀ (i : Nat) (v : V) (d : D), vs[i]? = some v → ds[i]? = some d → HD K G v d) → HDs K G vs ds
  | [], [], _, _ => .nil
  | [], d :: ds, h, _ => by simp at h
  | v :: vs, [], h, _ => by simp at h
  | v :: vs, d :: ds, h, q => .cons (q 0 v d rfl rfl) (hds_of (by simpa using h) fun i a b e f => q (i + 1) a b (by simpa using e) (by simpa using f))
def spD (K : PySem.W.Frag) (Φ : Fn) : Sp := fun vs H Q E => ∃ (G : Hp) (ds : List D) (R : Res) (N : D → Res → Prop) (M : Value → Res → Prop), HDs K G vs ds ∧ Ok K G H R ∧ Φ ds R N M ∧
  (∀ d R' v G' H', N d R' → Ok K G' H' R' → Le G H R G' H' R' → HD K G' v d → Q v H') ∧ (∀ c R' G' H', M c R' → Ok K G' H' R' → Le G H R G' H' R' → E c none H')
def startD (N : List Str) (ds : List D) : DEnv := ds.map some ++ List.replicate (N.length - ds.length) none
theorem start_de {K : PySem.W.Frag} {G : Hp} {N : List Str} {vs : List V} {ds : List D} (h : HDs K G vs ds) : DE K G (L2.start N vs) (startD N ds) := by
  have e := h.len
  refine ⟨by simp [L2.start, startD, e], fun i d hi => ?_⟩
  unfold startD at hi
  unfold L2.start
  by_cases z : i < ds.length
  · rw [List.getElem?_append_left (by simpa using z), List.getElem?_map] at hi
    cases q : ds[i]? with
    | none => rw [q] at hi; cases hi
    | some d' =>
      rw [q] at hi
      have hd : d' = d := Option.some.inj (Option.some.inj hi)
      subst hd
      obtain ⟨v, a, b⟩ := h.get q
      exact ⟨v, by rw [List.getElem?_append_left (by simpa [e] using z), List.getElem?_map, a]; rfl, b⟩
  · rw [List.getElem?_append_right (by simpa using z), List.getElem?_replicate] at hi
    split at hi <;> cases hi
/-- what a body reaches -/
def endsOf (N : D → Res → Prop) (M : Value → Res → Prop) : Post := ⟨fun _ R' => N (.d .none) R', N, fun _ _ => False, fun _ _ => False, fun c _ R' => M c R'⟩
theorem fn_sem {K : PySem.W.Frag} {Φ : Fn} {N : List Str} {t : XK → TS} {vs : List V} {H : Hp} {Q : VK} {E : XK} (h : ∀ (E : XK) (ds : List D) (R : Res) (N' : D → Res → Prop) (M' : Value → Res → Prop), Φ ds R N' M' → XS K (fun c d _ H => E c d H) (startD N ds) R (t E) (endsOf N' M'))
    (hs : spD K Φ vs H Q E) : t E { nx := fun _ H' => Q .non H', rt := Q } (L2.start N vs) H := by
  obtain ⟨G, ds, R, N', M', hd, ok, hp, hn, hm⟩ := hs
  exact h E ds R N' M' hp G H _ _ ok (start_de hd) ⟨fun δ' R' σ' G' H' p q l w => hn _ R' _ G' H' p q l (show Hv G' .non .none from .non), hn, fun δ' R' σ' G' H' p => p.elim, fun δ' R' σ' G' H' p => p.elim, fun c δ' R' σ' G' H' p q l w => hm c R' G' H' p q l⟩
theorem sp_len {K : PySem.W.Frag} {Φ : Fn} {n : Nat} {vs : List V} {H : Hp} {Q : VK} {E : XK} (h : ∀ ds R N M, Φ ds R N M → ds.length = n) (hs : spD K Φ vs H Q E) : vs.length = n := by
  obtain ⟨G, ds, R, N', M', hd, ok, hp, _⟩ := hs
  rw [hd.len]
  exact h _ _ _ _ hp
section
variable {K : PySem.W.Frag} {Ek : WX} {G G' H H' : Hp} {R R1 A B : Res} {δ δ' : DEnv} {ta tb te : TE} {tA : TA} {d x : D} {ds : List D} {Φ : Fn} {E : XK} {N : D → Res → Prop} {M : Value → Res → Prop}
/-- a call: R is A, then what the callee owns, then B -/
theorem ee_call {S : L2.St → XK} (ha : EvA K δ (A ++ R1 ++ B) tA ds) (hp : Φ ds R1 (fun d R' => N d (A ++ R' ++ B)) (fun c R' => M c (A ++ R' ++ B))) (hE : ∀ c R' σ H', M c R' → Ek c none σ H' → S σ c none H') : EvE K Ek δ (A ++ R1 ++ B) (tCallS (spD K Φ) S tA) N M := fun G H σ Q ok en k j =>
  ha G H σ _ ok en fun vs G1 H1 ok1 l1 ⟨q1, q2⟩ => ⟨G1, ds, R1, _, _, hds_of q1 q2, ok1.part, hp, fun d R' v G' H' n ok' le hv => by
    obtain ⟨ok2, l2⟩ := ok1.whole ok' le
    exact k d _ v G' H' n ok2 (l1.trans l2) hv, fun c R' G' H' m ok' le => by
    obtain ⟨ok2, l2⟩ := ok1.whole ok' le
    exact hE c _ σ H' m (j c _ G' H' m ok2 (l1.trans l2))⟩
theorem ee_callE (h : EvE K Ek δ R (tCallS (spD K Φ) (fun _ => E) tA) N M) : EvE K Ek δ R (tCall (spD K Φ) [] E tA) N M := fun G H σ Q ok en k j => by
  have q := h G H σ Q ok en k j
  show tA σ H fun vs H1 => spD K Φ (vs ++ []) H1 Q E
  have e : (fun (vs : List V) H1 => spD K Φ (vs ++ []) H1 Q E) = fun vs H1 => spD K Φ vs H1 Q E := by funext vs H1; rw [List.append_nil]
  rw [e]
  exact q
/-- a method -/
def tMethS' (C : Addr) (m : Str) (sp : Sp) (E : L2.St → XK) (ta : TE) (t : TA) : TE := fun σ H Q => ta σ H fun x H1 => ∃ a dx fs, x = .ref a ∧ H1 a = some (.ins C dx fs) ∧ fs.lookup m = none ∧ t σ H1 fun vs H2 => sp (x :: vs) H2 Q (E σ)
theorem ee_meth {S : L2.St → XK} {C p : Addr} {m : Str} {i : Nat} {fs : List (Str × D)} (h1 : Ev K δ (A ++ R1 ++ B) ta (.r p)) (hi : (A ++ R1 ++ B)[i]? = some (p, .ins C fs)) (hl : fs.lookup m = none) (ha : EvA K δ (A ++ R1 ++ B) tA ds)
    (hp : Φ (.r p :: ds) R1 (fun d R' => N d (A ++ R' ++ B)) (fun c R' => M c (A ++ R' ++ B))) (hE : ∀ c R' σ H', M c R' → Ek c none σ H' → S σ c none H') : EvE K Ek δ (A ++ R1 ++ B) (tMethS' C m (spD K Φ) S ta tA) N M := fun G H σ Q ok en k j =>
  h1 G H σ _ ok en fun v G0 H0 ok0 l0 q0 => by
    cases (show v = .ref p from q0)
    obtain ⟨dx, vs0, e0, fv⟩ := ok0.at hi
    refine ⟨p, dx, vs0, rfl, e0, fv.lookN hl, ha G0 H0 σ _ ok0 (en.mono l0.g) fun vs G1 H1 ok1 l1 ⟨q1, q2⟩ => ⟨G1, .r p :: ds, R1, _, _, .cons rfl (hds_of q1 q2), ok1.part, hp, fun d R' v G' H' n ok' le hv => ?_, fun c R' G' H' m ok' le => ?_⟩⟩
    · obtain ⟨ok2, l2⟩ := ok1.whole ok' le
      exact k d _ v G' H' n ok2 ((l0.trans l1).trans l2) hv
    · obtain ⟨ok2, l2⟩ := ok1.whole ok' le
      exact hE c _ σ H' m (j c _ G' H' m ok2 ((l0.trans l1).trans l2))
theorem ee_methE {C : Addr} {m : Str} (h : EvE K Ek δ R (tMethS' C m (spD K Φ) (fun _ => E) ta tA) N M) : EvE K Ek δ R (tMeth C m (spD K Φ) [] E ta tA) N M := fun G H σ Q ok en k j => by
  have q := h G H σ Q ok en k j
  have e : tMeth C m (spD K Φ) [] E ta tA = tMethS' C m (spD K Φ) (fun _ => E) ta tA := by
    funext σ H Q
    unfold tMeth tMethS'
    simp only [List.append_nil]
  rw [e]
  exact q
/-- C(..): __init__'s promise at the new instance -/
def tMakeS (C : Addr) (sp : Sp) (S : L2.St → XK) (t : TA) : TE := fun σ H Q => t σ H fun vs H1 => ∀ x dx, H1 x = none → H1 dx = none → dx ≠ x → sp (.ref x :: vs) (upd (upd H1 dx (.own x)) x (.ins C dx [])) (fun v H2 => v = .non ∧ Q (.ref x) H2) (S σ)
theorem ee_make {S : L2.St → XK} {C : Addr} (ha : EvA K δ R tA ds) (hp : ∀ x, Φ (.r x :: ds) [(x, .ins C [])] (fun d R' => d = .d .none ∧ N (.r x) (R' ++ R)) (fun c _ => M c R)) (hE : ∀ c R' σ H', M c R' → Ek c none σ H' → S σ c none H') : EvE K Ek δ R (tMakeS C (spD K Φ) S tA) N M := fun G H σ Q ok en k j =>
  ha G H σ _ ok en fun vs G1 H1 ok1 l1 ⟨q1, q2⟩ => fun x dx nx ndx ne => by
    obtain ⟨ok2, l2⟩ := ok1.aside (p := dx) (o := .own x) ndx
    have nx2 : upd H1 dx (.own x) x = none := by rw [upd_ne ne.symm]; exact nx
    obtain ⟨ok3, l3⟩ := ok2.laid (p := x) (o := .ins C dx []) (q := .ins C []) nx2 ⟨dx, [], upd_same, .nil⟩
    have ok3' : Ok K G1 (upd (upd H1 dx (.own x)) x (.ins C dx [])) ([] ++ [(x, RO.ins C [])] ++ R) := ok3
    have l3' : Le G1 (upd H1 dx (.own x)) R G1 (upd (upd H1 dx (.own x)) x (.ins C dx [])) ([] ++ [(x, RO.ins C [])] ++ R) := l3
    refine ⟨G1, .r x :: ds, [(x, .ins C [])], _, _, .cons rfl (hds_of q1 q2), ok3'.part, hp x, fun d R' v G' H' n ok' le hv => ?_, fun c R' G' H' m ok' le => ?_⟩
    · obtain ⟨ok4, l4⟩ := ok3'.whole ok' le
      obtain ⟨rfl, n⟩ := n
      cases (show Hv G' v .none from hv)
      exact ⟨rfl, k (.r x) (R' ++ R) (.ref x) G' H' n ok4 (((l1.trans l2).trans l3').trans l4) rfl⟩
    · obtain ⟨ok4, l4⟩ := ok3'.whole ok' le
      have ok5 : Ok K G' H' R := Ok.part (A := R') (B := []) (by simpa using ok4)
      have l5 : Le G H R G' H' R := by
        have q := ((l1.trans l2).trans l3').trans l4
        exact ⟨q.g, q.h, q.n, fun a m => .inl m, q.dm⟩
      exact hE c R σ H' m (j c R G' H' m ok5 l5)
end
end Fl
/-! More rules: operators one by one, counts, calls by form, raise, try. -/
namespace Fl
open PySem PySem.Spec PyProof.Rows L2
section
variable {K : PySem.W.Frag} {Ek : WX} {G G' H H' : Hp} {R R1 A B : Res} {δ δ' : DEnv} {ta tb tc te tl : TE} {d x y z : D} {r : R2} {t u : TS} {P : Post} {tt : TT}
theorem rv_minus {i j : Int} : RV K R rMinus (.d (.int i)) (.d (.int j)) (.d (.int (i - j))) := rv_I0 fun _ => .int _
theorem rv_lt {i j : Int} : RV K R rLt (.d (.int i)) (.d (.int j)) (.d (.bool (decide (i < j)))) := rv_I0 fun _ => .bl _
theorem rv_le {i j : Int} : RV K R rLe (.d (.int i)) (.d (.int j)) (.d (.bool (decide (i ≤ j)))) := rv_I0 fun _ => .bl _
theorem rv_gt {i j : Int} : RV K R rGt (.d (.int i)) (.d (.int j)) (.d (.bool (decide (j < i)))) := rv_I0 fun _ => .bl _
theorem rv_ge {i j : Int} : RV K R rGe (.d (.int i)) (.d (.int j)) (.d (.bool (decide (j ≤ i)))) := rv_I0 fun _ => .bl _
theorem rv_div {i j : Int} (h : CDiv i j) : RV K R rDiv (.d (.int i)) (.d (.int j)) (.d (.int (i / j))) := rv_I h fun _ => .int _
theorem rv_mod {i j : Int} (h : 0 < j) : RV K R rMod (.d (.int i)) (.d (.int j)) (.d (.int (i % j))) := rv_I h fun _ => .int _
theorem rv_pow {i j : Int} (h : CPow i j) : RV K R rPow (.d (.int i)) (.d (.int j)) (.d (.int (i ^ j.toNat))) := rv_I h fun _ => .int _
theorem rv_times {i j : Int} (h : CMul i j) : RV K R rTimes (.d (.int i)) (.d (.int j)) (.d (.int (i * j))) := rv_I h fun _ => .int _
def rNeg : V → Hp → VK → Prop := rU fun i => .int (-i)
theorem un_neg' {X : Cx} : UnR X (unaryOp .USub) rNeg := un_neg
theorem ev_neg {i : Int} (h : Ev K δ R te (.d (.int i))) : Ev K δ R (tUn rNeg te) (.d (.int (-i))) := fun G H σ Q ok en k => h G H σ _ ok en fun v G1 H1 ok1 l1 q1 => by
  cases (show Hv G1 v (.int i) from q1)
  exact ⟨i, rfl, k _ G1 H1 ok1 l1 (show Hv G1 _ _ from .int _)⟩
/-! ### counts -/
def rCnt (K : PySem.W.Frag) : V → List V → Hp → VK → Prop := fun x vs H Q => ∃ (p : Addr) (ys : List V) (es : List PyData) (y : V) (d : PyData), x = .ref p ∧ vs = [y] ∧ SqL K H p ys ∧ DpAll K H ys es ∧ Dp K H y d ∧ PyData.plainAll es = true ∧ d.plain = true ∧ min (PyData.depthAll es) d.depth ≤ 60 ∧ Q (.int (es.countP fun e => PyData.eqv e d : Nat)) H
theorem mt_cnt {X : Cx} (hu : X.A.units + 64 < cLine) : MtR X "list.count" (rCnt X.K) := by
  intro pins s σ H x xs v us Q I rx rxs h
  obtain ⟨p, ys, es, y, d, rfl, rfl, hs, ha, hd, pe, pd, hm, q⟩ := h
  cases rx
  obtain ⟨w, rfl, ru⟩ := rxs.one
  obtain ⟨its, rv, pl, hlen⟩ := I.list hs
  obtain ⟨as, r1⟩ := Dp.readsAll I es ys its ha rv
  obtain ⟨bs, r2⟩ := Dp.reads I d y w hd ru
  exact SeqAt.count_list_data pl.isList (by simpa using r1) r2 pe pd (by omega) ⟨.int _, H, I.tok _, ⟨_, rfl⟩, q⟩
theorem ev_cnt {es : List PyData} {w : PyData} (h1 : Ev K δ R ta d) (hl : Ls R d es) (h2 : Ev K δ R tb (.d w)) (hm : min (PyData.depthAll es) w.depth ≤ 60) : Ev K δ R (tBM K "list" (rCnt K) ta (tCons tb tNil)) (.d (.int (es.countP fun e => PyData.eqv e w : Nat))) := fun G H σ Q ok en k =>
  h1 G H σ _ ok en fun v G1 H1 ok1 l1 q1 => by
    obtain ⟨a, vs, rfl, ea, la, hv⟩ := hl.hv ok1 q1
    refine ⟨.inl ⟨rfl, vs, SqL.of ea⟩, h2 G1 H1 σ _ ok1 (en.mono l1.g) fun u G2 H2 ok2 l2 q2 => ?_⟩
    obtain ⟨a', vs', e', ea', la', hv'⟩ := hl.hv ok2 (q1.mono l2.g)
    cases e'
    have m := Hvs.mono ok2.ex _ hv'
    exact ⟨a, vs', es, u, w, rfl, rfl, SqL.of ea', Hvs.dp _ m, Hv.dp _ (Hv.mono ok2.ex _ q2), Hvs.plain _ m, Hv.plain _ q2, hm, k _ G2 H2 ok2 (l1.trans l2) (show Hv G2 _ _ from .int _)⟩
/-! ### join -/
def rJoin (K : PySem.W.Frag) : V → List V → Hp → VK → Prop := fun x xs H Q => ∃ a p, ∃ ys : List Str, x = .str a ∧ xs = [.ref p] ∧ (SqL K H p (ys.map V.str) ∨ SqT K H p (ys.map V.str)) ∧ (ys.map (·.length)).sum + ys.length * a.length ≤ 16777216 ∧ Q (.str (Txt.join a ys)) H
theorem ev_join {ys : List Str} {a : Str} (h1 : Ev K δ R ta (.d (.str a))) (h2 : Ev K δ R tb d) (hl : Ls R d (ys.map .str)) (hz : (ys.map (·.length)).sum + ys.length * a.length ≤ 16777216) : Ev K δ R (tM1 (rJoin K) ta tb) (.d (.str (Txt.join a ys))) := fun G H σ Q ok en k =>
  h1 G H σ _ ok en fun v G1 H1 ok1 l1 q1 => by
    cases (show Hv G1 v (.str a) from q1)
    refine ⟨⟨a, rfl⟩, h2 G1 H1 σ _ ok1 (en.mono l1.g) fun u G2 H2 ok2 l2 q2 => ?_⟩
    obtain ⟨p, vs, rfl, ea, la, hv⟩ := hl.hv ok2 q2
    have e := hv.strs
    subst e
    exact ⟨a, p, ys, rfl, rfl, .inl (SqL.of ea), hz, k _ G2 H2 ok2 (l1.trans l2) (show Hv G2 _ _ from .str _)⟩
/-! ### list(range(a, b)) -/
theorem evf_listRg1 {n : Int} (h : Ev K δ R ta (.d (.int n))) (hn : 0 ≤ n ∧ n ≤ 50000) : EvF K δ R (tLstRg (tRg1 ta)) (rngD 0 n.toNat) := fun G H σ Q ok en k => h G H σ _ ok en fun v G1 H1 ok1 l1 q1 => by
  cases (show Hv G1 v (.int n) from q1)
  refine ⟨n, rfl, ⟨by omega, by omega, by omega, by omega, by omega⟩, fun p hp => ?_⟩
  have e1 : rgV 0 n = (List.range n.toNat).map fun i => V.int (0 + (i : Nat)) := by unfold rgV; rw [Int.sub_zero]
  have hv : Hvs G1 (rgV 0 n) (rngD 0 n.toNat) := by
    rw [e1]
    unfold rngD
    generalize List.range n.toNat = l
    induction l with
    | nil => exact .nil
    | cons a l ih => exact .cons (.int _) ih
  obtain ⟨ok', le⟩ := ok1.laid (o := .lst (rgV 0 n)) (q := .lst (rngD 0 n.toNat)) hp ⟨_, upd_same, by rw [hv.len, rngD_len]; omega, hv⟩
  exact k p _ _ ok' (l1.trans le)
theorem evf_listRg2 {a n : Int} (h1 : Ev K δ R ta (.d (.int a))) (h2 : Ev K δ R tb (.d (.int n))) (hn : -50000 ≤ a ∧ a ≤ n + 1 ∧ n ≤ 50000 ∧ n - a ≤ 50000) : EvF K δ R (tLstRg (tRg2 ta tb)) (rngD a (n - a).toNat) := fun G H σ Q ok en k =>
  h1 G H σ _ ok en fun v G1 H1 ok1 l1 q1 => h2 G1 H1 σ _ ok1 (en.mono l1.g) fun w G2 H2 ok2 l2 q2 => by
    cases (show Hv G1 v (.int a) from q1)
    cases (show Hv G2 w (.int n) from q2)
    refine ⟨a, n, rfl, rfl, ⟨by omega, by omega, by omega, by omega, by omega⟩, fun p hp => ?_⟩
    have hv : Hvs G2 (rgV a n) (rngD a (n - a).toNat) := by
      unfold rgV rngD
      generalize List.range (n - a).toNat = l
      induction l with
      | nil => exact .nil
      | cons b l ih => exact .cons (.int _) ih
    obtain ⟨ok', le⟩ := ok2.laid (o := .lst (rgV a n)) (q := .lst (rngD a (n - a).toNat)) hp ⟨_, upd_same, by rw [hv.len, rngD_len]; omega, hv⟩
    exact k p _ _ ok' ((l1.trans l2).trans le)
/-! ### calls by form -/
section
variable {tA : TA} {ds : List D} {Φ : Fn} {E : XK} {S : L2.St → XK} {N : D → Res → Prop} {M : Value → Res → Prop}
/-- the callee owns nothing ahead -/
theorem ee_callP (ha : EvA K δ R tA ds) (hp : Φ ds [] (fun d R' => N d (R' ++ R)) (fun c R' => M c (R' ++ R))) (hE : ∀ c R' σ H', M c R' → Ek c none σ H' → S σ c none H') : EvE K Ek δ R (tCallS (spD K Φ) S tA) N M := ee_call (A := []) (R1 := []) (B := R) ha hp hE
theorem ev_callP (ha : EvA K δ R tA ds) (hp : Φ ds [] (fun d' R' => d' = d ∧ R' ++ R = R) (fun _ _ => False)) : Ev K δ R (tCallS (spD K Φ) S tA) d :=
  ev_ee (ee_callP (N := fun d' R' => d' = d ∧ R' = R) (M := fun _ _ => False) ha hp (fun _ _ _ _ m => m.elim))
theorem evf_ee {es : List PyData} (h : EvE K (fun _ _ _ _ => False) δ R te (fun d' R' => ∃ a, d' = .r a ∧ R' = (a, .lst es) :: R) fun _ _ => False) : EvF K δ R te es := fun G H σ Q ok en k => h G H σ Q ok en (fun d' R' v G' H' q ok' le hv => by
  obtain ⟨a, rfl, rfl⟩ := q
  cases (show v = .ref a from hv)
  exact k a G' H' ok' le) fun c R' G' H' q => q.elim
theorem evf_callP {es : List PyData} (ha : EvA K δ R tA ds) (hp : Φ ds [] (fun d' R' => ∃ a, d' = .r a ∧ R' ++ R = (a, .lst es) :: R) (fun _ _ => False)) : EvF K δ R (tCallS (spD K Φ) S tA) es :=
  evf_ee (ee_callP (N := fun d' R' => ∃ a, d' = .r a ∧ R' = (a, .lst es) :: R) (M := fun _ _ => False) ha hp (fun _ _ _ _ m => m.elim))
/-- the callee owns a part: the first, the last, all -/
theorem ee_call1 (ha : EvA K δ (R1 ++ B) tA ds) (hp : Φ ds R1 (fun d R' => N d (R' ++ B)) (fun c R' => M c (R' ++ B))) (hE : ∀ c R' σ H', M c R' → Ek c none σ H' → S σ c none H') : EvE K Ek δ (R1 ++ B) (tCallS (spD K Φ) S tA) N M := ee_call (A := []) ha hp hE
theorem ee_call2 (ha : EvA K δ (A ++ R1) tA ds) (hp : Φ ds R1 (fun d R' => N d (A ++ R')) (fun c R' => M c (A ++ R'))) (hE : ∀ c R' σ H', M c R' → Ek c none σ H' → S σ c none H') : EvE K Ek δ (A ++ R1) (tCallS (spD K Φ) S tA) N M := by
  have e : ∀ X : Res, A ++ X = A ++ X ++ [] := fun X => (List.append_nil _).symm
  have hp' : Φ ds R1 (fun d R' => N d (A ++ R' ++ [])) (fun c R' => M c (A ++ R' ++ [])) := by
    simp only [List.append_nil]
    exact hp
  rw [e R1] at ha ⊢
  exact ee_call ha hp' hE
theorem ee_call3 (ha : EvA K δ R tA ds) (hp : Φ ds R N M) (hE : ∀ c R' σ H', M c R' → Ek c none σ H' → S σ c none H') : EvE K Ek δ R (tCallS (spD K Φ) S tA) N M := ee_call2 (A := []) ha hp hE
variable {C p : Addr} {m : Str} {i : Nat} {fs : List (Str × D)}
theorem ee_meth1 (h1 : Ev K δ (R1 ++ B) ta (.r p)) (hi : (R1 ++ B)[i]? = some (p, .ins C fs)) (hl : fs.lookup m = none) (ha : EvA K δ (R1 ++ B) tA ds) (hp : Φ (.r p :: ds) R1 (fun d R' => N d (R' ++ B)) (fun c R' => M c (R' ++ B))) (hE : ∀ c R' σ H', M c R' → Ek c none σ H' → S σ c none H') :
    EvE K Ek δ (R1 ++ B) (tMethS' C m (spD K Φ) S ta tA) N M := ee_meth (A := []) h1 hi hl ha hp hE
theorem ee_meth2 (h1 : Ev K δ (A ++ R1) ta (.r p)) (hi : (A ++ R1)[i]? = some (p, .ins C fs)) (hl : fs.lookup m = none) (ha : EvA K δ (A ++ R1) tA ds) (hp : Φ (.r p :: ds) R1 (fun d R' => N d (A ++ R')) (fun c R' => M c (A ++ R'))) (hE : ∀ c R' σ H', M c R' → Ek c none σ H' → S σ c none H') :
    EvE K Ek δ (A ++ R1) (tMethS' C m (spD K Φ) S ta tA) N M := by
  have e : ∀ X : Res, A ++ X = A ++ X ++ [] := fun X => (List.append_nil _).symm
  have hp' : Φ (.r p :: ds) R1 (fun d R' => N d (A ++ R' ++ [])) (fun c R' => M c (A ++ R' ++ [])) := by
    simp only [List.append_nil]
    exact hp
  rw [e R1] at h1 hi ha ⊢
  exact ee_meth h1 hi hl ha hp' hE
theorem ee_meth3 (h1 : Ev K δ R ta (.r p)) (hi : R[i]? = some (p, .ins C fs)) (hl : fs.lookup m = none) (ha : EvA K δ R tA ds) (hp : Φ (.r p :: ds) R N M) (hE : ∀ c R' σ H', M c R' → Ek c none σ H' → S σ c none H') :
    EvE K Ek δ R (tMethS' C m (spD K Φ) S ta tA) N M := ee_meth2 (A := []) h1 hi hl ha hp hE
end
/-! ### raise, try -/
def tRz (W : WX) (c : Value) : TS := fun _ σ H => W c none σ H
theorem x_raise {c : Value} (h : P.xe c δ R) : XS K Ek δ R (tRz Ek c) P := fun G H σ D ok en k => k.xe c δ R σ G H h ok .refl en
/-- try: body, except c1: s1, except c2: s2, .. -/
def tTry (K : PySem.W.Frag) (Wout : WX) (l : List (Value × (Addr → Value → Option Addr → TS))) (tb : WX → TS) : TS := fun D σ H => tb (wMany K Wout D l) D σ H
/-- how a raised c is met -/
def Met (K : PySem.W.Frag) (Ek : WX) (c : Value) (δ : DEnv) (R : Res) (P : Post) : List (Value × (Addr → Value → Option Addr → TS)) → Prop
  | [] => P.xe c δ R
  | (n, ts) :: r => ∃ b, PySem.W.exmOne K c n = some b ∧ (b = true → ∀ a, XS K Ek δ R (ts a c none) P) ∧ (b = false → Met K Ek c δ R P r)
theorem met_ok {D : Ends} {σ : L2.St} {c : Value} : ∀ {l : List (Value × (Addr → Value → Option Addr → TS))}, Met K Ek c δ R P l → Ok K G H R → DE K G σ δ → Cn K Ek P D G H R → wMany K Ek D l c none σ H
  | [], h, ok, en, k => k.xe c δ R σ G H h ok .refl en
  | (n, ts) :: r, ⟨b, h1, h2, h3⟩, ok, en, k => ⟨b, h1, fun e a _ => h2 e a G H σ D ok en k, fun e => met_ok (h3 e) ok en k⟩
theorem x_try {l : List (Value × (Addr → Value → Option Addr → TS))} {tb : WX → TS} (h : ∀ W, XS K W δ R (tb W) { P with xe := fun c δ' R' => Met K Ek c δ' R' P l }) : XS K Ek δ R (tTry K Ek l tb) P := fun G H σ D ok en k =>
  h _ G H σ D ok en ⟨k.nx, k.rt, k.bk, k.ct, fun c δ' R' σ' G' H' m ok' le en' => met_ok m ok' en' (k.mono le)⟩
/-- try: body, except n as x: suite; x stands in slot i -/
def tTryAs (K : PySem.W.Frag) (c : Value) (i : Nat) (ts : Addr → Value → Option Addr → TS) (Wout : WX) (tb : WX → TS) : TS := fun D σ H => tb (wAs K c i ts Wout D) D σ H
theorem x_tryAs {c : Value} {i : Nat} {ts : Addr → Value → Option Addr → TS} {tb : WX → TS} {Hx : Value → DEnv → Res → Prop} (h : ∀ W, XS K W δ R (tb W) { P with xe := Hx })
    (hh : ∀ e δ' R', Hx e δ' R' → ∃ b, PySem.W.exmOne K e c = some b ∧ (b = true → ∀ a, XS K Ek (δ'.set i (some (.r a))) R' (ts a e none) { P with nx := fun δ2 R2 => P.nx (δ2.set i none) R2, bk := fun δ2 R2 => P.bk (δ2.set i none) R2, ct := fun δ2 R2 => P.ct (δ2.set i none) R2 }) ∧ (b = false → P.xe e δ' R')) :
    XS K Ek δ R (tTryAs K c i ts Ek tb) P := fun G H σ D ok en k =>
  h _ G H σ D ok en ⟨k.nx, k.rt, k.bk, k.ct, fun e δ' R' σ' G' H' m ok' le en' => by
    obtain ⟨b, h1, h2, h3⟩ := hh e δ' R' m
    refine ⟨b, h1, fun q a _ => ?_, fun q => k.xe e δ' R' σ' G' H' (h3 q) ok' le en'⟩
    refine h2 q a G' H' _ _ ok' (en'.set (d := .r a) rfl) ⟨fun δ2 R2 σ2 G2 H2 p o l w => (k.mono le).nx _ R2 _ G2 H2 p o l w.unset, (k.mono le).rt, fun δ2 R2 σ2 G2 H2 p o l w => (k.mono le).bk _ R2 _ G2 H2 p o l w.unset, fun δ2 R2 σ2 G2 H2 p o l w => (k.mono le).ct _ R2 _ G2 H2 p o l w.unset, (k.mono le).xe⟩⟩
/-- isinstance(e, c), e the error that a suite holds -/
theorem ev_isE {Dd a : Addr} {c : V} {cv : Value} {b : Bool} (h : Ev K δ R ta (.r a)) (hc : ∀ u, RelV c u → u = cv) (hk : PySem.W.kitOne K (.ref Dd) cv = some b) : Ev K δ R (tCB (rIsE K Dd a) (tCons ta (tCons (tC c) tNil))) (.d (.bool b)) := fun G H σ Q ok en k => h G H σ _ ok en fun v G1 H1 ok1 l1 q1 => by
  cases (show v = .ref a from q1)
  exact ⟨c, cv, b, rfl, hc, hk, k _ G1 H1 ok1 l1 (show Hv G1 _ _ from .bl _)⟩
end
section
variable {X : Cx} {D : Ends}
theorem ps_rz {W : WX} {C : Addr} {e : Expr} {pos : Pos} (hc : X.calm = true) (tk : Takes X W) (he : PMk X e (fun _ H Q => Q (.ref C) none H)) : PS X (.Raise (some e) none pos) (tRz W (.ref C)) := ps_raise hc tk he
theorem ps_try' {body : List Stmt} {h₀ : ExceptHandler} {hds : List ExceptHandler} {l : List (Value × (Addr → Value → Option Addr → TS))} {pos : Pos} {tb : WX → TS} {Wout : WX} (hs : X.stack = X.env :: X.outer) (hf : X.env.frame = some X.env.locals) (tk : Takes X Wout)
    (hb : ∀ (W : WX) (pn : List (Addr × Obj)) (xe : Value → Shared → Prop), Takes (X.tr pn xe) W → PassesOwn (model X.prog X.w) X.A X.env xe → PSs (X.tr pn xe) body (tb W))
    (hh : HdsOk X (h₀ :: hds) l) : PS X (.Try body (h₀ :: hds) [] [] pos) (tTry X.K Wout l tb) := ps_try_many hs hf tk hb hh
end
end Fl
/-! Calls of what the text defines: defs, methods, classes, in each surrounding. -/
namespace Fl
open PySem PySem.Spec PyProof.Rows L2
section
variable (P : Program) (w : World) (K : PySem.W.Frag) (mg : Str → Option Value) (base : Heap)
structure Cl (k : Nat) (x : Str) (ps : List Str) (sp : Sp) : Prop where
  ex : ∃ (f : Addr) (fd : FuncData), FnOk P w K mg base (L2.CX P w) k f fd ps sp ∧ mg x = some (.ref f) ∧ PySem.W.keepIn K (.ref f) = true ∧ Binds K fd ps []
structure Mt (k : Nat) (C : Addr) (m : Str) (ps : List Str) (sp : Sp) : Prop where
  ex : ∃ (f : Addr) (fd : FuncData), FnOk P w K mg base (L2.CX P w) k f fd ps sp ∧ Cls K C ∧ Meth K C m f ∧ Binds K fd ps []
structure Mc (k : Nat) (x : Str) (C : Addr) (ps : List Str) (sp : Sp) : Prop where
  ex : ∃ (f : Addr) (fd : FuncData), FnOk P w K mg base (L2.CX P w) k f fd ps sp ∧ Mk K C f ∧ mg x = some (.ref C) ∧ Binds K fd ps []
end
/-- what a callee may let out is taken at the caller's slots -/
def Pas (X : Cx) (S : L2.St → XK) : Prop := ∀ σ, PassesAt (L2.CX X.prog X.w) X σ (S σ)
theorem pasN {X : Cx} : Pas X (fun _ => E0) := fun σ pins H s e s' I c => passL pins σ H s e s' I c
theorem pasX {X : Cx} {E : XK} (tk : Takes X (fun cls d _ H => E cls d H)) : Pas X (fun _ => E) := fun σ => passAt (W := fun cls d _ H => E cls d H) tk σ
theorem pasT {X : Cx} {W : WX} (tk : Takes X W) : Pas X (WE W) := fun σ => passAt tk σ
section
variable {X : Cx} {k j : Nat} {C : Addr} {x m : Str} {ps : List Str} {sp : Sp} {S : L2.St → XK} {p pos apos : Pos} {e o : Expr} {es : List Expr} {ta : TE} {t : TA}
theorem pe_cl (c : Cl X.prog X.w X.K X.mg X.base k x ps sp) (hr : Room j X.A) (hk : k ≤ j) (hg : Gl X x) (hx : Pas X S) (ha : PA X (e :: es) t)
    (hdb : (x == ("__debug__" : Str)) = false := by decide) (he : starEach (e :: es) X.env = (false, eval e X.env) :: starEach es X.env := by rfl) (hpl : (backTo pos (starEach es X.env)).any (·.1) = false := by rfl) :
    PE X (.Call (.Name x p) (e :: es) [] pos) (tCallS sp S t) := by
  obtain ⟨f, fd, F, hm, kp, b⟩ := c.ex
  exact pe_callS F (hr.mono hk) hg hm kp b hx ha hdb he hpl
theorem pe_mtS {pl : Sem Bool} (c : Mt X.prog X.w X.K X.mg X.base k C m ps sp) (hr : Room j X.A) (hk : k ≤ j) (hx : Pas X S) (ho : PE X o ta) (ha : PA X (e :: es) t)
    (hst : starEach (e :: es) X.env = (false, eval e X.env) :: starEach es X.env := by rfl) (hpl : (backTo pos (starEach es X.env)).any (·.1) = false := by rfl)
    (ht : eval (.Call (.Attribute o m apos) (e :: es) [] pos) X.env = (do
      let ov ← eval o X.env
      standAt apos.atName
      let (f, first) ← holding [ov] (getMethod ov m pl)
      callWith pos f first (backTo pos (starEach (e :: es) X.env)) (backToKw pos (keywordEach [] X.env))) := by rfl) :
    PE X (.Call (.Attribute o m apos) (e :: es) [] pos) (tMethS' C m sp S ta t) := by
  obtain ⟨f, fd, F, hc, hm, b⟩ := c.ex
  refine ⟨fun pins s σ H Q I h => ?_⟩
  refine PySem.W.methodCall_KW (pl := pl) (thn (ho.run pins s σ H _ I h) fun u s1 ⟨x, H1, I1, rx, a, dx, fs, ex, ea, l, q⟩ => ?_) ht
  subst ex
  obtain rfl : u = Value.ref a := rx
  refine getmeth_ok I1 ea hc hm l ?_
  refine PySem.W.callWith_K (first := [.ref a]) (h₀ := X.base) I.ok.mod.kin hm.kp (thn (ha.run pos pins s1 σ H1 _ I1 q) fun us s2 ⟨vs, H2, I2, r, q2⟩ => ⟨I2.kIn, ?_⟩) hst hpl
  exact run_fnS (us := .ref a :: us) (vs := .ref a :: vs) F (hr.mono hk) b (hx σ) I2 (.cons rfl r) q2
theorem pe_mtS0 {pl : Sem Bool} (c : Mt X.prog X.w X.K X.mg X.base k C m ps sp) (hr : Room j X.A) (hk : k ≤ j) (hx : Pas X S) (ho : PE X o ta)
    (ht : eval (.Call (.Attribute o m apos) [] [] pos) X.env = (do
      let ov ← eval o X.env
      standAt apos.atName
      let (f, first) ← holding [ov] (getMethod ov m pl)
      callWith pos f first (backTo pos (starEach [] X.env)) (backToKw pos (keywordEach [] X.env))) := by rfl) :
    PE X (.Call (.Attribute o m apos) [] [] pos) (tMethS' C m sp S ta tNil) := by
  obtain ⟨f, fd, F, hc, hm, b⟩ := c.ex
  refine ⟨fun pins s σ H Q I h => ?_⟩
  refine PySem.W.methodCall_KW (pl := pl) (thn (ho.run pins s σ H _ I h) fun u s1 ⟨x, H1, I1, rx, a, dx, fs, ex, ea, l, q⟩ => ?_) ht
  subst ex
  obtain rfl : u = Value.ref a := rx
  refine getmeth_ok I1 ea hc hm l ?_
  exact PySem.W.callWith_K0 (first := [.ref a]) I1.kIn hm.kp (run_fnS (us := [.ref a]) (vs := [.ref a]) F (hr.mono hk) b (hx σ) I1 (.cons rfl .nil) q)
theorem pe_mkS (c : Mc X.prog X.w X.K X.mg X.base k x C ps sp) (hr : Room j X.A) (hk : k + 1 ≤ j) (hg : Gl X x) (hx : Pas X S) (ha : PA X (e :: es) t)
    (hdb : (x == ("__debug__" : Str)) = false := by decide) (he : starEach (e :: es) X.env = (false, eval e X.env) :: starEach es X.env := by rfl) (hpl : (backTo pos (starEach es X.env)).any (·.1) = false := by rfl) :
    PE X (.Call (.Name x p) (e :: es) [] pos) (tMakeS C sp S t) := by
  obtain ⟨f, fd, F, M, hm, b⟩ := c.ex
  refine ⟨fun pins s σ H Q I h => ?_⟩
  refine wpAny_Call_Name_kw (ld_glob I hg hm ?_ hdb)
  refine PySem.W.callWith_K (h₀ := X.base) I.ok.mod.kin M.kp (thn (ha.run pos pins s σ H _ I h) fun us s1 ⟨vs, H1, I1, r, q⟩ => ⟨I1.kIn, ?_⟩) he hpl
  refine thn (Q := EP X pins σ fun v H2 => Q v H2) ?_ fun _ _ z => z
  have hq := q (s1.heap.objs.size + 1) s1.heap.objs.size (I1.hok.fresh (Nat.le_succ _)) (I1.hok.fresh (Nat.le_refl _)) (Nat.ne_of_lt (Nat.lt_succ_self _))
  have I2 := Inv.made (C := C) I1
  have r2 : Vals (V.ref (s1.heap.objs.size + 1) :: vs) (Value.ref (s1.heap.objs.size + 1) :: us) := .cons rfl r
  have hl : (Value.ref (s1.heap.objs.size + 1) :: us).length = ps.length := by
    have e := r2.length
    rw [F.len _ _ _ _ hq] at e
    exact e.symm
  have bb := b _ (Value.ref (s1.heap.objs.size + 1) :: us) I2.kIn (by rw [List.append_nil]; exact hl)
  rw [List.append_nil] at bb
  refine wpAny_call (make_map (f := f) I1.kIn M.makes M.init (beq_iff_eq.mp M.fn) (codeAny_mono (F.run _ X.stack _ _ ⟨Value.ref (s1.heap.objs.size + 1) :: us, []⟩ (Value.ref (s1.heap.objs.size + 1) :: us) _ _ (S σ) ((hr.mono hk).make C us [])
    (I2.env0.make C us []) bb r2 hq) fun r s' hq' => ?_))
  cases r with
  | error e => exact hx σ pins _ _ e s' I2 hq'
  | ok fl =>
    cases fl with
    | ret u =>
      obtain ⟨v, H', I3, rv, ev, q3⟩ := I2.after hq'
      subst ev
      exact ⟨rv, ⟨V.ref (s1.heap.objs.size + 1), H', I3, rfl, q3⟩⟩
    | next => exact False.elim hq'
    | brk => exact False.elim hq'
    | cont => exact False.elim hq'
end
theorem op_isN' {X : Cx} : OpR X (compareOp .Is) rIsN := op_isN
theorem op_notN' {X : Cx} : OpR X (compareOp .IsNot) rNotN := op_notN
theorem m1_of {X : Cx} {o : Expr} {m : Str} {apos cpos : Pos} {e : Expr} (h1 : attributeBase o m X.env (eval o X.env) = eval o X.env := by rfl)
    (h2 : ((backTo cpos (starEach [e] X.env)).all (fun x => !x.1) && (backToKw cpos (keywordEach [] X.env)).all (fun x => x.1.isSome) && decide (([e] : List Expr).length + ([] : List Keyword).length + (if ([] : List Keyword).isEmpty then 0 else 1) < 30)) = true := by rfl)
    (h3 : (apos.endLine == cpos.line) = true := by rfl) (h4 : backTo cpos (starEach [e] X.env) = [(false, eval e X.env)] := by rfl) : M1 X o m apos e cpos := ⟨h1, h2, h3, h4⟩
/-- a def holds its promise: a reading of its body, and what that reaches -/
theorem cl_of {P : Program} {w : World} {K : PySem.W.Frag} {mg : Str → Option Value} {base : Heap} {x qual : Str} {st : Stmt} {f : Addr} {fd : FuncData} {N ps : List Str} {k : Nat} {Φ : Fn} (t : XK → TS) (F : Fun K x qual st f fd) (S : FnScope N ps (defScope st))
    (len : ∀ ds R N' M', Φ ds R N' M' → ds.length = ps.length)
    (sem : ∀ (E : XK) (ds : List D) (R : Res) (N' : D → Res → Prop) (M' : Value → Res → Prop), Φ ds R N' M' → XS K (fun c d _ H => E c d H) (startD N ds) R (t E) (endsOf N' M'))
    (der : ∀ (cdv : Value) (A : Around) (outer : List Env) (s : Shared) (H : Hp) (E : XK), Room k (A.deeper (envOfC qual (defScope st) s.heap.objs.size f cdv)) → PSs (cxOf (L2.CX P w) P w K mg base N qual (defScope st) f cdv A outer s H E) (defBody st) (t E)) :
    FnOk P w K mg base (L2.CX P w) (k + 1) f fd ps (spD K Φ) :=
  F.okX S (fun vs H Q E h => sp_len len h) fun cdv A outer s H vs Q E hr h => ⟨t E, der cdv A outer s H E hr, fn_sem (t := t) sem h⟩
end Fl
/-! Forms for lists that are told by a map; the addresses of the classes. -/
namespace Fl
open PySem PySem.Spec PyProof.Rows L2
/-- where the text's classes stand -/
structure Ad where
  C : Addr
  bf : Addr
  ng : Addr
  nf : Addr
  nb : Addr
  ns : Addr
  sh : Addr
  oc : Addr
  bt : Addr
  le : Addr
def cutL {α : Type} (xs : List α) (lo hi : Option Int) : List α := (xs.drop (HT.sIx xs.length 0 lo)).take (HT.sIx xs.length xs.length hi - HT.sIx xs.length 0 lo)
theorem cutD_map {α : Type} (f : α → PyData) (xs : List α) (lo hi : Option Int) : cutD (xs.map f) lo hi = (cutL xs lo hi).map f := by
  unfold cutD cutL
  rw [List.length_map, List.map_take, List.map_drop]
theorem cutL_from {α : Type} (xs : List α) (n : Nat) : cutL xs (some (n : Int)) none = xs.drop n := by
  unfold cutL
  have e1 : HT.sIx xs.length 0 (some (n : Int)) = min n xs.length := by
    show (if (n : Int) < 0 then ((n : Int) + xs.length).toNat else min (n : Int).toNat xs.length) = _
    rw [if_neg (by omega)]
    simp
  have e2 : HT.sIx xs.length xs.length none = xs.length := rfl
  rw [e1, e2]
  by_cases h : n ≤ xs.length
  · rw [Nat.min_eq_left h]
    rw [List.take_of_length_le (by rw [List.length_drop]; omega)]
  · rw [Nat.min_eq_right (by omega), List.drop_of_length_le (Nat.le_refl _), List.drop_of_length_le (by omega)]
    simp
theorem cutL_upto {α : Type} (xs : List α) (n : Nat) : cutL xs none (some (n : Int)) = xs.take n := by
  unfold cutL
  have e1 : HT.sIx xs.length xs.length (some (n : Int)) = min n xs.length := by
    show (if (n : Int) < 0 then ((n : Int) + xs.length).toNat else min (n : Int).toNat xs.length) = _
    rw [if_neg (by omega)]
    simp
  have e2 : HT.sIx xs.length 0 none = 0 := rfl
  rw [e1, e2, List.drop_zero, Nat.sub_zero]
  by_cases h : n ≤ xs.length
  · rw [Nat.min_eq_left h]
  · rw [Nat.min_eq_right (by omega), List.take_of_length_le (Nat.le_refl _), List.take_of_length_le (by omega)]
theorem cutL_mid {α : Type} (xs : List α) (m n : Nat) : cutL xs (some (m : Int)) (some (n : Int)) = (xs.drop m).take (n - m) := by
  unfold cutL
  have e1 : ∀ k d : Nat, HT.sIx xs.length d (some (k : Int)) = min k xs.length := fun k d => by
    show (if (k : Int) < 0 then ((k : Int) + xs.length).toNat else min (k : Int).toNat xs.length) = _
    rw [if_neg (by omega)]
    simp
  rw [e1, e1]
  by_cases h : m ≤ xs.length
  · rw [Nat.min_eq_left h]
    apply List.ext_getElem?
    intro i
    rw [List.getElem?_take, List.getElem?_take, List.getElem?_drop]
    by_cases h1 : i < n - m
    · rw [if_pos h1]
      by_cases h2 : i < min n xs.length - m
      · rw [if_pos h2]
      · rw [if_neg h2, List.getElem?_eq_none (by omega)]
    · rw [if_neg h1, if_neg (by omega)]
  · have e2 : min m xs.length = xs.length := by omega
    rw [e2, List.drop_of_length_le (Nat.le_refl _), List.drop_of_length_le (by omega)]
    simp
section
variable {K : PySem.W.Frag} {Ek : WX} {R : Res} {δ : DEnv} {ta tb te tl : TE} {d x y z : D} {α : Type}
theorem evf_slM {tl th : TO} {lo hi : Option Int} {f : α → PyData} {xs : List α} (h : Ev K δ R te d) (h1 : EvO K δ R tl lo) (h2 : EvO K δ R th hi) (hl : Ls R d (xs.map f)) : EvF K δ R (tSl (rSlL K) te tl th) ((cutL xs lo hi).map f) := evf_is (evf_sl h h1 h2 hl) (cutD_map f xs lo hi)
theorem ei_rng1M {n : Int} (h : Ev K δ R ta (.d (.int n))) (hn : 0 ≤ n ∧ n ≤ 50000) : EvI K δ R (iRng1 (tCons ta tNil)) ((List.range n.toNat).map fun (i : Nat) => .int (i : Int)) := ei_is (ei_rng1 h hn) (by unfold rngD; simp)
theorem ei_rng2M {a n : Int} (h1 : Ev K δ R ta (.d (.int a))) (h2 : Ev K δ R tb (.d (.int n))) (hn : -50000 ≤ a ∧ a ≤ n + 1 ∧ n ≤ 50000 ∧ n - a ≤ 50000) : EvI K δ R (iRng2 (tCons ta (tCons tb tNil))) ((List.range (n - a).toNat).map fun (i : Nat) => .int (a + (i : Int))) := ei_rng2 h1 h2 hn
theorem rvf_plusM {f : α → PyData} {xs ys : List α} (hx : Ls R x (xs.map f)) (hy : Ls R y (ys.map f)) (hl : xs.length + ys.length ≤ 50000) : RVF K R rPlus x y ((xs ++ ys).map f) := by
  rw [List.map_append]
  exact rvf_plus hx hy (by rw [List.length_map, List.length_map]; exact hl)
theorem atI_some {xs : List α} {i : Nat} {v : α} (h : xs[i]? = some v) : atI xs (i : Int) = some v := atI_nat h
theorem atI_back {xs : List α} {v : α} (h : xs.getLast? = some v) : atI xs (-1) = some v := by
  have hne : xs ≠ [] := by intro e; subst e; cases h
  have e : xs = xs.dropLast ++ [v] := by
    rw [List.getLast?_eq_some_getLast hne] at h
    rw [← Option.some.inj h]
    exact (List.dropLast_concat_getLast hne).symm
  rw [e]
  exact atI_last _ _
theorem rv_ixLM {f : α → PyData} {xs : List α} {i : Int} {e : α} (h : Ls R x (xs.map f)) (ha : atI xs i = some e) : RV K R (rIx K) x (.d (.int i)) (.d (f e)) := rv_ixL h (atI_map ha)
end
/-! ### == of data told by a map -/
theorem eqv_ints : ∀ (a b : List Int), PyData.eqvAll (a.map .int) (b.map .int) = decide (a = b)
  | [], [] => rfl
  | [], _ :: _ => rfl
  | _ :: _, [] => rfl
  | x :: a, y :: b => by
    show (PyData.eqv (.int x) (.int y) && PyData.eqvAll (a.map .int) (b.map .int)) = _
    rw [eqv_ints a b]
    show ((x == y) && decide (a = b)) = decide (x :: a = y :: b)
    rw [Bool.eq_iff_iff]
    simp
theorem eqv_bools : ∀ (a b : List Bool), PyData.eqvAll (a.map .bool) (b.map .bool) = decide (a = b)
  | [], [] => rfl
  | [], _ :: _ => rfl
  | _ :: _, [] => rfl
  | x :: a, y :: b => by
    show (PyData.eqv (.bool x) (.bool y) && PyData.eqvAll (a.map .bool) (b.map .bool)) = _
    rw [eqv_bools a b]
    show ((x == y) && decide (a = b)) = decide (x :: a = y :: b)
    rw [Bool.eq_iff_iff]
    simp
theorem eqv_strs : ∀ (a b : List Str), PyData.eqvAll (a.map .str) (b.map .str) = decide (a = b)
  | [], [] => rfl
  | [], _ :: _ => rfl
  | _ :: _, [] => rfl
  | x :: a, y :: b => by
    show (PyData.eqv (.str x) (.str y) && PyData.eqvAll (a.map .str) (b.map .str)) = _
    rw [eqv_strs a b]
    show ((x == y) && decide (a = b)) = decide (x :: a = y :: b)
    rw [Bool.eq_iff_iff]
    simp
mutual
theorem eqv_self : ∀ d : PyData, d.plain = true → PyData.eqv d d = true := fun d h => SeqAt.eqv_refl_plain d h
end
/-! ### sides -/
def sds (u : Bool) : Str := if u then "up" else "down"
def sd (u : Bool) : PyData := .str (sds u)
theorem sds_inj {a b : Bool} (h : sds a = sds b) : a = b := by
  revert h
  cases a <;> cases b <;> decide
theorem sds_up (u : Bool) : (sds u == ("up" : Str)) = u := by cases u <;> decide
theorem sds_down (u : Bool) : (sds u == ("down" : Str)) = !u := by cases u <;> decide
theorem eqv_up (u : Bool) : PyData.eqv (sd u) (.str "up") = u := sds_up u
theorem eqv_down (u : Bool) : PyData.eqv (sd u) (.str "down") = !u := sds_down u
theorem eqv_sd (a b : Bool) : PyData.eqv (sd a) (sd b) = (a == b) := by
  show (sds a == sds b) = _
  revert a b
  decide
theorem eqv_sds (a b : List Bool) : PyData.eqvAll (a.map sd) (b.map sd) = decide (a = b) := by
  have e : ∀ l : List Bool, l.map sd = (l.map sds).map PyData.str := fun l => by rw [List.map_map]; rfl
  rw [e, e, eqv_strs, Bool.eq_iff_iff]
  simp only [decide_eq_true_eq]
  constructor
  · intro h
    exact (List.map_inj_right (fun x y => sds_inj)).mp h
  · intro h; rw [h]
/-! ### depth -/
theorem dep_all {α : Type} {f : α → PyData} {n : Nat} : ∀ (xs : List α), (∀ x, (f x).depth ≤ n) → PyData.depthAll (xs.map f) ≤ n
  | [], _ => Nat.zero_le _
  | x :: xs, h => by
    show max (f x).depth (PyData.depthAll (xs.map f)) ≤ n
    exact Nat.max_le.mpr ⟨h x, dep_all xs h⟩
theorem dep_l {a b : PyData} (h : a.depth ≤ 60) : min a.depth b.depth ≤ 64 := by omega
theorem dep_r {a b : PyData} (h : b.depth ≤ 60) : min a.depth b.depth ≤ 64 := by omega
theorem dep_map {α : Type} {f : α → PyData} {xs : List α} (h : ∀ x, (f x).depth ≤ 10) : (PyData.list (xs.map f)).depth ≤ 60 := by
  show PyData.depthAll (xs.map f) + 1 ≤ 60
  have := dep_all xs h
  omega
end Fl
namespace Fl
open PySem PySem.Spec PyProof.Rows L2
section
variable {K : PySem.W.Frag} {Ek : WX} {R : Res} {δ : DEnv} {te : TE} {d d' : D} {t u : TS} {P : Post} {tt : TT}
/-! ### forms that leave an equation -/
theorem x_retI (h : Ev K δ R te d') (e : d' = d) (n : P.rt d R) : XS K Ek δ R (tRet te) P := x_ret (ev_is h e) n
theorem x_asgI {i : Nat} (h : Ev K δ R te d') (e : d' = d) (n : P.nx (δ.set i (some d)) R) : XS K Ek δ R (tAsg te (gName i)) P := x_asg (ev_is h e) n
theorem x_ifI {b b' : Bool} (h : EvT K δ R tt b') (e : b' = b) (h1 : b = true → XS K Ek δ R t P) (h2 : b = false → XS K Ek δ R u P) : XS K Ek δ R (tIfS tt t u) P := x_if (et_is h e) h1 h2
theorem x_retFI {ds es : List PyData} (h : EvF K δ R te es) (e : es = ds) (n : ∀ a, P.rt (.r a) ((a, .lst ds) :: R)) : XS K Ek δ R (tRet te) P := x_retF (evf_is h e) n
theorem x_asgFI {i : Nat} {ds es : List PyData} (h : EvF K δ R te es) (e : es = ds) (n : ∀ a, P.nx (δ.set i (some (.r a))) ((a, .lst ds) :: R)) : XS K Ek δ R (tAsg te (gName i)) P := x_asgF (evf_is h e) n
/-- a loop over a list of α -/
theorem x_forI {α : Type} {wi : TI} {g : TG} {xs : List α} {enc : α → PyData} (I : Nat → DEnv → Res → Prop) (h : EvI K δ R wi (xs.map enc)) (h0 : I 0 δ R)
    (hs : ∀ (i : Nat) (w : α) δ' R', xs[i]? = some w → I i δ' R' → ∃ δ2, EvG K δ' g (enc w) δ2 ∧ XS K Ek δ2 R' t { P with nx := I (i + 1), ct := I (i + 1), bk := P.nx })
    (hd : ∀ δ' R', I xs.length δ' R' → P.nx δ' R') : XS K Ek δ R (tFor wi g t) P :=
  x_for I h h0 (fun i w δ' R' e p => by
    rw [List.getElem?_map] at e
    cases q : xs[i]? with
    | none => rw [q] at e; cases e
    | some x =>
      rw [q] at e
      cases e
      exact hs i x δ' R' q p) (fun δ' R' p => hd δ' R' (by rw [List.length_map] at p; exact p))
end
/-- what a def's body reaches, from its promise -/
abbrev Sem (K : PySem.W.Frag) (Φ : Fn) (N : List Str) (t : XK → TS) : Prop := ∀ (E : XK) (ds : List D) (R : Res) (N' : D → Res → Prop) (M' : Value → Res → Prop), Φ ds R N' M' → XS K (fun c d _ H => E c d H) (startD N ds) R (t E) (endsOf N' M')
/-- a list of two new own lists -/
theorem x_asgLL {K : PySem.W.Frag} {Ek : WX} {R : Res} {δ : DEnv} {ta tb : TE} {P : Post} {i : Nat} {xs ys : List PyData} (h1 : EvF K δ R ta xs) (h2 : ∀ a, EvF K δ ((a, .lst xs) :: R) tb ys) (n : ∀ a b c, P.nx (δ.set i (some (.r c))) ((c, .lsr [a, b]) :: (b, .lst ys) :: (a, .lst xs) :: R)) : XS K Ek δ R (tAsg (tLst (tCons ta (tCons tb tNil))) (gName i)) P := fun G H σ D ok en c =>
  h1 G H σ _ ok en fun a G1 H1 ok1 l1 => h2 a G1 H1 σ _ ok1 (en.mono l1.g) fun b G2 H2 ok2 l2 => ⟨by show 2 ≤ sizeLine; decide, fun p hp => by
    obtain ⟨ok3, l3⟩ := ok2.laid (o := .lst [.ref a, .ref b]) (q := .lsr [a, b]) hp ⟨upd_same, by show 2 ≤ 50000; decide⟩
    exact c.nx _ _ _ _ _ (n a b p) ok3 ((l1.trans l2).trans l3) (((en.mono l1.g).mono l2.g).set (d := .r p) rfl)⟩
/-- a call whose arguments may be own lists: read as data, the answer a scalar -/
inductive VwA (R : Res) : List D → List D → Prop
  | nil : VwA R [] []
  | same {d : D} {ds es : List D} (h : VwA R ds es) : VwA R (d :: ds) (d :: es)
  | vw {d : D} {x : PyData} {ds es : List D} (v : Vw R d x) (h : VwA R ds es) : VwA R (d :: ds) (.d x :: es)
def scalD : PyData → Bool
  | .list _ => false
  | .tuple _ => false
  | _ => true
theorem Hv.scal {G G' : Hp} {v : V} {x : PyData} (h : Hv G v x) (s : scalD x = true) : Hv G' v x := by
  cases h with
  | non => exact .non
  | bl b => exact .bl b
  | int i => exact .int i
  | str x => exact .str x
  | lst _ _ _ => cases s
  | tup _ _ _ => cases s
theorem VwA.hds {K : PySem.W.Frag} {G H : Hp} {R : Res} (ok : Ok K G H R) : ∀ {ds es : List D} {vs : List V}, VwA R ds es → HDs K G vs ds → HDs K H vs es
  | _, _, _, .nil, .nil => .nil
  | _, _, _, .same h, .cons a b => .cons (a.mono ok.ex) (VwA.hds ok h b)
  | _, _, _, .vw v h, .cons a b => .cons (v.hv ok a) (VwA.hds ok h b)
theorem ev_callZ {K : PySem.W.Frag} {R : Res} {δ : DEnv} {tA : TA} {ds es : List D} {Φ : Fn} {S : L2.St → XK} {x : PyData} (ha : EvA K δ R tA ds) (hv : VwA R ds es) (hp : Φ es [] (fun d' R' => d' = .d x ∧ R' = []) (fun _ _ => False)) (sc : scalD x = true) : Ev K δ R (tCallS (spD K Φ) S tA) (.d x) := fun G H σ Q ok en k =>
  ha G H σ _ ok en fun vs G1 H1 ok1 l1 ⟨q1, q2⟩ => ⟨H1, es, [], _, _, hv.hds ok1 (hds_of q1 q2), ⟨Gx.refl _, fun p hp => absurd hp List.not_mem_nil, List.nodup_nil⟩, hp, fun d R' v G' H' n ok' le h => by
    obtain ⟨rfl, rfl⟩ := n
    have gx : Gx H1 H' := fun a o e => le.h a o e (by simp)
    refine k v G1 H' ⟨ok1.ex.trans gx, fun p hp => ⟨(ok1.own p hp).1, Own1.mono (Gx.refl _) (fun o e => gx _ _ e) (ok1.own p hp).2⟩, ok1.nd⟩ ⟨l1.g, fun a o e m => gx _ _ (l1.h a o e m), l1.n, l1.r, fun a e => le.dm a (l1.dm a e)⟩ (Hv.scal h sc), fun c R' G' H' m => m.elim⟩
end Fl
namespace Fl
open PySem PySem.Spec PyProof.Rows L2
/-! Written lists at a reckoned place. -/
theorem eqv_int (a b : Int) : PyData.eqv (.int a) (.int b) = decide (a = b) := by
  show (a == b) = decide (a = b)
  rw [Bool.eq_iff_iff]; simp
theorem eqv_bool (a b : Bool) : PyData.eqv (.bool a) (.bool b) = decide (a = b) := by
  show (a == b) = decide (a = b)
  rw [Bool.eq_iff_iff]; simp
theorem eqv_str (a b : Str) : PyData.eqv (.str a) (.str b) = decide (a = b) := by
  show (a == b) = decide (a = b)
  rw [Bool.eq_iff_iff]; simp
theorem eqv_list (a b : List PyData) : PyData.eqv (.list a) (.list b) = PyData.eqvAll a b := rfl
def pws : List Int := [1, 2, 4, 8, 16, 32, 64, 128]
theorem pws_pos (c : Int) : ∀ k : Nat, CDiv c (pws.getD k 1)
  | 0 => show CDiv c 1 from ⟨by decide, by decide⟩
  | 1 => show CDiv c 2 from ⟨by decide, by decide⟩
  | 2 => show CDiv c 4 from ⟨by decide, by decide⟩
  | 3 => show CDiv c 8 from ⟨by decide, by decide⟩
  | 4 => show CDiv c 16 from ⟨by decide, by decide⟩
  | 5 => show CDiv c 32 from ⟨by decide, by decide⟩
  | 6 => show CDiv c 64 from ⟨by decide, by decide⟩
  | 7 => show CDiv c 128 from ⟨by decide, by decide⟩
  | k + 8 => show CDiv c 1 from ⟨by decide, by decide⟩
theorem pws_at : ∀ k : Nat, k < 8 → ([.int 1, .int 2, .int 4, .int 8, .int 16, .int 32, .int 64, .int 128] : List PyData)[k]? = some (.int (pws.getD k 1))
  | 0, _ => rfl
  | 1, _ => rfl
  | 2, _ => rfl
  | 3, _ => rfl
  | 4, _ => rfl
  | 5, _ => rfl
  | 6, _ => rfl
  | 7, _ => rfl
  | k + 8, h => by omega
section
variable {K : PySem.W.Frag} {R : Res} {δ : DEnv} {ta tb tc : TE}
theorem ev_pws {i : Int} (h : Ev K δ R tb (.d (.int i))) (hi : 0 ≤ i ∧ i < 8) : Ev K δ R (tOp (rIx K) (tLst (tCons (tC (.int 1)) (tCons (tC (.int 2)) (tCons (tC (.int 4)) (tCons (tC (.int 8)) (tCons (tC (.int 16)) (tCons (tC (.int 32)) (tCons (tC (.int 64)) (tCons (tC (.int 128)) tNil))))))))) tb) (.d (.int (pws.getD i.toNat 1))) := by
  refine ev_op (x := .d (.list [.int 1, .int 2, .int 4, .int 8, .int 16, .int 32, .int 64, .int 128])) (ev_frz (evf_lst (ex_cons ev_int (ex_cons ev_int (ex_cons ev_int (ex_cons ev_int (ex_cons ev_int (ex_cons ev_int (ex_cons ev_int (ex_cons ev_int ex_nil)))))))) (by decide))) h (rv_ixL (.d _) ?_)
  have e : ((i.toNat : Nat) : Int) = i := by omega
  have q := atI_some (pws_at i.toNat (by omega))
  rw [e] at q
  exact q
/-- [a, b][i], i 0 or 1 -/
theorem ev_pair {i : Int} {x y : PyData} (ha : Ev K δ R ta (.d x)) (hb : Ev K δ R tb (.d y)) (h : Ev K δ R tc (.d (.int i))) (hi : i = 0 ∨ i = 1) : Ev K δ R (tOp (rIx K) (tLst (tCons ta (tCons tb tNil))) tc) (.d (if i = 0 then x else y)) := by
  refine ev_op (ev_frz (evf_lst (ex_cons ha (ex_cons hb ex_nil)) (by show 2 ≤ 50000; decide))) h (rv_ixL (.d _) ?_)
  rcases hi with rfl | rfl <;> rfl
theorem ev_pairB {b : Bool} {x y : PyData} (ha : Ev K δ R ta (.d x)) (hb : Ev K δ R tb (.d y)) (h : Ev K δ R tc (.d (.bool b))) : Ev K δ R (tOp (rIx K) (tLst (tCons ta (tCons tb tNil))) (tCB rInt1 (tCons tc tNil))) (.d (if b = true then y else x)) := by
  refine ev_is (ev_pair ha hb (ev_int1 h) (by cases b <;> decide)) ?_
  cases b <;> rfl
theorem ev_updown {i : Int} (h : Ev K δ R tc (.d (.int i))) (hi : i = 0 ∨ i = 1) : Ev K δ R (tOp (rIx K) (tLst (tCons (tC (.str "up")) (tCons (tC (.str "down")) tNil))) tc) (.d (sd (decide (i = 0)))) :=
  ev_is (ev_pair ev_str ev_str h hi) (by rcases hi with rfl | rfl <;> rfl)
end
end Fl
namespace Fl
open PySem PySem.Spec PyProof.Rows L2
/-! The ends. -/
/-- what a law promises -/
def Φ_top : Fn := fun ds R N M => ∃ ns, ds = [.s ns] ∧ R = [] ∧ ns.length ≤ 63 ∧ ∀ R', N (.d (.bool true)) R'
theorem law_start {K : PySem.W.Frag} {H : Hp} {a : Addr} {ns : List Int} (hl : ns.length ≤ 63) (hs : SqL K H a (ns.map V.int)) : spD K Φ_top [.ref a] H (fun v _ => v = .bl true) fun _ _ _ => False :=
  ⟨H, [.s ns], [], fun d _ => d = .d (.bool true), fun _ _ => False, .cons ⟨a, rfl, hs⟩ .nil, ⟨Gx.refl H, fun p hp => absurd hp List.not_mem_nil, List.nodup_nil⟩, ⟨ns, rfl, rfl, hl, fun _ => rfl⟩, fun d R' v G' H' n ok le h => by
    subst n
    cases (show Hv G' v (.bool true) from h)
    rfl, fun _ _ _ _ m => m.elim⟩
theorem walk_fl {l : PySem.W.OpenLaw} {k : Nat} {q : Program} {loose : List Str} {XP : (Str → Option Value) → Heap → Prop} {YP : World → Heap → Prop} {d : DefRec} {K : Params → PySem.W.Frag}
    (hn : l.most = some 63) (hdf : d.params.defaults = []) (hr : Room k callerA) (hY : ∀ (w : World) (h : Heap), YP w h → (K w.params).In h)
    (F : ∀ (w : World) (mg : Str → Option Value) (fa : Addr) (h : Heap), (K w.params).In h → h.Ns mainGlobals mg → mg d.name = some (.ref fa) →
      ∃ fd : FuncData, (∀ (s : Shared) (u : Value), BindsTo s fd ⟨[u], []⟩ [(("script" : Str), u)]) ∧ ∀ base : Heap, (K w.params).In base → base.Ns mainGlobals mg → FnOk l.prog w (K w.params) mg base (L2.CX l.prog w) k fa fd ["script"] (spD (K w.params) Φ_top)) :
    PySem.W.WalkO q loose XP YP l.row.toRowW d [] (fun f vs => PySem.call f vs) :=
  L2.walk_of (n := 63) (k := k) (x := "script") (CX := fun w => L2.CX l.prog w) (sp := fun w => spD (K w.params) Φ_top) hn (by decide) hdf hr hY F (fun _ _ _ _ hl _ hS => law_start hl hS) fun _ _ _ _ _ z => by
    obtain ⟨_, _, _, _, _, _, _, _, _, _, _, _, z⟩ := z
    exact z.elim
theorem pe_gcn {X : Cx} {x : Str} {pos : Pos} {v : V} (hg : Gl X x) (h : ∃ u, X.mg x = some u ∧ RelV v u) (hd : (x == ("__debug__" : Str)) = false := by decide) : PE X (.Name x pos) (tC v) := by
  obtain ⟨u, hm, r⟩ := h
  exact pe_glob hg hm r hd
end Fl
namespace Fl
open PySem PySem.Spec PyProof.Rows L2
/-! What is owned, in another order or in part; a part of it handed to a callee. -/
theorem adr_sub {R0 R : Res} (s : ∀ p ∈ R0, p ∈ R) {a : Addr} (m : a ∈ adr R0) : a ∈ adr R := by
  obtain ⟨p, hp, rfl⟩ := List.mem_map.mp m
  exact List.mem_map.mpr ⟨p, s p hp, rfl⟩
section
variable {K : PySem.W.Frag} {Ek : WX} {G G' H H' : Hp} {R R0 R' R1 : Res} {δ δ' : DEnv} {ta tb tc te tl : TE} {d x y z : D} {t u : TS} {P : Post} {tt : TT} {D : Ends}
theorem Ok.sub (ok : Ok K G H R) (s : ∀ p ∈ R0, p ∈ R) (nd : (adr R0).Nodup) : Ok K G H R0 := ⟨ok.ex, fun p hp => ok.own p (s p hp), nd⟩
theorem Le.subL (s : ∀ p ∈ R0, p ∈ R) (le : Le G H R0 G' H' R') : Le G H R G' H' R' := ⟨le.g, fun a o e n => le.h a o e fun m => n (adr_sub s m), fun a e => (le.n a e).imp id (fun q => q.imp id (adr_sub s)), fun a m => (le.r a m).imp (adr_sub s) id, le.dm⟩
theorem Le.subR (s : ∀ p ∈ R0, p ∈ R') (le : Le G H R G' H' R') : Le G H R G' H' R0 := ⟨le.g, le.h, le.n, fun a m => le.r a (adr_sub s m), le.dm⟩
theorem Cn.subL (c : Cn K Ek P D G H R) (s : ∀ p ∈ R0, p ∈ R) : Cn K Ek P D G H R0 :=
  ⟨fun a b e f g p q l => c.nx a b e f g p q (l.subL s), fun a b e f g p q l => c.rt a b e f g p q (l.subL s), fun a b e f g p q l => c.bk a b e f g p q (l.subL s), fun a b e f g p q l => c.ct a b e f g p q (l.subL s), fun a b e f g h p q l => c.xe a b e f g h p q (l.subL s)⟩
theorem XS.sub (h : XS K Ek δ R0 t P) (s : ∀ p ∈ R0, p ∈ R) (nd : (adr R).Nodup → (adr R0).Nodup) : XS K Ek δ R t P := fun G H σ D ok en c => h G H σ D (ok.sub s (nd ok.nd)) en (c.subL s)
theorem XS.dropL (h : XS K Ek δ R0 t P) (s : R0.Sublist R) : XS K Ek δ R t P := h.sub (fun p hp => s.subset hp) fun nd => nd.sublist (s.map _)
theorem XS.perm (h : XS K Ek δ R0 t P) (s : R0.Perm R) : XS K Ek δ R t P := h.sub (fun p hp => s.subset hp) fun nd => ((s.map (·.1)).nodup_iff).mpr nd
theorem Ok.perm (ok : Ok K G H R) (s : R.Perm R0) : Ok K G H R0 := ok.sub (fun p hp => s.symm.subset hp) (((s.map (·.1)).nodup_iff).mp ok.nd)
theorem Le.permR (le : Le G H R G' H' R') (s : R'.Perm R0) : Le G H R G' H' R0 := le.subR fun p hp => s.symm.subset hp
theorem XS.forget (h : XS K Ek δ R t P) {p : Addr × RO} : XS K Ek δ (p :: R) t P := h.dropL (List.sublist_cons_self p R)
/-- R1 stands in R; f puts another in its place -/
inductive Inn (X : Res) : Res → (Res → Res) → Prop
  | one : Inn X X fun Y => Y
  | here (B : Res) : Inn X (X ++ B) fun Y => Y ++ B
  | there (Z : Res) {R : Res} {f : Res → Res} (h : Inn X R f) : Inn X (Z ++ R) fun Y => Z ++ f Y
  | cons (z : Addr × RO) {R : Res} {f : Res → Res} (h : Inn X R f) : Inn X (z :: R) fun Y => z :: f Y
theorem Inn.eq {X : Res} {f : Res → Res} (h : Inn X R f) : ∃ A B, R = A ++ X ++ B ∧ ∀ Y, f Y = A ++ Y ++ B := by
  induction h with
  | one => exact ⟨[], [], by simp, fun Y => by simp⟩
  | here B => exact ⟨[], B, by simp, fun Y => by simp⟩
  | there Z h ih =>
    obtain ⟨A, B, rfl, e⟩ := ih
    exact ⟨Z ++ A, B, by simp, fun Y => by simp [e]⟩
  | cons z h ih =>
    obtain ⟨A, B, rfl, e⟩ := ih
    exact ⟨z :: A, B, by simp, fun Y => by simp [e]⟩
section
variable {tA : TA} {ds : List Fl.D} {Φ : Fn} {S : L2.St → XK} {N : Fl.D → Res → Prop} {M : Value → Res → Prop} {f : Res → Res} {C p : Addr} {m : Str} {fs : List (Str × Fl.D)}
theorem ee_callN (hi : Inn R1 R f) (ha : EvA K δ R tA ds) (hp : Φ ds R1 (fun d R' => N d (f R')) (fun c R' => M c (f R'))) (hE : ∀ c R' σ H', M c R' → Ek c none σ H' → S σ c none H') : EvE K Ek δ R (tCallS (spD K Φ) S tA) N M := by
  obtain ⟨A, B, rfl, e⟩ := hi.eq
  obtain rfl : f = fun Y => A ++ Y ++ B := funext e
  exact ee_call ha hp hE
theorem ee_methN (h1 : Ev K δ R ta (.r p)) (hi : Inn R1 R f) (h0 : R1[0]? = some (p, .ins C fs)) (hl : fs.lookup m = none) (ha : EvA K δ R tA ds) (hp : Φ (.r p :: ds) R1 (fun d R' => N d (f R')) (fun c R' => M c (f R'))) (hE : ∀ c R' σ H', M c R' → Ek c none σ H' → S σ c none H') :
    EvE K Ek δ R (tMethS' C m (spD K Φ) S ta tA) N M := by
  obtain ⟨A, B, rfl, e⟩ := hi.eq
  obtain rfl : f = fun Y => A ++ Y ++ B := funext e
  have q : (A ++ R1 ++ B)[A.length]? = some (p, RO.ins C fs) := by
    have l1 : 0 < R1.length := by
      cases R1 with
      | nil => simp at h0
      | cons _ _ => simp
    rw [List.append_assoc, List.getElem?_append_right (Nat.le_refl _), Nat.sub_self, List.getElem?_append_left l1]
    exact h0
  exact ee_meth (i := A.length) h1 q hl ha hp hE
theorem ev_eeP (h : EvE K (fun _ _ _ _ => False) δ R te (fun d' R' => d' = d ∧ R'.Perm R) fun _ _ => False) : Ev K δ R te d := fun G H σ Q ok en k => h G H σ Q ok en (fun d' R' v G' H' q ok' le hv => by
  obtain ⟨rfl, pr⟩ := q
  exact k v G' H' (ok'.perm pr) (le.permR pr) hv) fun c R' G' H' q => q.elim
theorem evf_eeP {es : List PyData} (h : EvE K (fun _ _ _ _ => False) δ R te (fun d' R' => ∃ a, d' = .r a ∧ R'.Perm ((a, .lst es) :: R)) fun _ _ => False) : EvF K δ R te es := fun G H σ Q ok en k => h G H σ Q ok en (fun d' R' v G' H' q ok' le hv => by
  obtain ⟨a, rfl, pr⟩ := q
  cases (show v = .ref a from hv)
  exact k a G' H' (ok'.perm pr) (le.permR pr)) fun c R' G' H' q => q.elim
theorem Inn.back (hi : Inn R1 R f) : f R1 = R := by
  obtain ⟨A, B, rfl, e⟩ := hi.eq
  exact e R1
theorem Inn.new {q : Addr × RO} (hi : Inn R1 R f) : (f (q :: R1)).Perm (q :: R) := by
  obtain ⟨A, B, rfl, e⟩ := hi.eq
  rw [e]
  simp only [List.append_assoc, List.cons_append]
  exact List.perm_middle
theorem ev_methN (h1 : Ev K δ R ta (.r p)) (hi : Inn R1 R f) (h0 : R1[0]? = some (p, .ins C fs)) (hl : fs.lookup m = none) (ha : EvA K δ R tA ds) (hp : f R1 = R → Φ (.r p :: ds) R1 (fun d' R' => d' = d ∧ f R' = R) (fun _ _ => False)) : Ev K δ R (tMethS' C m (spD K Φ) S ta tA) d :=
  ev_ee (ee_methN (Ek := fun _ _ _ _ => False) (N := fun d' R' => d' = d ∧ R' = R) (M := fun _ _ => False) h1 hi h0 hl ha (hp hi.back) fun _ _ _ _ z => z.elim)
theorem evf_methN {es : List PyData} (h1 : Ev K δ R ta (.r p)) (hi : Inn R1 R f) (h0 : R1[0]? = some (p, .ins C fs)) (hl : fs.lookup m = none) (ha : EvA K δ R tA ds) (hp : (∀ q, (f (q :: R1)).Perm (q :: R)) → Φ (.r p :: ds) R1 (fun d' R' => ∃ a, d' = .r a ∧ (f R').Perm ((a, .lst es) :: R)) (fun _ _ => False)) : EvF K δ R (tMethS' C m (spD K Φ) S ta tA) es :=
  evf_eeP (ee_methN (Ek := fun _ _ _ _ => False) (N := fun d' R' => ∃ a, d' = .r a ∧ R'.Perm ((a, .lst es) :: R)) (M := fun _ _ => False) h1 hi h0 hl ha (hp fun _ => hi.new) fun _ _ _ _ z => z.elim)
theorem ev_callN (hi : Inn R1 R f) (ha : EvA K δ R tA ds) (hp : f R1 = R → Φ ds R1 (fun d' R' => d' = d ∧ f R' = R) (fun _ _ => False)) : Ev K δ R (tCallS (spD K Φ) S tA) d :=
  ev_ee (ee_callN (Ek := fun _ _ _ _ => False) (N := fun d' R' => d' = d ∧ R' = R) (M := fun _ _ => False) hi ha (hp hi.back) fun _ _ _ _ z => z.elim)
theorem evf_callN {es : List PyData} (hi : Inn R1 R f) (ha : EvA K δ R tA ds) (hp : (∀ q, (f (q :: R1)).Perm (q :: R)) → Φ ds R1 (fun d' R' => ∃ a, d' = .r a ∧ (f R').Perm ((a, .lst es) :: R)) (fun _ _ => False)) : EvF K δ R (tCallS (spD K Φ) S tA) es :=
  evf_eeP (ee_callN (Ek := fun _ _ _ _ => False) (N := fun d' R' => ∃ a, d' = .r a ∧ R'.Perm ((a, .lst es) :: R)) (M := fun _ _ => False) hi ha (hp fun _ => hi.new) fun _ _ _ _ z => z.elim)
end
/-! ### comprehensions over an own list -/
def IsItR (K : PySem.W.Frag) (J : It) (G : Hp) (R : Res) (us : List PyData) : Prop := ∀ G2 H2 : Hp, Gx G G2 → Ok K G2 H2 R → (∀ i, us.length ≤ i → J.stop i H2) ∧ ∀ (i : Nat) (u : PyData), us[i]? = some u → J.go i H2 ∧ ∀ x H', J.yld i H2 x H' → StepTo K G2 H2 x H' u
def EvIR (K : PySem.W.Frag) (δ : DEnv) (R : Res) (wi : TI) (us : List PyData) : Prop := ∀ (G H : Hp) (σ : L2.St) (Q : It → Hp → Prop), Ok K G H R → DE K G σ δ →
  (∀ J G' H', Ok K G' H' R → Le G H R G' H' R → us.length ≤ 50000 → IsItR K J G' R us → Q J H') → wi σ H Q
theorem eir_own {i : Nat} {a : Addr} {us : List PyData} (h : Ev K δ R tl (.r a)) (hi : R[i]? = some (a, .lst us)) : EvIR K δ R (iList K tl) us := fun G H σ Q ok en k => h G H σ _ ok en fun v G1 H1 ok1 l1 q1 => by
  cases (show v = .ref a from q1)
  obtain ⟨vs, e1, e2, e3⟩ := ok1.at hi
  refine ⟨a, rfl, ⟨vs, SqL.of e1⟩, k _ G1 H1 ok1 l1 (by rw [← e3.len]; exact e2) fun G2 H2 gx ok2 => ?_⟩
  obtain ⟨ws, f1, f2, f3⟩ := ok2.at hi
  have el := f3.len
  refine ⟨fun j hj => ⟨ws, SqL.of f1, by omega⟩, fun j u hu => ?_⟩
  obtain ⟨w, h1, h2⟩ := f3.getd hu
  exact ⟨⟨ws, w, SqL.of f1, h1⟩, fun x H' ⟨y1, y2⟩ => .inl ⟨y1, by
    have q := y2 ws (SqL.of f1)
    rw [h1] at q
    cases q
    exact h2⟩⟩
theorem evf_lcGR {wi : TI} {j : Nat} {vs : List Nat} {us : List PyData} (g : Nat → PyData) (hi : EvIR K δ R wi us) (hj : j ∈ vs)
    (he : ∀ (i : Nat) (u : PyData), us[i]? = some u → Ev K ((wipeD δ vs).set j (some (.d u))) R te (.d (g i))) :
    EvF K δ R (tLc wi (gName j) tYes te vs) ((List.range us.length).map g) := fun G H σ Q ok en k => hi G H σ _ ok en fun J G1 H1 ok1 l1 hlen it => by
  intro Dl hD
  let acc := fun n => (List.range n).map g
  have acc_len : ∀ n, (acc n).length ≤ n := fun n => by
    show ((List.range n).map g).length ≤ n
    simp
  have acc_yes : ∀ n, acc (n + 1) = acc n ++ [g n] := fun n => by
    show (List.range (n + 1)).map g = (List.range n).map g ++ [g n]
    rw [List.range_succ, List.map_append]
    rfl
  let W : Nat → Hp → Prop := fun n H2 => ∃ G2, Ok K G2 H2 ((Dl, .lst (acc n)) :: R) ∧ Le G H R G2 H2 ((Dl, .lst (acc n)) :: R) ∧ Gx G1 G2
  have start : W 0 (upd H1 Dl (.lst [])) := by
    obtain ⟨ok2, l2⟩ := ok1.laid (p := Dl) (o := .lst []) (q := .lst []) hD ⟨[], upd_same, Nat.zero_le _, .nil⟩
    exact ⟨G1, ok2, l1.trans l2, Gx.refl _⟩
  refine ⟨fun i m H2 => m = us.length - i ∧ i ≤ us.length ∧ W i H2, ⟨us.length, by simp, Nat.zero_le _, start⟩, ?_⟩
  rintro i m H2 ⟨rfl, hle, G2, ok2, l2, gx⟩
  obtain ⟨st, go⟩ := it G2 H2 gx (ok_pre ok2)
  by_cases hlt : i < us.length
  · obtain ⟨u, hu⟩ : ∃ u, us[i]? = some u := ⟨us[i], List.getElem?_eq_getElem hlt⟩
    obtain ⟨hg, hy⟩ := go i u hu
    refine .inr ⟨hg, W (i + 1), fun H' p => ⟨us.length - (i + 1), by omega, rfl, hlt, p⟩, fun x H3 y => ?_⟩
    obtain ⟨G3, ok3, l3, hv⟩ := (hy x H3 y).ok (ok_pre ok2)
    obtain ⟨ok3', l3'⟩ := ok_pre_whole ok2 ok3 l3
    have enw : DE K G3 (L2.wipe σ vs) (wipeD δ vs) := (en.wipe vs).mono (l2.g.trans l3.g)
    show L2.wipe ((L2.wipe σ vs).set j (some x)) vs = L2.wipe σ vs ∧ _
    refine ⟨wipe_set hj, ?_⟩
    show tYes _ _ _
    refine (et_yes (K := K)) G3 H3 _ _ ok3 (enw.set (d := .d u) hv) fun G4 H4 ok4 l4 => ?_
    obtain ⟨ok4', l4'⟩ := ok_pre_whole ok3' ok4 l4
    rw [if_pos rfl]
    refine he i u hu G4 H4 _ _ ok4 ((enw.set (d := .d u) hv).mono l4.g) fun y G5 H5 ok5 l5 q5 => ?_
    obtain ⟨ok5', l5'⟩ := ok_pre_whole ok4' ok5 l5
    obtain ⟨ws, e1, e2, e3⟩ := ok5'.at (i := 0) rfl
    have el := e3.len
    have al := acc_len i
    refine ⟨ws, e1, lim_lt e2, G5, ?_⟩
    have w := ok5'.write (i := 0) (a := Dl) (o := .lst (ws ++ [y])) (q := .lst (acc (i + 1))) rfl ⟨_, upd_same, by rw [List.length_append]; show ws.length + 1 ≤ 50000; omega, by rw [acc_yes i]; exact e3.app (.cons q5 .nil)⟩
    obtain ⟨ok6, l6⟩ := w
    exact ⟨ok6, (((l2.trans l3').trans l4').trans l5').trans l6, ((gx.trans l3.g).trans l4.g).trans l5.g⟩
  · have e : i = us.length := by omega
    subst e
    exact .inl ⟨st _ (Nat.le_refl _), k Dl G2 H2 ok2 l2⟩
/-- [None for x in an own list] and its like -/
theorem evf_lcR0 {i j : Nat} {vs : List Nat} {us : List PyData} {a : Addr} {w : PyData} (h : Ev K δ R tl (.r a)) (hi : R[i]? = some (a, .lst us)) (hj : j ∈ vs) (he : ∀ u, Ev K ((wipeD δ vs).set j (some (.d u))) R te (.d w)) :
    EvF K δ R (tLc (iList K tl) (gName j) tYes te vs) (List.replicate us.length w) :=
  evf_is (evf_lcGR (fun _ => w) (eir_own h hi) hj fun _ u _ => he u) (by rw [List.map_const', List.length_range])
/-! ### dicts keyed by tuples -/
def keyT (ks : List Key) : PyData := .tuple (ks.map keyD)
theorem Hvs.keys {G : Hp} : ∀ {ks : List Key} {vs : List V}, Hvs G vs (ks.map keyD) → vs = ks.map kV
  | [], _, h => by cases h; rfl
  | k :: ks, _, h => by
    cases h with
    | cons h1 h2 => rw [Hv.key h1, Hvs.keys h2]; rfl
theorem Hv.keyT {G : Hp} {v : V} {ks : List Key} (h : Hv G v (keyT ks)) : ∃ b, v = .ref b ∧ G b = some (.tup (ks.map kV)) := by
  cases h with
  | tup h1 h2 h3 => exact ⟨_, rfl, by rw [← h3.keys]; exact h1⟩
def valT (kvs : List (List Key × Int)) (k : List Key) : Option Int := (kvs.find? fun kv => decide (kv.1 = k)).map (·.2)
def putT (kvs : List (List Key × Int)) (k : List Key) (v : Int) : List (List Key × Int) := if (kvs.any fun kv => decide (kv.1 = k)) = true then kvs.map (fun kv => if kv.1 = k then (kv.1, v) else kv) else kvs ++ [(k, v)]
abbrev encKT (kvs : List (List Key × Int)) : List (List Key × V) := kvs.map fun p => (p.1, V.int p.2)
theorem valV_T (kvs : List (List Key × Int)) (k : List Key) : valV (encKT kvs) k = (valT kvs k).map V.int := by
  induction kvs with
  | nil => rfl
  | cons p r ih =>
    by_cases e : p.1 = k
    · have q : valT (p :: r) k = some p.2 := by simp [valT, List.find?_cons, e]
      rw [q]
      exact valV_pos e
    · have q : valT (p :: r) k = valT r k := by simp [valT, List.find?_cons, e]
      rw [q, ← ih]
      exact valV_neg e
theorem putK_T (kvs : List (List Key × Int)) (k : List Key) (v : Int) : L2.putK (encKT kvs) k (V.int v) = encKT (putT kvs k v) := by
  unfold L2.putK putT
  have e : ((encKT kvs).any fun kv => decide (kv.1 = k)) = (kvs.any fun kv => decide (kv.1 = k)) := by
    simp [encKT, List.any_map, Function.comp_def]
  rw [e]
  split
  · simp only [encKT, List.map_map]
    refine List.map_congr_left fun p _ => ?_
    show (if p.1 = k then (p.1, V.int v) else (p.1, V.int p.2)) = ((if p.1 = k then (p.1, v) else p).1, V.int (if p.1 = k then (p.1, v) else p).2)
    split <;> rfl
  · simp [encKT]
theorem ev_dgetT {i : Nat} {a : Addr} {kvs : List (List Key × Int)} {k : List Key} {n : Int} (h1 : Ev K δ R ta (.r a)) (h2 : Ev K δ R tb (.d (keyT k))) (hi : R[i]? = some (a, .dit kvs)) (hl : valT kvs k = some n) : Ev K δ R (tDGet ta tb) (.d (.int n)) := fun G H σ Q ok en kk =>
  h1 G H σ _ ok en fun v G1 H1 ok1 l1 q1 => h2 G1 H1 σ _ ok1 (en.mono l1.g) fun w G2 H2 ok2 l2 q2 => by
    cases (show v = .ref a from q1)
    obtain ⟨b, rfl, eb⟩ := Hv.keyT (show Hv G2 w (keyT k) from q2)
    obtain ⟨e, _⟩ := ok2.at hi
    have q := DGet.t (k := k) e (ok2.ex _ _ eb)
    rw [valV_T, hl] at q
    exact ⟨a, _, rfl, q, kk _ G2 H2 ok2 (l1.trans l2) (show Hv G2 _ _ from .int _)⟩
theorem ev_dinT {i : Nat} {a : Addr} {kvs : List (List Key × Int)} {k : List Key} (h2 : Ev K δ R tb (.d (keyT k))) (h1 : Ev K δ R ta (.r a)) (hi : R[i]? = some (a, .dit kvs)) : Ev K δ R (tDIn tb ta) (.d (.bool (valT kvs k).isSome)) := fun G H σ Q ok en kk =>
  h2 G H σ _ ok en fun w G1 H1 ok1 l1 q1 => h1 G1 H1 σ _ ok1 (en.mono l1.g) fun v G2 H2 ok2 l2 q2 => by
    cases (show v = .ref a from q2)
    obtain ⟨b, rfl, eb⟩ := Hv.keyT (show Hv G1 w (keyT k) from q1)
    obtain ⟨e, _⟩ := ok2.at hi
    refine ⟨a, _, rfl, DGet.t (k := k) e (ok2.ex _ _ (l2.g _ _ eb)), ?_⟩
    rw [valV_T, Option.isSome_map]
    exact kk _ G2 H2 ok2 (l1.trans l2) (show Hv G2 _ _ from .bl _)
theorem putT_len (kvs : List (List Key × Int)) (k : List Key) (v : Int) : (putT kvs k v).length ≤ kvs.length + 1 := by
  unfold putT
  split
  · simp
  · simp
theorem x_dputT {i : Nat} {a : Addr} {kvs : List (List Key × Int)} {k : List Key} {n : Int} (h : Ev K δ R te (.d (.int n))) (h1 : Ev K δ R ta (.r a)) (h2 : Ev K δ R tb (.d (keyT k))) (hi : R[i]? = some (a, .dit kvs)) (hz : kvs.length < 50000) (nx : P.nx δ (R.set i (a, .dit (putT kvs k n)))) :
    XS K Ek δ R (sDPut ta tb te) P := fun G H σ D ok en c => h G H σ _ ok en fun u G1 H1 ok1 l1 q1 => h1 G1 H1 σ _ ok1 (en.mono l1.g) fun v G2 H2 ok2 l2 q2 => h2 G2 H2 σ _ ok2 ((en.mono l1.g).mono l2.g) fun x G3 H3 ok3 l3 q3 => by
  cases (show v = .ref a from q2)
  cases (show Hv G1 u (.int n) from q1)
  obtain ⟨b, rfl, eb⟩ := Hv.keyT (show Hv G3 x (keyT k) from q3)
  obtain ⟨e, hl⟩ := ok3.at hi
  have pl := putT_len kvs k n
  have pq : DPut H3 a (.ref b) (V.int n) (upd H3 a (.dT (encKT (putT kvs k n)))) := by
    rw [← putK_T]
    exact DPut.t e (ok3.ex _ _ eb) (by rw [List.length_map]; exact lim_lt (Nat.le_of_lt hz))
  obtain ⟨ok4, l4⟩ := ok3.write (o := .dT (encKT (putT kvs k n))) (q := .dit (putT kvs k n)) hi ⟨upd_same, by omega⟩
  exact ⟨a, _, rfl, pq, c.nx δ _ σ _ _ nx ok4 (((l1.trans l2).trans l3).trans l4) ((((en.mono l1.g).mono l2.g).mono l3.g).mono l4.g)⟩
/-- x = {}, a dict that is keyed by tuples -/
theorem x_asgNT {i : Nat} (n : ∀ a, P.nx (δ.set i (some (.r a))) ((a, .dit []) :: R)) : XS K Ek δ R (tAsg tDNewT (gName i)) P := fun G H σ D ok en c => by
  intro p hp
  obtain ⟨ok1, l1⟩ := ok.laid (o := .dT []) (q := .dit []) hp ⟨upd_same, Nat.zero_le _⟩
  exact c.nx _ _ _ _ _ (n p) ok1 l1 ((en.mono l1.g).set (d := .r p) rfl)
end
/-! ### text * int -/
def repS (z : Str) (n : Nat) : Str := ⟨(List.replicate n z.cps.toList).flatten.toArray⟩
theorem rep_fold (z : Array Nat) : ∀ (n : Nat) (acc : Array Nat), (List.replicate n z).foldl (· ++ ·) acc = (acc.toList ++ (List.replicate n z.toList).flatten).toArray
  | 0, acc => by simp
  | n + 1, acc => by
    rw [List.replicate_succ, List.foldl_cons, rep_fold z n (acc ++ z), List.replicate_succ, List.flatten_cons]
    simp
theorem repS_len (z : Str) (n : Nat) : (repS z n).length = n * z.length := by
  show ((List.replicate n z.cps.toList).flatten.toArray).size = n * z.cps.size
  rw [List.size_toArray, List.length_flatten, List.map_replicate, List.sum_replicate_nat, Array.length_toList]
def rRepS : R2 := fun x y H Q => ∃ (z : Str) (n : Int), x = .str z ∧ y = .int n ∧ 2 ≤ n ∧ n ≤ 1000 ∧ 1 ≤ z.length ∧ z.length ≤ 10 ∧ Q (.str (repS z n.toNat)) H
theorem op_repS {X : Cx} : OpR X (binaryOp .Mult) rRepS := by
  intro pins s σ H x y v u Q I rx ry h
  obtain ⟨z, n, rfl, rfl, h1, h2, h3, h4, q⟩ := h
  obtain ⟨t, rfl⟩ := rx
  obtain ⟨t', rfl⟩ := ry
  have e1 : ¬ n < 1 := by omega
  have e2 : (n == 1 || z.length == 0) = false := by
    rw [Bool.or_eq_false_iff]
    exact ⟨beq_eq_false_iff_ne.mpr (by omega), beq_eq_false_iff_ne.mpr (by omega)⟩
  have hb : n.toNat * z.length ≤ 10000 := Nat.le_trans (Nat.mul_le_mul (show n.toNat ≤ 1000 by omega) h4) (by decide)
  have hz : z.length * n.toNat ≤ 10000 := by rw [Nat.mul_comm]; exact hb
  refine PySem.P.mul_str ?_ (fun _ _ => ?_) (fun _ _ => ?_) ?_
  · rw [decide_eq_false (show ¬ n < -(2 ^ 63 : Int) by omega), decide_eq_false (show ¬ n ≥ 2 ^ 63 by omega)]
    rfl
  · have d : (100 : Int) ≤ (2 ^ 63 - 1) / n := (Int.le_ediv_iff_mul_le (by omega)).mpr (by omega)
    omega
  · show decide (z.length * n.toNat > sizeLine) = false
    rw [decide_eq_false_iff_not]
    exact Nat.not_lt.mpr (lim_le (by omega))
  · rw [if_neg e1, e2, if_neg Bool.false_ne_true]
    have ef : (⟨(List.replicate n.toNat z.cps).foldl (· ++ ·) #[]⟩ : Str) = repS z n.toNat := by
      rw [rep_fold]
      rfl
    rw [ef]
    refine ⟨?_, ⟨.str _, H, I.tok _, ⟨_, rfl⟩, q⟩⟩
    rw [repS_len]
    exact lim_le (by omega)
theorem rv_repS {K : PySem.W.Frag} {R : Res} {z : Str} {n : Int} (h : 2 ≤ n ∧ n ≤ 1000) (hz : 1 ≤ z.length ∧ z.length ≤ 10) : RV K R rRepS (.d (.str z)) (.d (.int n)) (.d (.str (repS z n.toNat))) := fun G H v w Q ok h1 h2 k => by
  cases (show Hv G v (.str z) from h1)
  cases (show Hv G w (.int n) from h2)
  exact ⟨z, n, rfl, rfl, h.1, h.2, hz.1, hz.2, k _ G H ok .refl (show Hv G _ _ from .str _)⟩
/-! ### a suite that speaks of one class -/
def tG (p : Prop) (t : TS) : TS := fun D σ H => p ∧ t D σ H
theorem pss_g {X : Cx} {ss : List Stmt} {p : Prop} {t : TS} (f : p → PSs X ss t) : PSs X ss (tG p t) := ⟨fun pins s σ H D I h => (f h.1).run pins s σ H D I h.2⟩
theorem x_g {K : PySem.W.Frag} {Ek : WX} {δ : DEnv} {R : Res} {t : TS} {P : Post} {p : Prop} (hp : p) (h : XS K Ek δ R t P) : XS K Ek δ R (tG p t) P := fun G H σ D ok en c => ⟨hp, h G H σ D ok en c⟩
theorem zc_of {c cE : Value} {xE : Option Addr} {o : Obj} (h : cE = c ∧ xE = none) (z : Zc cE xE o) : Zc c none o := by
  obtain ⟨rfl, rfl⟩ := h
  exact z
/-! ### isinstance of an error, by what k_is can tell -/
theorem kit_ref {K : PySem.W.Frag} {C : Addr} {t : Value} {b : Bool} (hd : PySem.W.hasDictIn K C = true) (ht : PySem.W.typeIn K (.ref C) = some (.type "type")) (h4 : PySem.W.subIn K t (.ref C) = some b) (hself : PySem.W.subIn K t t = some true) : PySem.W.kitOne K t (.ref C) = some b := by
  obtain ⟨cd, hc, _⟩ := PySem.W.any_some hd
  unfold PySem.W.kitOne
  split
  · rename_i e
    have e' : t = .ref C := beq_iff_eq.mp e
    rw [← e', hself] at h4
    exact h4
  · have e2 : ((PySem.W.clsIn K C).isSome && PySem.W.typeIn K (.ref C) == some (.type "type")) = true := by rw [hc, ht] <;> rfl
    show (if ((PySem.W.clsIn K C).isSome && PySem.W.typeIn K (.ref C) == some (.type "type")) = true then PySem.W.subIn K t (.ref C) else none) = some b
    rw [if_pos e2]
    exact h4
theorem kit_tyE {K : PySem.W.Frag} {C : Addr} {b : Bool} (h : PySem.W.subIn K (.ref C) (.type "ValueError") = some b) : PySem.W.kitOne K (.ref C) (.type "ValueError") = some b := by
  unfold PySem.W.kitOne
  rw [if_neg (by intro z; have := beq_iff_eq.mp z; cases this)]
  show (if PySem.W.kitMeta "ValueError" = true then PySem.W.subIn K (.ref C) (.type "ValueError") else none) = some b
  rw [if_pos (by decide +kernel)]
  exact h
/-! ### expressions that change what is owned -/
section
variable {K : PySem.W.Frag} {Ek : WX} {R : Res} {δ : DEnv} {ta tb tc te : TE} {x y z : D} {r : R2} {P : Post} {N N1 N' : D → Res → Prop} {M M' : Value → Res → Prop}
theorem ee_op (ha : Ev K δ R ta x) (hb : EvE K Ek δ R tb N1 M) (hr : ∀ d R', N1 d R' → ∃ z, RV K R' r x d z ∧ N z R') : EvE K Ek δ R (tOp r ta tb) N M := fun G H σ Q ok en k j =>
  ha G H σ _ ok en fun v G1 H1 ok1 l1 h1 => hb G1 H1 σ _ ok1 (en.mono l1.g) (fun d R' w G2 H2 n ok2 l2 h2 => by
    obtain ⟨z, rv, nz⟩ := hr d R' n
    exact rv G2 H2 v w Q ok2 (h1.mono l2.g) h2 fun u G3 H3 ok3 l3 h3 => k z R' u G3 H3 nz ok3 ((l1.trans l2).trans l3) h3) fun c R' G2 H2 m ok2 l2 => j c R' G2 H2 m ok2 (l1.trans l2)
theorem x_appE {i : Nat} {a : Addr} {ds : List PyData} (h1 : Ev K δ R ta (.r a)) (hi : R[i]? = some (a, .lst ds)) (h : EvE K Ek δ R te N M)
    (n : ∀ d R', N d R' → ∃ w i' ds', d = .d w ∧ R'[i']? = some (a, .lst ds') ∧ ds'.length < 50000 ∧ P.nx δ (R'.set i' (a, .lst (ds' ++ [w])))) (m : ∀ c R', M c R' → P.xe c δ R') :
    XS K Ek δ R (tDrop (tBM K "list" rAppend ta (tCons te tNil))) P := fun G H σ D ok en c => h1 G H σ _ ok en fun v G1 H1 ok1 l1 q1 => by
  cases (show v = .ref a from q1)
  obtain ⟨ws, e1, _, _⟩ := ok1.at hi
  refine ⟨.inl ⟨rfl, ws, SqL.of e1⟩, h G1 H1 σ _ ok1 (en.mono l1.g) (fun d R' u G2 H2 nn ok2 l2 q2 => ?_) fun e R' G2 H2 mm ok2 l2 => c.xe e δ R' σ G2 H2 (m e R' mm) ok2 (l1.trans l2) ((en.mono l1.g).mono l2.g)⟩
  obtain ⟨w, i', ds', rfl, hi', hz, nx⟩ := n d R' nn
  obtain ⟨vs, e2, e3, e4⟩ := ok2.at hi'
  have el := e4.len
  refine ⟨a, vs, u, rfl, rfl, e2, lim_lt e3, ?_⟩
  obtain ⟨ok3, l3⟩ := ok2.write (o := .lst (vs ++ [u])) (q := .lst (ds' ++ [w])) hi' ⟨_, upd_same, by rw [List.length_append]; show vs.length + 1 ≤ 50000; omega, e4.app (.cons q2 .nil)⟩
  exact c.nx δ _ σ _ _ nx ok3 ((l1.trans l2).trans l3) (((en.mono l1.g).mono l2.g).mono l3.g)
theorem EvE.sub (h : EvE K Ek δ R te N M) (n : ∀ d R', N d R' → ∃ R0, R0.Sublist R' ∧ N' d R0) (m : ∀ c R', M c R' → ∃ R0, R0.Sublist R' ∧ M' c R0) : EvE K Ek δ R te N' M' := fun G H σ Q ok en k j =>
  h G H σ Q ok en (fun d R' v G' H' q ok' le hv => by
    obtain ⟨R0, s, q'⟩ := n d R' q
    exact k d R0 v G' H' q' (ok'.sub (fun p hp => s.subset hp) (ok'.nd.sublist (s.map _))) (le.subR fun p hp => s.subset hp) hv) fun c R' G' H' q ok' le => by
    obtain ⟨R0, s, q'⟩ := m c R' q
    exact j c R0 G' H' q' (ok'.sub (fun p hp => s.subset hp) (ok'.nd.sublist (s.map _))) (le.subR fun p hp => s.subset hp)
/-- f(a, b, c, {}) -/
theorem ee_call4T {S : L2.St → XK} {Φ : Fn} (h1 : Ev K δ R ta x) (h2 : Ev K δ R tb y) (h3 : Ev K δ R tc z) (hp : ∀ a, Φ [x, y, z, .r a] [(a, .dit [])] (fun d R' => N d (R' ++ R)) (fun c R' => M c (R' ++ R))) (hE : ∀ c R' σ H', M c R' → Ek c none σ H' → S σ c none H') :
    EvE K Ek δ R (tCallS (spD K Φ) S (tCons ta (tCons tb (tCons tc (tCons tDNewT tNil))))) N M := fun G H σ Q ok en k j =>
  h1 G H σ _ ok en fun v1 G1 H1 ok1 l1 q1 => h2 G1 H1 σ _ ok1 (en.mono l1.g) fun v2 G2 H2 ok2 l2 q2 => h3 G2 H2 σ _ ok2 ((en.mono l1.g).mono l2.g) fun v3 G3 H3 ok3 l3 q3 => fun p hp' => by
    obtain ⟨ok4, l4⟩ := ok3.laid (o := .dT []) (q := .dit []) hp' ⟨upd_same, Nat.zero_le _⟩
    have ok4' : Ok K G3 (upd H3 p (.dT [])) ([] ++ [(p, RO.dit [])] ++ R) := ok4
    refine ⟨G3, [x, y, z, .r p], [(p, .dit [])], _, _, .cons (q1.mono (l2.g.trans l3.g)) (.cons (q2.mono l3.g) (.cons q3 (.cons rfl .nil))), ok4'.part, hp p, fun d R' v G' H' n ok' le hv => ?_, fun c R' G' H' m ok' le => ?_⟩
    · obtain ⟨ok5, l5⟩ := ok4'.whole ok' le
      exact k d _ v G' H' n ok5 ((((l1.trans l2).trans l3).trans l4).trans l5) hv
    · obtain ⟨ok5, l5⟩ := ok4'.whole ok' le
      exact hE c _ σ H' m (j c _ G' H' m ok5 ((((l1.trans l2).trans l3).trans l4).trans l5))
end
/-- return, and some of what is owned is let fall -/
theorem x_retS {K : PySem.W.Frag} {Ek : WX} {R R0 : Res} {δ : DEnv} {te : TE} {d : D} {P : Post} (h : Ev K δ R te d) (s : R0.Sublist R) (n : P.rt d R0) : XS K Ek δ R (tRet te) P := fun G H σ D ok en c =>
  h G H σ _ ok en fun v G' H' ok' le hv => c.rt d R0 v G' H' n (ok'.sub (fun p hp => s.subset hp) (ok'.nd.sublist (s.map _))) (le.subR fun p hp => s.subset hp) hv
/-! ### an own list is let go -/
section
variable {K : PySem.W.Frag} {Ek : WX} {G H : Hp} {R : Res} {δ : DEnv} {t : TS} {P : Post} {a : Addr} {ds : List PyData}
theorem Ok.frz (ok : Ok K G H ((a, .lst ds) :: R)) : ∃ G', Ok K G' H R ∧ Le G H ((a, .lst ds) :: R) G' H R ∧ Hv G' (.ref a) (.list ds) ∧ Gx G G' := by
  obtain ⟨ng, vs, e, hl, hv⟩ := ok.own _ List.mem_cons_self
  have nd : (a :: adr R).Nodup := ok.nd
  obtain ⟨nd1, nd2⟩ := List.nodup_cons.mp nd
  refine ⟨upd G a (.lst vs), ⟨fun b u q => ?_, fun y hy => ?_, nd2⟩, ⟨Gx.new ng, fun b o q _ => q, fun b q => ?_, fun b m => .inl (List.mem_cons_of_mem _ m), fun b q => q⟩, .lst upd_same hl (Hvs.mono (Gx.new ng) ds hv), Gx.new ng⟩
  · by_cases z : b = a
    · subst z; rw [upd_same] at q; cases q; exact e
    · rw [upd_ne z] at q; exact ok.ex b u q
  · obtain ⟨h1, h2⟩ := ok.own y (List.mem_cons_of_mem _ hy)
    have z : y.1 ≠ a := fun z => nd1 (z ▸ List.mem_map.mpr ⟨y, hy, rfl⟩)
    exact ⟨by rw [upd_ne z]; exact h1, Own1.mono (Gx.new ng) (fun _ q => q) h2⟩
  · by_cases z : b = a
    · subst z; exact .inr (.inr List.mem_cons_self)
    · rw [upd_ne z] at q; exact .inl q
theorem x_frz {i : Nat} (hi : δ[i]? = some (some (.r a))) (h : XS K Ek (δ.set i (some (.d (.list ds)))) R t P) : XS K Ek δ ((a, .lst ds) :: R) t P := fun G H σ D ok en c => by
  obtain ⟨G', ok', le, hv, gx⟩ := ok.frz
  obtain ⟨v, e, q⟩ := en.get i _ hi
  cases (show v = .ref a from q)
  refine h G' H σ D ok' ⟨by rw [List.length_set]; exact en.len, fun j d hj => ?_⟩ (c.mono le)
  by_cases z : i = j
  · subst z
    obtain ⟨hlt, _⟩ := List.getElem?_eq_some_iff.mp hi
    rw [List.getElem?_set_self hlt] at hj
    cases hj
    exact ⟨_, e, hv⟩
  · rw [List.getElem?_set_ne z] at hj
    exact (en.mono gx).get j d hj
end
/-- two statements with a word of what holds between -/
theorem x_seqM {K : PySem.W.Frag} {Ek : WX} {R : Res} {δ : DEnv} {t u : TS} {P : Post} (I : DEnv → Res → Prop) (h : XS K Ek δ R t { P with nx := I }) (k : ∀ δ' R', I δ' R' → XS K Ek δ' R' u P) : XS K Ek δ R (tSeq t u) P :=
  x_seq (h.post k (fun _ _ q => q) (fun _ _ q => q) (fun _ _ q => q) fun _ _ _ q => q)
end Fl
namespace Fl
open PySem PySem.Spec PyProof.Rows L2
/-! A flight, and the plain model beside it, as owned objects. -/
structure Fs where
  high : List Bool
  sides : List Bool
  places : List (Int × Int)
  done : List Int
  taken : Int
  given : Int
/-- where the parts stand -/
structure Fa where
  f : Addr
  h : Addr
  s : Addr
  p : Addr
  d : Addr
abbrev Pl := List (Int × Int)
def plc (ps : Pl) (b : Int) : Option Int := (ps.find? fun q => decide (q.1 = b)).map (·.2)
def pput (ps : Pl) (b v : Int) : Pl := if (ps.any fun q => decide (q.1 = b)) = true then ps.map (fun q => if q.1 = b then (q.1, v) else q) else ps ++ [(b, v)]
def pdrop (ps : Pl) (b : Int) : Pl := ps.filter fun q => decide (q.1 ≠ b)
def encP (ps : Pl) : List (Key × D) := ps.map fun q => (.inl q.1, .d (.int q.2))
theorem dec_inl (x b : Int) : decide ((Sum.inl x : Key) = .inl b) = decide (x = b) := by
  rw [Bool.eq_iff_iff, decide_eq_true_eq, decide_eq_true_eq]
  exact ⟨Sum.inl.inj, fun h => by rw [h]⟩
theorem valD_P (ps : Pl) (b : Int) : valD (encP ps) (.inl b) = (plc ps b).map fun v => .d (.int v) := by
  unfold valD encP plc
  rw [List.find?_map]
  have e : ((fun kv : Key × D => decide (kv.1 = (.inl b : Key))) ∘ fun q : Int × Int => ((.inl q.1 : Key), D.d (.int q.2))) = fun q : Int × Int => decide (q.1 = b) := by
    funext q
    exact dec_inl q.1 b
  rw [e]
  cases ps.find? (fun q => decide (q.1 = b)) <;> rfl
theorem putD_P (ps : Pl) (b v : Int) : putD (encP ps) (.inl b) (.d (.int v)) = encP (pput ps b v) := by
  have e : ((encP ps).any fun kv => decide (kv.1 = (.inl b : Key))) = (ps.any fun q => decide (q.1 = b)) := by
    unfold encP
    rw [List.any_map]
    congr 1
    funext q
    exact dec_inl q.1 b
  unfold putD pput
  rw [e]
  split
  · unfold encP
    rw [List.map_map, List.map_map]
    refine List.map_congr_left fun q _ => ?_
    show (if (Sum.inl q.1 : Key) = .inl b then _ else _) = ((.inl (if q.1 = b then (q.1, v) else q).1 : Key), D.d (.int (if q.1 = b then (q.1, v) else q).2))
    by_cases h : q.1 = b
    · rw [if_pos (by rw [h]), if_pos h]
    · rw [if_neg (fun z => h (Sum.inl.inj z)), if_neg h]
  · unfold encP
    rw [List.map_append]; rfl
theorem dropD_P (ps : Pl) (b : Int) : dropD (encP ps) (.inl b) = encP (pdrop ps b) := by
  unfold dropD encP pdrop
  rw [List.filter_map]
  congr 1
  refine List.filter_congr fun q _ => ?_
  show decide ((Sum.inl q.1 : Key) ≠ .inl b) = decide (q.1 ≠ b)
  rw [Bool.eq_iff_iff, decide_eq_true_eq, decide_eq_true_eq]
  exact ⟨fun h z => h (by rw [z]), fun h z => h (Sum.inl.inj z)⟩
theorem encP_keys (ps : Pl) : ((encP ps).map fun kv => keyD kv.1) = (ps.map (·.1)).map PyData.int := by
  unfold encP
  rw [List.map_map, List.map_map]; rfl
theorem encP_len (ps : Pl) : (encP ps).length = ps.length := by simp [encP]
def fldF (a : Fa) (S : Fs) : List (Str × D) := [("high", .r a.h), ("sides", .r a.s), ("places", .r a.p), ("done", .r a.d), ("taken", .d (.int S.taken)), ("given", .d (.int S.given))]
def flR (C : Addr) (a : Fa) (S : Fs) : Res := [(a.f, .ins C (fldF a S)), (a.h, .lst (S.high.map .bool)), (a.s, .lst (S.sides.map sd)), (a.p, .dic (encP S.places)), (a.d, .lst (S.done.map .int))]
def dicF (a : Fa) (S : Fs) : List (Key × D) := [(.inr "high", .r a.h), (.inr "sides", .r a.s), (.inr "places", .r a.p), (.inr "through", .r a.d), (.inr "drawn", .d (.int S.taken)), (.inr "out", .d (.int S.given))]
def stR (a : Fa) (S : Fs) : Res := [(a.f, .dic (dicF a S)), (a.h, .lst (S.high.map .bool)), (a.s, .lst (S.sides.map sd)), (a.p, .dic (encP S.places)), (a.d, .lst (S.done.map .int))]
/-! ### where it stands in what is owned -/
theorem Inn.sub {X R : Res} {f : Res → Res} (h : Inn X R f) {p : Addr × RO} (m : p ∈ X) : p ∈ R := by
  obtain ⟨A, B, rfl, _⟩ := h.eq
  simp [m]
section
variable {C : Addr} {a : Fa} {S : Fs} {R : Res} {f : Res → Res}
theorem fl_f (h : Inn (flR C a S) R f) : (a.f, RO.ins C (fldF a S)) ∈ R := h.sub (by simp [flR])
theorem fl_h (h : Inn (flR C a S) R f) : (a.h, RO.lst (S.high.map .bool)) ∈ R := h.sub (by simp [flR])
theorem fl_s (h : Inn (flR C a S) R f) : (a.s, RO.lst (S.sides.map sd)) ∈ R := h.sub (by simp [flR])
theorem fl_p (h : Inn (flR C a S) R f) : (a.p, RO.dic (encP S.places)) ∈ R := h.sub (by simp [flR])
theorem fl_d (h : Inn (flR C a S) R f) : (a.d, RO.lst (S.done.map .int)) ∈ R := h.sub (by simp [flR])
theorem st_f (h : Inn (stR a S) R f) : (a.f, RO.dic (dicF a S)) ∈ R := h.sub (by simp [stR])
theorem st_h (h : Inn (stR a S) R f) : (a.h, RO.lst (S.high.map .bool)) ∈ R := h.sub (by simp [stR])
theorem st_s (h : Inn (stR a S) R f) : (a.s, RO.lst (S.sides.map sd)) ∈ R := h.sub (by simp [stR])
theorem st_p (h : Inn (stR a S) R f) : (a.p, RO.dic (encP S.places)) ∈ R := h.sub (by simp [stR])
theorem st_d (h : Inn (stR a S) R f) : (a.d, RO.lst (S.done.map .int)) ∈ R := h.sub (by simp [stR])
end
theorem Ls.mem {R : Res} {a : Addr} {ds : List PyData} (h : (a, RO.lst ds) ∈ R) : Ls R (.r a) ds := by
  obtain ⟨i, hi⟩ := List.getElem?_of_mem h
  exact .own hi
theorem Vw.mem {R : Res} {a : Addr} {ds : List PyData} (h : (a, RO.lst ds) ∈ R) : Vw R (.r a) (.list ds) := by
  obtain ⟨i, hi⟩ := List.getElem?_of_mem h
  exact .own hi
/-! ### attributes -/
structure Fx (K : PySem.W.Frag) (A : Ad) : Prop where
  cl : Cls K A.C
  high : NoAttr K A.C "high"
  sides : NoAttr K A.C "sides"
  places : NoAttr K A.C "places"
  done : NoAttr K A.C "done"
  taken : NoAttr K A.C "taken"
  given : NoAttr K A.C "given"
section
variable {a : Fa} {S : Fs}
theorem lk_high : (fldF a S).lookup ("high" : Str) = some (.r a.h) := rfl
theorem lk_sides : (fldF a S).lookup ("sides" : Str) = some (.r a.s) := rfl
theorem lk_places : (fldF a S).lookup ("places" : Str) = some (.r a.p) := rfl
theorem lk_done : (fldF a S).lookup ("done" : Str) = some (.r a.d) := rfl
theorem lk_taken : (fldF a S).lookup ("taken" : Str) = some (.d (.int S.taken)) := rfl
theorem lk_given : (fldF a S).lookup ("given" : Str) = some (.d (.int S.given)) := rfl
theorem dv_high : valD (dicF a S) (.inr "high") = some (.r a.h) := rfl
theorem dv_sides : valD (dicF a S) (.inr "sides") = some (.r a.s) := rfl
theorem dv_places : valD (dicF a S) (.inr "places") = some (.r a.p) := rfl
theorem dv_through : valD (dicF a S) (.inr "through") = some (.r a.d) := rfl
theorem dv_drawn : valD (dicF a S) (.inr "drawn") = some (.d (.int S.taken)) := rfl
theorem dv_out : valD (dicF a S) (.inr "out") = some (.d (.int S.given)) := rfl
theorem pt_taken {t : Int} : putFD "taken" (.d (.int t)) (fldF a S) = fldF a { S with taken := t } := rfl
theorem pt_given {t : Int} : putFD "given" (.d (.int t)) (fldF a S) = fldF a { S with given := t } := rfl
theorem dp_drawn {t : Int} : putD (dicF a S) (.inr "drawn") (.d (.int t)) = dicF a { S with taken := t } := rfl
theorem dp_out {t : Int} : putD (dicF a S) (.inr "out") (.d (.int t)) = dicF a { S with given := t } := rfl
end
/-! ### what attributes and entries are worth -/
section
variable {K : PySem.W.Frag} {A : Ad} {δ : DEnv} {R : Res} {f : Res → Res} {a : Fa} {S : Fs} {te tb : TE}
theorem ev_fldM {p C : Addr} {fs : List (Str × D)} {n : Str} {d : D} (h : Ev K δ R te (.r p)) (hm : (p, RO.ins C fs) ∈ R) (hl : fs.lookup n = some d) (hc : Cls K C) (hn : NoAttr K C n) : Ev K δ R (tFld K te n) d := by
  obtain ⟨i, hi⟩ := List.getElem?_of_mem hm
  exact ev_fld h hi hl hc hn
theorem ev_dgetM {p : Addr} {kvs : List (Key × D)} {k : Key} {d : D} (h1 : Ev K δ R te (.r p)) (h2 : Ev K δ R tb (.d (keyD k))) (hm : (p, RO.dic kvs) ∈ R) (hl : valD kvs k = some d) : Ev K δ R (tDGet te tb) d := by
  obtain ⟨i, hi⟩ := List.getElem?_of_mem hm
  exact ev_dget h1 h2 hi hl
theorem f_high (fx : Fx K A) (h : Ev K δ R te (.r a.f)) (hi : Inn (flR A.C a S) R f) : Ev K δ R (tFld K te "high") (.r a.h) := ev_fldM h (fl_f hi) lk_high fx.cl fx.high
theorem f_sides (fx : Fx K A) (h : Ev K δ R te (.r a.f)) (hi : Inn (flR A.C a S) R f) : Ev K δ R (tFld K te "sides") (.r a.s) := ev_fldM h (fl_f hi) lk_sides fx.cl fx.sides
theorem f_places (fx : Fx K A) (h : Ev K δ R te (.r a.f)) (hi : Inn (flR A.C a S) R f) : Ev K δ R (tFld K te "places") (.r a.p) := ev_fldM h (fl_f hi) lk_places fx.cl fx.places
theorem f_done (fx : Fx K A) (h : Ev K δ R te (.r a.f)) (hi : Inn (flR A.C a S) R f) : Ev K δ R (tFld K te "done") (.r a.d) := ev_fldM h (fl_f hi) lk_done fx.cl fx.done
theorem f_taken (fx : Fx K A) (h : Ev K δ R te (.r a.f)) (hi : Inn (flR A.C a S) R f) : Ev K δ R (tFld K te "taken") (.d (.int S.taken)) := ev_fldM h (fl_f hi) lk_taken fx.cl fx.taken
theorem f_given (fx : Fx K A) (h : Ev K δ R te (.r a.f)) (hi : Inn (flR A.C a S) R f) : Ev K δ R (tFld K te "given") (.d (.int S.given)) := ev_fldM h (fl_f hi) lk_given fx.cl fx.given
theorem d_high (h : Ev K δ R te (.r a.f)) (hi : Inn (stR a S) R f) : Ev K δ R (tDGet te (tC (.str "high"))) (.r a.h) := ev_dgetM (k := .inr "high") h ev_str (st_f hi) dv_high
theorem d_sides (h : Ev K δ R te (.r a.f)) (hi : Inn (stR a S) R f) : Ev K δ R (tDGet te (tC (.str "sides"))) (.r a.s) := ev_dgetM (k := .inr "sides") h ev_str (st_f hi) dv_sides
theorem d_places (h : Ev K δ R te (.r a.f)) (hi : Inn (stR a S) R f) : Ev K δ R (tDGet te (tC (.str "places"))) (.r a.p) := ev_dgetM (k := .inr "places") h ev_str (st_f hi) dv_places
theorem d_through (h : Ev K δ R te (.r a.f)) (hi : Inn (stR a S) R f) : Ev K δ R (tDGet te (tC (.str "through"))) (.r a.d) := ev_dgetM (k := .inr "through") h ev_str (st_f hi) dv_through
theorem d_drawn (h : Ev K δ R te (.r a.f)) (hi : Inn (stR a S) R f) : Ev K δ R (tDGet te (tC (.str "drawn"))) (.d (.int S.taken)) := ev_dgetM (k := .inr "drawn") h ev_str (st_f hi) dv_drawn
theorem d_out (h : Ev K δ R te (.r a.f)) (hi : Inn (stR a S) R f) : Ev K δ R (tDGet te (tC (.str "out"))) (.d (.int S.given)) := ev_dgetM (k := .inr "out") h ev_str (st_f hi) dv_out
/-- places[b] -/
theorem d_plc {p : Addr} {ps : Pl} {b v : Int} (h1 : Ev K δ R te (.r p)) (h2 : Ev K δ R tb (.d (.int b))) (hm : (p, RO.dic (encP ps)) ∈ R) (hl : plc ps b = some v) : Ev K δ R (tDGet te tb) (.d (.int v)) :=
  ev_dgetM (k := .inl b) h1 h2 hm (by rw [valD_P, hl]; rfl)
theorem d_nin {p : Addr} {ps : Pl} {b : Int} (h2 : Ev K δ R tb (.d (.int b))) (h1 : Ev K δ R te (.r p)) (hm : (p, RO.dic (encP ps)) ∈ R) : Ev K δ R (tDNotIn tb te) (.d (.bool (!(plc ps b).isSome))) := by
  obtain ⟨i, hi⟩ := List.getElem?_of_mem hm
  refine ev_is (ev_dnotin (k := .inl b) h2 h1 hi) ?_
  rw [valD_P, Option.isSome_map]
theorem d_in {p : Addr} {ps : Pl} {b : Int} (h2 : Ev K δ R tb (.d (.int b))) (h1 : Ev K δ R te (.r p)) (hm : (p, RO.dic (encP ps)) ∈ R) : Ev K δ R (tDIn tb te) (.d (.bool (plc ps b).isSome)) := by
  obtain ⟨i, hi⟩ := List.getElem?_of_mem hm
  refine ev_is (ev_din (k := .inl b) h2 h1 hi) ?_
  rw [valD_P, Option.isSome_map]
/-- list(places) -/
theorem f_keys {p : Addr} {ps : Pl} (h : Ev K δ R te (.r p)) (hm : (p, RO.dic (encP ps)) ∈ R) : EvF K δ R (tCB rListD (tCons te tNil)) ((ps.map (·.1)).map .int) := by
  obtain ⟨i, hi⟩ := List.getElem?_of_mem hm
  exact evf_is (evf_listD h hi) (encP_keys ps)
/-- xs[i] of an own list -/
theorem ev_at {p : Addr} {α : Type} {g : α → PyData} {xs : List α} {i : Int} {e : α} (h1 : Ev K δ R te (.r p)) (h2 : Ev K δ R tb (.d (.int i))) (hm : (p, RO.lst (xs.map g)) ∈ R) (ha : atI xs i = some e) : Ev K δ R (tOp (rIx K) te tb) (.d (g e)) := ev_op h1 h2 (rv_ixLM (.mem hm) ha)
end
end Fl
namespace Fl
open PySem PySem.Spec PyProof.Rows L2
/-! ### deeds on the flight -/
section
variable {K : PySem.W.Frag} {Ek : WX} {A : Ad} {δ : DEnv} {P : Post} {a : Fa} {S : Fs} {te ta tb : TE}
/-- high[g] = b -/
theorem xf_high {g : Int} {b : Bool} {j : Nat} (h : Ev K δ (flR A.C a S) te (.d (.bool b))) (h1 : Ev K δ (flR A.C a S) ta (.r a.h)) (h2 : Ev K δ (flR A.C a S) tb (.d (.int g))) (hj : ixN S.high.length g = some j) (n : P.nx δ (flR A.C a { S with high := S.high.set j b })) :
    XS K Ek δ (flR A.C a S) (tAsg te (gSub ta tb rSetL)) P := by
  refine x_setL (i := 1) (j := j) h h1 h2 rfl (by rw [List.length_map]; exact hj) ?_
  rw [← List.map_set]
  exact n
theorem xf_sides {u : Bool} (h1 : Ev K δ (flR A.C a S) ta (.r a.s)) (h : Ev K δ (flR A.C a S) te (.d (sd u))) (hz : S.sides.length < 50000) (n : P.nx δ (flR A.C a { S with sides := S.sides ++ [u] })) :
    XS K Ek δ (flR A.C a S) (tDrop (tBM K "list" rAppend ta (tCons te tNil))) P := by
  refine x_app (i := 2) h1 rfl h (by rw [List.length_map]; exact hz) ?_
  have e : S.sides.map sd ++ [sd u] = (S.sides ++ [u]).map sd := by rw [List.map_append]; rfl
  rw [e]
  exact n
theorem xf_done {b : Int} (h1 : Ev K δ (flR A.C a S) ta (.r a.d)) (h : Ev K δ (flR A.C a S) te (.d (.int b))) (hz : S.done.length < 50000) (n : P.nx δ (flR A.C a { S with done := S.done ++ [b] })) :
    XS K Ek δ (flR A.C a S) (tDrop (tBM K "list" rAppend ta (tCons te tNil))) P := by
  refine x_app (i := 4) h1 rfl h (by rw [List.length_map]; exact hz) ?_
  have e : S.done.map PyData.int ++ [.int b] = (S.done ++ [b]).map PyData.int := by rw [List.map_append]; rfl
  rw [e]
  exact n
theorem xf_put {b v : Int} (h1 : Ev K δ (flR A.C a S) ta (.r a.p)) (h2 : Ev K δ (flR A.C a S) tb (.d (.int b))) (h : Ev K δ (flR A.C a S) te (.d (.int v))) (hz : S.places.length < 50000) (n : P.nx δ (flR A.C a { S with places := pput S.places b v })) :
    XS K Ek δ (flR A.C a S) (sDPut ta tb te) P := by
  refine x_dput (i := 3) (k := .inl b) h h1 h2 rfl (by rw [encP_len]; exact hz) ?_
  rw [putD_P]
  exact n
theorem xf_pop {b v : Int} (h1 : Ev K δ (flR A.C a S) ta (.r a.p)) (h2 : Ev K δ (flR A.C a S) tb (.d (.int b))) (hv : plc S.places b = some v) (n : P.nx δ (flR A.C a { S with places := pdrop S.places b })) :
    XS K Ek δ (flR A.C a S) (tDrop (tDPop1 ta tb)) P := by
  refine x_dpop (i := 3) (k := .inl b) (d := .d (.int v)) h1 h2 rfl (by rw [valD_P, hv]; rfl) ?_
  rw [dropD_P]
  exact n
theorem xf_taken {t : Int} (fx : Fx K A) (h1 : Ev K δ (flR A.C a S) ta (.r a.f)) (h : Ev K δ (flR A.C a S) te (.d (.int t))) (n : P.nx δ (flR A.C a { S with taken := t })) : XS K Ek δ (flR A.C a S) (sFld K ta te "taken") P :=
  x_fld (i := 0) h h1 rfl (by show 6 < 1000; decide) n fx.cl fx.taken
theorem xf_given {t : Int} (fx : Fx K A) (h1 : Ev K δ (flR A.C a S) ta (.r a.f)) (h : Ev K δ (flR A.C a S) te (.d (.int t))) (n : P.nx δ (flR A.C a { S with given := t })) : XS K Ek δ (flR A.C a S) (sFld K ta te "given") P :=
  x_fld (i := 0) h h1 rfl (by show 6 < 1000; decide) n fx.cl fx.given
end
/-! ### deeds on the plain model -/
section
variable {K : PySem.W.Frag} {Ek : WX} {A : Ad} {δ : DEnv} {P : Post} {a : Fa} {S : Fs} {te ta tb : TE}
/-- high[g] = b -/
theorem xs_high {g : Int} {b : Bool} {j : Nat} (h : Ev K δ (stR a S) te (.d (.bool b))) (h1 : Ev K δ (stR a S) ta (.r a.h)) (h2 : Ev K δ (stR a S) tb (.d (.int g))) (hj : ixN S.high.length g = some j) (n : P.nx δ (stR a { S with high := S.high.set j b })) :
    XS K Ek δ (stR a S) (tAsg te (gSub ta tb rSetL)) P := by
  refine x_setL (i := 1) (j := j) h h1 h2 rfl (by rw [List.length_map]; exact hj) ?_
  rw [← List.map_set]
  exact n
theorem xs_sides {u : Bool} (h1 : Ev K δ (stR a S) ta (.r a.s)) (h : Ev K δ (stR a S) te (.d (sd u))) (hz : S.sides.length < 50000) (n : P.nx δ (stR a { S with sides := S.sides ++ [u] })) :
    XS K Ek δ (stR a S) (tDrop (tBM K "list" rAppend ta (tCons te tNil))) P := by
  refine x_app (i := 2) h1 rfl h (by rw [List.length_map]; exact hz) ?_
  have e : S.sides.map sd ++ [sd u] = (S.sides ++ [u]).map sd := by rw [List.map_append]; rfl
  rw [e]
  exact n
theorem xs_done {b : Int} (h1 : Ev K δ (stR a S) ta (.r a.d)) (h : Ev K δ (stR a S) te (.d (.int b))) (hz : S.done.length < 50000) (n : P.nx δ (stR a { S with done := S.done ++ [b] })) :
    XS K Ek δ (stR a S) (tDrop (tBM K "list" rAppend ta (tCons te tNil))) P := by
  refine x_app (i := 4) h1 rfl h (by rw [List.length_map]; exact hz) ?_
  have e : S.done.map PyData.int ++ [.int b] = (S.done ++ [b]).map PyData.int := by rw [List.map_append]; rfl
  rw [e]
  exact n
theorem xs_put {b v : Int} (h1 : Ev K δ (stR a S) ta (.r a.p)) (h2 : Ev K δ (stR a S) tb (.d (.int b))) (h : Ev K δ (stR a S) te (.d (.int v))) (hz : S.places.length < 50000) (n : P.nx δ (stR a { S with places := pput S.places b v })) :
    XS K Ek δ (stR a S) (sDPut ta tb te) P := by
  refine x_dput (i := 3) (k := .inl b) h h1 h2 rfl (by rw [encP_len]; exact hz) ?_
  rw [putD_P]
  exact n
theorem xs_pop {b v : Int} (h1 : Ev K δ (stR a S) ta (.r a.p)) (h2 : Ev K δ (stR a S) tb (.d (.int b))) (hv : plc S.places b = some v) (n : P.nx δ (stR a { S with places := pdrop S.places b })) :
    XS K Ek δ (stR a S) (tDrop (tDPop1 ta tb)) P := by
  refine x_dpop (i := 3) (k := .inl b) (d := .d (.int v)) h1 h2 rfl (by rw [valD_P, hv]; rfl) ?_
  rw [dropD_P]
  exact n
theorem xs_drawn {t : Int} (h1 : Ev K δ (stR a S) ta (.r a.f)) (h : Ev K δ (stR a S) te (.d (.int t))) (n : P.nx δ (stR a { S with taken := t })) : XS K Ek δ (stR a S) (sDPut ta (tC (.str "drawn")) te) P :=
  x_dput (i := 0) (k := .inr "drawn") h h1 ev_str rfl (by show 6 < 50000; decide) n
theorem xs_out {t : Int} (h1 : Ev K δ (stR a S) ta (.r a.f)) (h : Ev K δ (stR a S) te (.d (.int t))) (n : P.nx δ (stR a { S with given := t })) : XS K Ek δ (stR a S) (sDPut ta (tC (.str "out")) te) P :=
  x_dput (i := 0) (k := .inr "out") h h1 ev_str rfl (by show 6 < 50000; decide) n
end
/-! ### the plain model is made -/
theorem tP {v : V} {tv : TE} {r : List (TE × TE)} {σ : L2.St} {H : Hp} {Q : List (V × V) → Hp → Prop} (h : tv σ H fun y H2 => tPairs r σ H2 fun ps H3 => Q ((v, y) :: ps) H3) : tPairs ((tC v, tv) :: r) σ H Q := h
section
variable {K : PySem.W.Frag} {Ek : WX} {δ : DEnv} {R : Res} {te : TE} {N : D → Res → Prop} {M : Value → Res → Prop}
theorem ee_new {lv : List Bool} (h : ∀ R, EvF K δ R te (lv.map .bool)) (n : ∀ a : Fa, N (.r a.f) (stR a ⟨lv, [], [], [], 0, 0⟩ ++ R)) :
    EvE K Ek δ R (tDisp (((tC (.str "high")), te) :: ((tC (.str "sides")), (tLst tNil)) :: ((tC (.str "places")), tDNewK) :: ((tC (.str "through")), (tLst tNil)) :: ((tC (.str "drawn")), (tC (.int 0))) :: ((tC (.str "out")), (tC (.int 0))) :: [])) N M := fun G H σ Q ok en k _ => fun p hp => by
  obtain ⟨ok1, l1⟩ := ok.laid (o := .dK []) (q := .dic []) hp ⟨[], upd_same, Nat.zero_le _, .nil⟩
  refine tP (h _ G _ σ _ ok1 (en.mono l1.g) fun ah G2 H2 ok2 l2 => ?_)
  refine tP ((evf_lst (K := K) (δ := δ) ex_nil (by decide)) G2 H2 σ _ ok2 ((en.mono l1.g).mono l2.g) fun as G3 H3 ok3 l3 => ?_)
  refine tP fun ap hap => ?_
  obtain ⟨ok4, l4⟩ := ok3.laid (o := .dK []) (q := .dic []) hap ⟨[], upd_same, Nat.zero_le _, .nil⟩
  refine tP ((evf_lst (K := K) (δ := δ) ex_nil (by decide)) G3 _ σ _ ok4 (((en.mono l1.g).mono l2.g).mono l3.g) fun ad G5 H5 ok5 l5 => ?_)
  have le : Le G H R G5 H5 _ := (((l1.trans l2).trans l3).trans l4).trans l5
  obtain ⟨vs, e1, _, fv⟩ := ok5.at (i := 4) (a := p) (p := .dic []) rfl
  cases fv
  refine ⟨e1, [(.inr "high", .ref ah), (.inr "sides", .ref as), (.inr "places", .ref ap), (.inr "through", .ref ad), (.inr "drawn", .int 0), (.inr "out", .int 0)], rfl, by show 6 ≤ 15; decide, ?_⟩
  let a : Fa := ⟨p, ah, as, ap, ad⟩
  obtain ⟨ok6, l6⟩ := ok5.write (i := 4) (a := p) (p := .dic []) (o := .dK [(.inr "high", .ref ah), (.inr "sides", .ref as), (.inr "places", .ref ap), (.inr "through", .ref ad), (.inr "drawn", .int 0), (.inr "out", .int 0)]) (q := .dic (dicF a ⟨lv, [], [], [], 0, 0⟩)) rfl
    ⟨_, upd_same, by show 6 ≤ 50000; decide, .cons (d := .r ah) rfl (.cons (d := .r as) rfl (.cons (d := .r ap) rfl (.cons (d := .r ad) rfl (.cons (d := .d (.int 0)) (show Hv _ _ _ from .int 0) (.cons (d := .d (.int 0)) (show Hv _ _ _ from .int 0) .nil)))))⟩
  have pr : ([(ad, RO.lst []), (ap, .dic []), (as, .lst []), (ah, .lst (lv.map .bool)), (p, .dic (dicF a ⟨lv, [], [], [], 0, 0⟩))] ++ R).Perm (stR a ⟨lv, [], [], [], 0, 0⟩ ++ R) := List.Perm.append_right R (List.reverse_perm (stR a ⟨lv, [], [], [], 0, 0⟩))
  exact k (.r p) _ (.ref p) G5 _ (n a) (ok6.perm pr) ((le.trans l6).permR pr) rfl
end
theorem ixN_nat {n k : Nat} (h : k < n) : ixN n (k : Int) = some k := by
  unfold ixN
  rw [if_pos (by omega), if_pos (by omega)]
  simp
/-- folds, turn by turn -/
def foldAt {α β : Type} (f : α → β → α) (z : α) (l : List β) : Nat → α := fun i => (l.take i).foldl f z
theorem foldAt_step {α β : Type} {f : α → β → α} {z : α} {l : List β} {i : Nat} {x : β} (h : l[i]? = some x) : foldAt f z l (i + 1) = f (foldAt f z l i) x := by
  unfold foldAt
  rw [List.take_succ, h, List.foldl_append]
  rfl
theorem foldAt_all {α β : Type} {f : α → β → α} {z : α} {l : List β} : foldAt f z l l.length = l.foldl f z := by
  unfold foldAt
  rw [List.take_length]
/-! ### a new list grows and is thrown away -/
theorem x_appF {K : PySem.W.Frag} {Ek : WX} {R : Res} {δ : DEnv} {ta te : TE} {P : Post} {ds : List PyData} {w : PyData} (h1 : EvF K δ R ta ds) (h : ∀ R, Ev K δ R te (.d w)) (hz : ds.length < 50000) (n : P.nx δ R) :
    XS K Ek δ R (tDrop (tBM K "list" rAppend ta (tCons te tNil))) P := fun G H σ D ok en c => h1 G H σ _ ok en fun a G1 H1 ok1 l1 => by
  obtain ⟨ws, e1, _, _⟩ := ok1.at (i := 0) rfl
  refine ⟨.inl ⟨rfl, ws, SqL.of e1⟩, h _ G1 H1 σ _ ok1 (en.mono l1.g) fun u G2 H2 ok2 l2 q2 => ?_⟩
  obtain ⟨vs, e2, e3, e4⟩ := ok2.at (i := 0) (a := a) (p := .lst ds) rfl
  have el := e4.len
  refine ⟨a, vs, u, rfl, rfl, e2, lim_lt e3, ?_⟩
  obtain ⟨ok3, l3⟩ := ok2.write (i := 0) (a := a) (p := .lst ds) (o := .lst (vs ++ [u])) (q := .lst (ds ++ [w])) rfl ⟨_, upd_same, by rw [List.length_append]; show vs.length + 1 ≤ 50000; omega, e4.app (.cons q2 .nil)⟩
  have ok4 : Ok K G2 _ R := ok3.sub (fun p hp => List.mem_cons_of_mem _ hp) (ok3.nd.sublist (List.sublist_cons_self _ _))
  exact c.nx δ R σ G2 _ n ok4 (((l1.trans l2).trans l3).subR fun p hp => List.mem_cons_of_mem _ hp) ((en.mono l1.g).mono l2.g)
theorem plain_nones (n : Nat) : (PyData.list (List.replicate n PyData.none)).plain = true := by
  show PyData.plainAll (List.replicate n PyData.none) = true
  induction n with
  | zero => rfl
  | succ n ih =>
    rw [List.replicate_succ]
    show (PyData.plain .none && PyData.plainAll (List.replicate n PyData.none)) = true
    rw [ih]; rfl
theorem ev_tst {K : PySem.W.Frag} {R : Res} {δ : DEnv} {te : TE} {b : Bool} (h : Ev K δ R te (.d (.bool b))) : EvT K δ R (tTest te) b := et_test h
/-! ### a list of new lists -/
/-- c, a list of the lists at as -/
def ownT (c : Addr) (as : List Addr) (xss : List (List PyData)) : Res := (c, .lsr as) :: (as.zip (xss.map RO.lst))
section
variable {K : PySem.W.Frag} {Ek : WX} {G H G' H' : Hp} {R : Res} {δ : DEnv} {te tb : TE} {t : TS} {P : Post}
theorem x_nd (h : (adr R).Nodup → XS K Ek δ R t P) : XS K Ek δ R t P := fun G H σ D ok en c => h ok.nd G H σ D ok en c
theorem frzs : ∀ {as : List Addr} {xss : List (List PyData)} {G : Hp} {R : Res}, as.length = xss.length → Ok K G H (as.zip (xss.map RO.lst) ++ R) → ∃ G', Ok K G' H R ∧ Le G H (as.zip (xss.map RO.lst) ++ R) G' H R ∧ Hvs G' (as.map .ref) (xss.map .list) ∧ Gx G G'
  | [], [], G, R, _, ok => ⟨G, ok, .refl, .nil, Gx.refl _⟩
  | [], _ :: _, _, _, h, _ => by simp at h
  | _ :: _, [], _, _, h, _ => by simp at h
  | a :: as, xs :: xss, G, R, h, ok => by
    obtain ⟨G1, ok1, l1, hv, g1⟩ := Ok.frz (R := as.zip (xss.map RO.lst) ++ R) ok
    obtain ⟨G2, ok2, l2, hvs, g2⟩ := frzs (as := as) (xss := xss) (by simpa using h) ok1
    exact ⟨G2, ok2, l1.trans l2, .cons (Hv.mono g2 _ hv) hvs, g1.trans g2⟩
theorem Ok.frzT {c : Addr} {as : List Addr} {xss : List (List PyData)} (hl : as.length = xss.length) (ok : Ok K G H (ownT c as xss ++ R)) : ∃ G', Ok K G' H R ∧ Le G H (ownT c as xss ++ R) G' H R ∧ Hv G' (.ref c) (.list (xss.map .list)) ∧ Gx G G' := by
  have pr : (ownT c as xss ++ R).Perm (as.zip (xss.map RO.lst) ++ ((c, .lsr as) :: R)) := (List.perm_middle (a := (c, RO.lsr as))).symm
  have ok1 := ok.perm pr
  obtain ⟨G1, ok2, l2, hvs, g1⟩ := frzs hl ok1
  obtain ⟨e1, e2⟩ := ok2.at (i := 0) (a := c) (p := .lsr as) rfl
  have ok3 : Ok K G1 H ((c, .lst (xss.map .list)) :: R) := ⟨ok2.ex, fun p hp => by
    rcases List.mem_cons.mp hp with e | hp
    · subst e
      exact ⟨(ok2.own _ List.mem_cons_self).1, _, e1, by rw [List.length_map]; exact e2, hvs⟩
    · exact ok2.own p (List.mem_cons_of_mem _ hp), ok2.nd⟩
  obtain ⟨G2, ok4, l4, hv, g2⟩ := ok3.frz
  have l2' : Le G H (ownT c as xss ++ R) G1 H ((c, .lst (xss.map .list)) :: R) := ⟨l2.g, fun a o e n => e, fun a e => (l2.n a e).imp id fun q => q.imp id fun m => by
    exact adr_sub (fun p hp => pr.symm.subset hp) m, fun a m => by
    rcases l2.r a m with z | z
    · exact .inl (adr_sub (fun p hp => pr.symm.subset hp) z)
    · exact .inr z, fun a e => e⟩
  exact ⟨G2, ok4, l2'.trans l4, hv, g1.trans g2⟩
theorem x_frzT {i : Nat} {c : Addr} {as : List Addr} {xss : List (List PyData)} (hl : as.length = xss.length) (hi : δ[i]? = some (some (.r c))) (h : XS K Ek (δ.set i (some (.d (.list (xss.map .list))))) R t P) : XS K Ek δ (ownT c as xss ++ R) t P := fun G H σ D ok en k => by
  obtain ⟨G', ok', le, hv, gx⟩ := ok.frzT hl
  obtain ⟨v, e, q⟩ := en.get i _ hi
  cases (show v = .ref c from q)
  refine h G' H σ D ok' ⟨by rw [List.length_set]; exact en.len, fun j d hj => ?_⟩ (k.mono le)
  by_cases z : i = j
  · subst z
    obtain ⟨hlt, _⟩ := List.getElem?_eq_some_iff.mp hi
    rw [List.getElem?_set_self hlt] at hj
    cases hj
    exact ⟨_, e, hv⟩
  · rw [List.getElem?_set_ne z] at hj
    exact (en.mono gx).get j d hj
theorem mem_set_other {R : Res} {i : Nat} {b : Addr} {o q : RO} {p : Addr × RO} (h : R[i]? = some (b, o)) (hp : p ∈ R) (ne : p.1 ≠ b) : p ∈ R.set i (b, q) := by
  obtain ⟨j, hj⟩ := List.getElem?_of_mem hp
  have z : i ≠ j := by
    intro e
    subst e
    rw [h] at hj
    cases hj
    exact ne rfl
  refine List.mem_of_getElem? (i := j) ?_
  rw [List.getElem?_set_ne z]
  exact hj
/-- a loop over an own list of own lists -/
theorem x_forR {j : Nat} {N : D → Res → Prop} {M : Value → Res → Prop} (h : EvE K Ek δ R te N M)
    (hN : ∀ d R', N d R' → ∃ (c : Addr) (as : List Addr) (I : Nat → DEnv → Res → Prop), d = .r c ∧ I 0 δ R' ∧ (∀ i δ' R', I i δ' R' → (c, RO.lsr as) ∈ R') ∧
      (∀ i b δ' R', as[i]? = some b → I i δ' R' → XS K Ek (δ'.set j (some (.r b))) R' t { P with nx := I (i + 1), ct := I (i + 1), bk := P.nx }) ∧ (∀ δ' R', I as.length δ' R' → P.nx δ' R')) (m : ∀ c R', M c R' → P.xe c δ R') :
    XS K Ek δ R (tFor (iList K te) (gName j) t) P := fun G H σ D ok en k => h G H σ _ ok en (fun d R1 v G1 H1 nn ok1 l1 hv => by
  obtain ⟨c, as, I, rfl, h0, hm, hs, hd⟩ := hN d R1 nn
  cases (show v = .ref c from hv)
  have at_ : ∀ {G2 H2 : Hp} {R2 : Res} {i : Nat} {δ2 : DEnv}, Ok K G2 H2 R2 → I i δ2 R2 → H2 c = some (.lst (as.map .ref)) := fun ok2 hI => by
    obtain ⟨n, hn⟩ := List.getElem?_of_mem (hm _ _ _ hI)
    exact (ok2.at hn).1
  refine ⟨c, rfl, ⟨_, SqL.of (at_ ok1 h0)⟩, ?_⟩
  refine ⟨fun i m σ2 H2 => m = as.length - i ∧ i ≤ as.length ∧ ∃ δ2 R2 G2, I i δ2 R2 ∧ Ok K G2 H2 R2 ∧ Le G H R G2 H2 R2 ∧ DE K G2 σ2 δ2, ⟨as.length, by simp, Nat.zero_le _, δ, R1, G1, h0, ok1, l1, en.mono l1.g⟩, ?_⟩
  rintro i m σ2 H2 ⟨rfl, hle, δ2, R2, G2, hI, ok2, l2, en2⟩
  have hc := at_ ok2 hI
  have sq := SqL.of (K := K) hc
  by_cases hlt : i < as.length
  · obtain ⟨b, hb⟩ : ∃ b, as[i]? = some b := ⟨as[i], List.getElem?_eq_getElem hlt⟩
    have hb2 : (as.map V.ref)[i]? = some (.ref b) := by rw [List.getElem?_map, hb]; rfl
    refine .inr ⟨⟨_, _, sq, hb2⟩, fun σ' H' => ∃ δ3 R3 G3, I (i + 1) δ3 R3 ∧ Ok K G3 H' R3 ∧ Le G H R G3 H' R3 ∧ DE K G3 σ' δ3, fun σ' H' p => ⟨as.length - (i + 1), by omega, rfl, hlt, p⟩, fun x H3 ⟨y1, y2⟩ => ?_⟩
    subst y1
    have ex := y2 _ sq
    rw [hb2] at ex
    cases ex
    have xs := hs i b δ2 R2 hb hI
    have c2 := k.mono l2
    refine xs G2 H3 _ _ ok2 (en2.set (d := .r b) rfl) ⟨fun a b e f g' p q' l w' => ⟨a, b, f, p, q', l2.trans l, w'⟩, c2.rt, fun a b e f g' p q' l w' => c2.nx a b e f g' p q' l w', fun a b e f g' p q' l w' => ⟨a, b, f, p, q', l2.trans l, w'⟩, c2.xe⟩
  · have e : i = as.length := by omega
    subst e
    exact .inl ⟨⟨_, sq, by rw [List.length_map]; exact Nat.le_refl _⟩, k.nx δ2 R2 σ2 G2 H2 (hd δ2 R2 hI) ok2 l2 en2⟩) fun c R1 G1 H1 mm ok1 l1 => k.xe c δ R1 σ G1 H1 (m c R1 mm) ok1 l1 (en.mono l1.g)
end
/-! ### tests and sums that change what is owned -/
section
variable {K : PySem.W.Frag} {Ek : WX} {R : Res} {δ : DEnv} {ta tb te : TE} {t u : TS} {P : Post} {r : R2} {N N1 : D → Res → Prop} {M : Value → Res → Prop}
theorem ee_op2 (ha : EvE K Ek δ R ta N1 M) (hb : ∀ d R1, N1 d R1 → ∃ N2, EvE K Ek δ R1 tb N2 M ∧ ∀ d2 R2, N2 d2 R2 → ∃ z, RV K R2 r d d2 z ∧ N z R2) : EvE K Ek δ R (tOp r ta tb) N M := fun G H σ Q ok en k j =>
  ha G H σ _ ok en (fun d R1 v G1 H1 n1 ok1 l1 h1 => by
    obtain ⟨N2, eb, hr⟩ := hb d R1 n1
    refine eb G1 H1 σ _ ok1 (en.mono l1.g) (fun d2 R2 w G2 H2 n2 ok2 l2 h2 => ?_) fun c R2 G2 H2 m ok2 l2 => j c R2 G2 H2 m ok2 (l1.trans l2)
    obtain ⟨z, rv, nz⟩ := hr d2 R2 n2
    exact rv G2 H2 v w Q ok2 (h1.mono l2.g) h2 fun u G3 H3 ok3 l3 h3 => k z R2 u G3 H3 nz ok3 ((l1.trans l2).trans l3) h3) fun c R1 G1 H1 m ok1 l1 => j c R1 G1 H1 m ok1 l1
theorem x_ifE (h : EvE K Ek δ R te N M) (n : ∀ d R', N d R' → ∃ b, d = .d (.bool b) ∧ (b = true → XS K Ek δ R' t P) ∧ (b = false → XS K Ek δ R' u P)) (m : ∀ c R', M c R' → P.xe c δ R') : XS K Ek δ R (tIfS (tTest te) t u) P := fun G H σ D ok en k =>
  h G H σ _ ok en (fun d R1 v G1 H1 nn ok1 l1 hv => by
    obtain ⟨b, rfl, h1, h2⟩ := n d R1 nn
    cases (show Hv G1 v (.bool b) from hv)
    refine ⟨b, rfl, ?_⟩
    cases b with
    | true =>
      rw [if_pos rfl]
      exact h1 rfl G1 H1 σ D ok1 (en.mono l1.g) (k.mono l1)
    | false =>
      rw [if_neg Bool.false_ne_true]
      exact h2 rfl G1 H1 σ D ok1 (en.mono l1.g) (k.mono l1)) fun c R1 G1 H1 mm ok1 l1 => k.xe c δ R1 σ G1 H1 (m c R1 mm) ok1 l1 (en.mono l1.g)
theorem EvE.nd (h : EvE K Ek δ R te N M) : EvE K Ek δ R te (fun d R' => N d R' ∧ (adr R').Nodup) M := fun G H σ Q ok en k j =>
  h G H σ Q ok en (fun d R' v G' H' n ok' le hv => k d R' v G' H' ⟨n, ok'.nd⟩ ok' le hv) j
theorem XS.nxSub {Nx : DEnv → Res → Prop} (h : XS K Ek δ R t { P with nx := Nx }) (hn : ∀ δ' R', Nx δ' R' → ∃ R0 : Res, (∀ p ∈ R0, p ∈ R') ∧ ((adr R').Nodup → (adr R0).Nodup) ∧ P.nx δ' R0) : XS K Ek δ R t P := fun G H σ D ok en k =>
  h G H σ D ok en ⟨fun δ' R' σ' G' H' p ok' le w => by
    obtain ⟨R0, s, nd, q⟩ := hn δ' R' p
    exact k.nx δ' R0 σ' G' H' q (ok'.sub s (nd ok'.nd)) (le.subR s) w, k.rt, k.bk, k.ct, k.xe⟩
end
end Fl
/-! list(reversed(list)), sep.join(reversed(list)). -/
namespace Fl
open PySem PySem.Spec PyProof.Rows L2
section
variable {prog : Program} {w : World} {A : Around} {E : Value → Shared → Prop} {s : Shared}
theorem wpAny_extend_rev {R : Result → Shared → Prop} {it l : Addr} {items : Array Value} (hh : A.handled = none) (hit : s.heap.IsRevIter it l ((items.size : Int) - 1)) (hl : s.heap.IsList l items) (hne : l ≠ it) (hn : items.size ≤ sizeLine) (S : Addr) (res : Value) (c₀ : Nat)
    (hSi : S ≠ it) (hSl : S ≠ l) (hS : s.heap.get? S = some { cls := .type "list", data := .seq #[] c₀ })
    (hR : ∀ h' tk acc' c', (∀ b o, b ≠ S → b ≠ it → s.heap.get? b = some o → h'.get? b = some o) → h'.get? S = some { cls := .type "list", dict := none, data := .seq acc' c', slots := #[] } →
      ItemsOf (fun i v => items[items.size - 1 - i]? = some v) acc' items.size → R (.ok (.ret res)) { s with heap := h', toks := tk }) :
    wpAny (model prog w) A.in1 (Builtin.List.listExtendWith (.ref S) (.ref it) res)
      (fun fin s' => match fin with | .done f => R (.ok f) s' | .again c' => c'.quiet = true ∧ codeAny (model prog w) A c' R s') (fun e s' => R (.error e) s') s := by
  have W := (Walks.listRev (prog := prog) (w := w) (A := A.in1) hh it l hne items).toS
  have hSf : S ∉ [it, l] := by simp only [List.mem_cons, List.not_mem_nil, or_false, not_or]; exact ⟨hSi, hSl⟩
  have hT : s.TypeIs (.ref it) "list_reverseiterator" := Heap.IsRevIter.typeIs hit
  have h1 : Builtin.List.listSameRef (.ref S) (.ref it) = false := by simp [Builtin.List.listSameRef, hSi]
  unfold Builtin.List.listExtendWith
  refine wpAny_bind (wpAny_typeOf hT ?_)
  rw [if_neg (by rw [h1]; decide)]
  refine wpAny_bind (wpAny_pyIter_revIter hit ?_)
  refine wpAny_bind (wpAny_holding ?_)
  unfold Builtin.List.listLengthHint
  refine wpAny_bind (wpAny_specialOf hT RT.nolen_lri ?_)
  show wpAny _ A.in1 (specialOf (Value.ref it) (Str.ofString "__length_hint__") >>= _) _ _ _
  refine wpAny_bind (wpAny_specialOf hT RT.hint_lri ?_)
  generalize hid : ("list_reverseiterator.__length_hint__" : String) = id0
  wp_delta
  rw [show splitId id0 = some ("list_reverseiterator", "__length_hint__") from by subst hid; decide +kernel]
  subst hid
  refine wpAny_bind (wpAny_isInstance (b := true) hT (by rw [isSubtype_type]; kernel_rfl) ?_)
  refine wpAny_pure ?_
  rw [if_neg (by decide)]
  have e0 : ((items.size : Nat) : Int) - 1 - ((0 : Nat) : Int) = (items.size : Int) - 1 := by omega
  refine wpAny_pure ⟨plainId_quiet F.plain_extend_loop _, codeAny_extend_loopS W hn _ hSf _ items.size 0 _ _ _ rfl (Nat.zero_le _) ⟨Nat.zero_le _, by rw [e0]; exact hit, hl⟩ hS (ItemsOf.nil _) fun s' acc' c' hm hS' hacc => ?_⟩
  rw [Moved.eq_with hm]
  refine hR s'.heap s'.toks acc' c' (fun b o hb hb2 e => hm.heap b o (fun hmem => ?_) e) hS' hacc
  rcases List.mem_cons.mp hmem with e' | hmem
  · exact hb e'
  · exact hb2 (List.mem_singleton.mp hmem)
theorem wpAny_list_init_rev {R : Result → Shared → Prop} {it l : Addr} {items : Array Value} (hh : A.handled = none) (hit : s.heap.IsRevIter it l ((items.size : Int) - 1)) (hl : s.heap.IsList l items) (hne : l ≠ it) (hn : items.size ≤ sizeLine) (S : Addr)
    (hSi : S ≠ it) (hSl : S ≠ l) (hS : s.heap.get? S = some { cls := .type "list", data := .seq #[] })
    (hR : ∀ h' tk acc' c', (∀ b o, b ≠ S → b ≠ it → s.heap.get? b = some o → h'.get? b = some o) → h'.get? S = some { cls := .type "list", dict := none, data := .seq acc' c', slots := #[] } →
      ItemsOf (fun i v => items[items.size - 1 - i]? = some v) acc' items.size → R (.ok (.ret .none)) { s with heap := h', toks := tk }) :
    wpAny (model prog w) A.in1 (Builtin.«list.__init__» ⟨[.ref S, .ref it], []⟩)
      (fun fin s' => match fin with | .done f => R (.ok f) s' | .again c' => c'.quiet = true ∧ codeAny (model prog w) A c' R s') (fun e s' => R (.error e) s') s := by
  show wpAny _ _ (do let old ← Builtin.List.listItems (.ref S); Builtin.List.listUpdate (.ref S) (fun _ => #[]); letGo old.toList.reverse; Builtin.List.listExtendWith (.ref S) (.ref it) .none) _ _ s
  refine wpAny_bind ?_
  unfold Builtin.List.listItems
  refine wpAny_bind (wpAny_seqItems hS rfl (wpAny_pure ?_))
  show wpAny _ _ (updateSeq S (fun _ => #[]) >>= fun _ => letGo (#[] : Array Value).toList.reverse >>= fun _ => Builtin.List.listExtendWith (.ref S) (.ref it) .none) _ _ s
  refine wpAny_bind (wpAny_updateSeq hS rfl ?_)
  have hS₂ := Heap.get?_update_self (Obj.mapSeq (fun _ => (#[] : Array Value))) hS rfl
  have oth : ∀ b o, b ≠ S → s.heap.get? b = some o → (s.heap.update S (Obj.mapSeq (fun _ => (#[] : Array Value)))).get? b = some o :=
    fun b o hb e => (Heap.get?_update_other _ _ (Ne.symm hb)).trans e
  refine wpAny_bind (wpAny_letGo ?_)
  refine wpAny_extend_rev hh (hit.at fun o e => oth it o (Ne.symm hSi) e) (hl.at fun o e => oth l o (Ne.symm hSl) e) hne hn S .none _ hSi hSl hS₂ fun h' tk acc' c' hk hS' hacc => ?_
  exact hR h' tk acc' c' (fun b o hb hb2 e => hk b o hb hb2 (oth b o hb e)) hS' hacc
theorem call_list_rev {Q : Value → Shared → Prop} {it l : Addr} {items : Array Value} (hh : A.handled = none) (hit : s.heap.IsRevIter it l ((items.size : Int) - 1)) (hl : s.heap.IsList l items) (hne : l ≠ it) (hn : items.size ≤ sizeLine)
    (hQ : ∀ h' tk acc' c', (∀ b o, b ≠ it → s.heap.get? b = some o → h'.get? b = some o) →
      h'.get? s.heap.objs.size = some { cls := .type "list", dict := none, data := .seq acc' c', slots := #[] } → ItemsOf (fun i v => items[items.size - 1 - i]? = some v) acc' items.size → Q (.ref s.heap.objs.size) { s with heap := h', toks := tk }) :
    wpAny (model prog w) A (call (.type "list") [.ref it]) Q E s := by
  obtain ⟨oi, hoi, _⟩ := id hit
  obtain ⟨ol, hol, _⟩ := id hl
  refine callType_codes (Q₁ := fun obj s₁ => obj = .ref s.heap.objs.size ∧ s₁ = { s with heap := s.heap.push { cls := .type "list", data := .seq #[] } }) F.called_list (F.typeCall_list_1 _) F.entry_list_init
    (code_list_new _ ⟨rfl, rfl⟩) fun obj s₁ h₁ => ?_
  obtain ⟨rfl, rfl⟩ := h₁
  have hS : (s.heap.push { cls := .type "list", data := .seq #[] }).get? s.heap.objs.size = some { cls := .type "list", data := .seq #[] } := Heap.get?_push_size _ rfl
  refine ⟨⟨_, hS, rfl⟩, F.args_list_init_2 _ _, wpAny_list_init_rev (A := A.in1) hh (hit.at fun o e => Heap.get?_push_of_some _ e) (hl.push _) hne hn _ (Nat.ne_of_gt (Heap.lt_size hoi)) (Nat.ne_of_gt (Heap.lt_size hol)) hS fun h' tk acc' c' hk hS' hacc => ?_⟩
  exact ⟨rfl, hQ h' tk acc' c' (fun b o hb e => hk b o (Nat.ne_of_lt (Heap.lt_size e)) hb (Heap.get?_push_of_some _ e)) hS' hacc⟩
end
/-- list(reversed(x)), x a list: a new list -/
def tLstRev (K : PySem.W.Frag) (te : TE) : TE := fun σ H Q => te σ H fun v H1 => ∃ (a : Addr) (xs : List V), v = .ref a ∧ SqL K H1 a xs ∧ ∀ q, H1 q = none → Q (.ref q) (upd H1 q (.lst xs.reverse))
section
variable {X : Cx}
theorem pe_lstRev {e : Expr} {te : TE} {p p2 pos pos2 : Pos} (hc : X.calm = true) (hg : Gl X "list") (hm : X.mg "list" = none) (hg2 : Gl X "reversed") (hm2 : X.mg "reversed" = none) (he : PE X e te)
    (hs : starEach [e] X.env = (false, eval e X.env) :: starEach [] X.env := by rfl)
    (hs2 : starEach [.Call (.Name "reversed" p2) [e] [] pos2] X.env = (false, eval (.Call (.Name "reversed" p2) [e] [] pos2) X.env) :: starEach [] X.env := by rfl) :
    PE X (.Call (.Name "list" p) [.Call (.Name "reversed" p2) [e] [] pos2] [] pos) (tLstRev X.K te) := by
  refine ⟨fun pins s σ H Q I h => ?_⟩
  refine Call_ (ld_blt I hg hm boot_list (PyProof.Rows.callWith_type1 (args_cons (Call_ (ld_blt I hg2 hm2 PyProof.Rows.boot_reversed (PyProof.Rows.callWith_type1 (args_cons (thn (he.run pins s σ H _ I h) fun u s1 ⟨v, H1, I1, r1, q1⟩ => args_nil ?_) hs) hs rfl))) hs2) hs2 rfl))
  obtain ⟨a, xs, ev, hq, q⟩ := q1
  subst ev
  obtain rfl : u = Value.ref a := r1
  obtain ⟨its, rv, p', hz⟩ := I1.list hq
  refine call_reversed_list p'.isList ?_
  refine args_nil ?_
  have hl := p'.isList
  obtain ⟨ol, hol, _⟩ := id hl
  have hne : a ≠ s1.heap.objs.size := Nat.ne_of_lt (Heap.lt_size hol)
  have hn : its.toArray.size ≤ sizeLine := by rw [List.size_toArray, ← rv.length]; exact hz
  refine call_list_rev (s := { s1 with heap := s1.heap.push (revObj a ((its.toArray.size : Int) - 1)) }) (I1.ok.hd hc) ⟨_, Heap.get?_push_size _ rfl, rfl, rfl⟩ (hl.push _) hne hn fun h' tk acc c' hk e' hi => ?_
  have k0 : ∀ b o, s1.heap.get? b = some o → h'.get? b = some o := fun b o e => hk b o (Nat.ne_of_lt (Heap.lt_size e)) (Heap.get?_push_of_some _ e)
  have big : s1.heap.objs.size ≤ (s1.heap.push (revObj a ((its.toArray.size : Int) - 1))).objs.size := by
    show _ ≤ (s1.heap.objs.push _).size
    rw [Array.size_push]; omega
  refine ⟨.ref (s1.heap.push (revObj a ((its.toArray.size : Int) - 1))).objs.size, upd H1 (s1.heap.push (revObj a ((its.toArray.size : Int) - 1))).objs.size (.lst xs.reverse), I1.laid k0 big (show ObjOk X.prog X.w _ _ _ (.lst xs.reverse) from ⟨by rw [List.length_reverse]; exact hz, acc.toList, c', RT.vals_rev rv hi, ?_⟩), rfl, q _ (I1.hok.fresh big)⟩
  rw [Array.toArray_toList]; exact e'
end
section
open MpR
variable {prog : Program} {w : World} {A : Around} {E : Value → Shared → Prop} {s : Shared}
theorem join_rev {x : Str} {t : Tok} {ys : List Str} {it l : Addr} {items : Array Value} {Q : Value → Shared → Prop} (hh : A.handled = none) (hit : s.heap.IsRevIter it l ((items.size : Int) - 1)) (hl : s.heap.IsList l items) (hne : l ≠ it) (hn : items.size ≤ sizeLine)
    (hP : ∀ acc : Array Value, ItemsOf (fun i v => items[items.size - 1 - i]? = some v) acc items.size → StrsAre acc.toList ys) (hok : (ys.map (·.length)).sum + ys.length * x.length ≤ 16777216)
    (hq : ∀ h' t' k, (∀ b o, b ≠ it → s.heap.get? b = some o → h'.get? b = some o) → Q (.str (Txt.join x ys) t') { s with heap := h', toks := k }) :
    wpAny (model prog w) A (call (.builtin "str.join") [.str x t, .ref it]) Q E s := by
  have hT : s.TypeIs (.ref it) "list_reverseiterator" := Heap.IsRevIter.typeIs hit
  have hh1 : A.in1.handled = none := hh
  refine wpAny_call (codeAny_call_builtin F.slot_str_join.plain F.entry_str_join (F.slot_str_join.check _ _ _ _ _ _ _ _ (typeIs_str _ _ _) (F.args_str_join_2 _ _) ?_))
  rw [join_tree_other]
  refine wpAny_bind (wpAny_typeOf hT ?_)
  show wpAny _ A.in1 ((pyIter (.ref it)).tryCatch _ >>= fun it => collect it >>= fun items => joinTail x items) _ _ s
  refine wpAny_bind (wpAny_tryCatch (wpAny_pyIter_revIter hit ?_))
  refine wpAny_bind (RT.collect_rev hh1 hit hl hne hn fun h' tk acc hk hacc => ?_)
  obtain ⟨l, hl, ht⟩ := strsAre_values (hP acc hacc)
  subst ht
  rw [hl]
  have hok' := joinOk_of hok
  unfold JoinOk at hok'
  rw [Bool.not_eq_true'] at hok'
  have g : Gives (joinTail x (strValues l)) (joinMade x l) := by
    have g0 := gives_joinTail x l hok'
    cases l with
    | nil => exact g0
    | cons p r => cases r with
      | nil => exact g0
      | cons q r' => exact g0
  exact g prog w A (wants Q E) _ (post_join l ⟨joinFit_length hok', fun t' k => hq h' t' k hk⟩)
end
/-- sep.join(reversed(x)), x a list of texts -/
def tJoinRev (K : PySem.W.Frag) (to te : TE) : TE := fun σ H Q => to σ H fun x H1 => (∃ a, x = .str a) ∧ te σ H1 fun u H2 => ∃ (a : Str) (p : Addr) (ys : List Str), x = .str a ∧ u = .ref p ∧ SqL K H2 p (ys.map V.str) ∧
  (ys.reverse.map (·.length)).sum + ys.reverse.length * a.length ≤ 16777216 ∧ Q (.str (Txt.join a ys.reverse)) H2
section
variable {X : Cx}
theorem pe_joinRev {o e : Expr} {to te : TE} {apos pos p pos2 : Pos} (hc : X.calm = true) (ho : PE X o to) (hg : Gl X "reversed") (hm : X.mg "reversed" = none) (he : PE X e te)
    (hs1 : starEach [.Call (.Name "reversed" p) [e] [] pos2] X.env = [(false, eval (.Call (.Name "reversed" p) [e] [] pos2) X.env)] := by rfl)
    (hs : starEach [e] X.env = (false, eval e X.env) :: starEach [] X.env := by rfl)
    (hbase : attributeBase o "join" X.env (eval o X.env) = eval o X.env := by rfl) (hline : (apos.endLine == pos.line) = true := by rfl) :
    PE X (.Call (.Attribute o "join" apos) [.Call (.Name "reversed" p) [e] [] pos2] [] pos) (tJoinRev X.K to te) := by
  refine ⟨fun pins s σ H Q I h => ?_⟩
  refine PySem.Call_method1 hbase hs1 hline (thn (ho.run pins s σ H _ I h) fun v s1 ⟨x, H1, I1, r1, q1⟩ => ?_)
  obtain ⟨⟨a, rfl⟩, q1⟩ := q1
  obtain ⟨t, rfl⟩ := _root_.id r1
  refine ⟨"str", _, F.plainAttrs_str, F.slot_str_join, F.type_str_join, typeIs_str _ _ _, (fun _ e => nomatch e), Calls.callWith_builtin rfl (Calls.evalArgs_plain (Calls.spliced_cons ?_))⟩
  refine Call_ (ld_blt I1 hg hm PyProof.Rows.boot_reversed (PyProof.Rows.callWith_type1 (args_cons (thn (he.run pins s1 σ H1 _ I1 q1) fun u s2 ⟨v, H2, I2, r2, q2⟩ => args_nil ?_) hs) hs rfl))
  obtain ⟨a', p', ys, ea, rfl, hq, hz, q⟩ := q2
  cases ea
  obtain rfl : u = Value.ref p' := r2
  obtain ⟨its, rv, pl, hsz⟩ := I2.list hq
  refine call_reversed_list pl.isList ?_
  have hl := pl.isList
  obtain ⟨ol, hol, _⟩ := id hl
  have hne : p' ≠ s2.heap.objs.size := Nat.ne_of_lt (Heap.lt_size hol)
  have hn : its.toArray.size ≤ sizeLine := by rw [List.size_toArray, ← rv.length]; exact hsz
  refine Calls.spliced_nil ?_
  refine join_rev (s := { s2 with heap := s2.heap.push (revObj p' ((its.toArray.size : Int) - 1)) }) (ys := ys.reverse) (I2.ok.hd hc) ⟨_, Heap.get?_push_size _ rfl, rfl, rfl⟩ (hl.push _) hne hn (fun acc hacc => ?_) hz fun h' t' k hk => ?_
  · have := RT.vals_rev rv hacc
    rw [← List.map_reverse] at this
    exact strs_of_vals this
  · have k0 : ∀ b o, s2.heap.get? b = some o → h'.get? b = some o := fun b o e => hk b o (Nat.ne_of_lt (Heap.lt_size e)) (Heap.get?_push_of_some _ e)
    exact ⟨.str _, H2, I2.kept (t' := k) k0, ⟨t', rfl⟩, q⟩
end
section
variable {K : PySem.W.Frag} {δ : DEnv} {R : Res} {ta : TE} {d : D}
theorem evf_lstRev {ds : List PyData} (h : Ev K δ R ta d) (hl : Ls R d ds) : EvF K δ R (tLstRev K ta) ds.reverse := fun G H σ Q ok en k => h G H σ _ ok en fun v G1 H1 ok1 l1 q1 => by
  obtain ⟨a, vs, rfl, ea, la, hv⟩ := hl.hv ok1 q1
  refine ⟨a, vs, rfl, SqL.of ea, fun p hp => ?_⟩
  obtain ⟨ok', le⟩ := ok1.laid (q := .lst ds.reverse) (o := .lst vs.reverse) hp ⟨vs.reverse, upd_same, by rw [List.length_reverse]; exact la, hv.rev⟩
  exact k _ _ _ ok' (l1.trans le)
theorem ev_joinRev {tb : TE} {ys : List Str} {a : Str} (h1 : Ev K δ R ta (.d (.str a))) (h2 : Ev K δ R tb d) (hl : Ls R d (ys.map .str)) (hz : (ys.reverse.map (·.length)).sum + ys.reverse.length * a.length ≤ 16777216) : Ev K δ R (tJoinRev K ta tb) (.d (.str (Txt.join a ys.reverse))) := fun G H σ Q ok en k =>
  h1 G H σ _ ok en fun v G1 H1 ok1 l1 q1 => by
    cases (show Hv G1 v (.str a) from q1)
    refine ⟨⟨a, rfl⟩, h2 G1 H1 σ _ ok1 (en.mono l1.g) fun u G2 H2 ok2 l2 q2 => ?_⟩
    obtain ⟨p, vs, rfl, ea, la, hv⟩ := hl.hv ok2 q2
    have ev : vs = ys.map V.str := hv.strs
    subst ev
    exact ⟨a, p, ys, rfl, rfl, SqL.of ea, hz, k _ G2 H2 ok2 (l1.trans l2) (show Hv G2 _ _ from .str _)⟩
end
end Fl

namespace Fl
open PySem PySem.Spec PyProof.Rows L2
/-! A lockful is let down: the levels. -/
def letL (lv : List Bool) (g : Nat) : List Bool := if 0 < g then (if g < lv.length then lv.set g false else lv).set (g - 1) true else if g < lv.length then lv.set g false else lv
theorem letL_len (lv : List Bool) (g : Nat) : (letL lv g).length = lv.length := by
  unfold letL
  split <;> split <;> simp
/-! The plain model of a flight. -/
def Fs.n (S : Fs) : Int := S.high.length
def sideOf (S : Fs) (b : Int) : Bool := S.sides.getD b.toNat true
def startOf (S : Fs) (u : Bool) : Int := if u = true then 0 else S.n + 1
def keysOf (ps : Pl) : List Int := ps.map (·.1)
def waitM (S : Fs) (u : Bool) : List Int := ((keysOf S.places).filter fun b => decide (plc S.places b = some (startOf S u))).filter fun b => sideOf S b == u
def boatStep (n : Nat) (acc : List (Option Int)) (q : Int × Int) : List (Option Int) := if 0 < q.2 ∧ q.2 < n + 1 then acc.set (q.2 - 1).toNat (some q.1) else acc
def boatsM (S : Fs) : List (Option Int) := S.places.foldl (boatStep S.high.length) (List.replicate S.high.length none)
def optD : Option Int → PyData
  | none => .none
  | some i => .int i
def letW (S : Fs) (g : Int) : Nat := if g < 0 ∨ S.n < g then 1 else if (g < S.n ∧ S.high.getD g.toNat true = false) ∨ (0 < g ∧ S.high.getD (g - 1).toNat false = true) then 2 else 0
def letS (S : Fs) (g : Int) : Fs := { S with high := letL S.high g.toNat, taken := S.taken + (if g = S.n then 1 else 0), given := S.given + (if g = 0 then 1 else 0) }
def levB (S : Fs) (g : Int) : Bool := (decide (g = 0) || S.high.getD (g - 1).toNat true) && (decide (g = S.n) || !(S.high.getD g.toNat false))
def hereM (S : Fs) (b : Int) : Int := (plc S.places b).getD 0
def thenM (S : Fs) (b : Int) : Int := hereM S b + (if sideOf S b = true then 1 else -1)
def gateM (S : Fs) (b : Int) : Int := if sideOf S b = true then hereM S b else hereM S b - 1
def aheadM (S : Fs) (b : Int) : List Int := (keysOf S.places).filter fun o => decide (plc S.places o = some (hereM S b)) && ((sideOf S o == sideOf S b) && decide (o < b))
def notFirst (S : Fs) (b : Int) : Bool := (decide (hereM S b = 0) || decide (hereM S b = S.n + 1)) && !(aheadM S b).isEmpty
def occB (S : Fs) (t : Int) : Bool := S.places.any fun q => decide (q.2 = t)
def sailW (S : Fs) (b : Int) : Nat := if plc S.places b = none then 3 else if notFirst S b = true then 4 else if levB S (gateM S b) = false then 5 else if (0 < thenM S b ∧ thenM S b ≤ S.n) ∧ occB S (thenM S b) = true then 6 else 0
def outB (S : Fs) (b : Int) : Prop := thenM S b = 0 ∨ thenM S b = S.n + 1
instance (S : Fs) (b : Int) : Decidable (outB S b) := inferInstanceAs (Decidable (_ ∨ _))
def sailS (S : Fs) (b : Int) : Fs := if outB S b then { S with places := pdrop S.places b, done := S.done ++ [b] } else { S with places := pput S.places b (thenM S b) }
def comeS (S : Fs) (u : Bool) : Fs := { S with sides := S.sides ++ [u], places := S.places ++ [((S.sides.length : Int), startOf S u)] }
def newS (lv : List Bool) : Fs := ⟨lv, [], [], [], 0, 0⟩
def wordS : Nat → Str
  | 0 => "done"
  | 1 => "no gate"
  | 2 => "no fall"
  | 3 => "no boat"
  | 4 => "not first"
  | 5 => "shut"
  | _ => "occupied"
/-- what holds of a flight -/
structure WF (S : Fs) : Prop where
  n1 : 1 ≤ S.high.length
  n8 : S.high.length ≤ 8
  s100 : S.sides.length ≤ 100
  ks : (keysOf S.places).Pairwise (· < ·)
  kb : ∀ q ∈ S.places, 0 ≤ q.1 ∧ q.1 < S.sides.length
  pb : ∀ q ∈ S.places, 0 ≤ q.2 ∧ q.2 ≤ S.n + 1
  lo : ∀ q ∈ S.places, q.2 = 0 → sideOf S q.1 = true
  hi : ∀ q ∈ S.places, q.2 = S.n + 1 → sideOf S q.1 = false
  ch : ∀ q ∈ S.places, ∀ r ∈ S.places, q.2 = r.2 → 0 < q.2 → q.2 < S.n + 1 → q.1 = r.1
  db : ∀ b ∈ S.done, 0 ≤ b ∧ b < S.sides.length
  dl : S.done.length + S.places.length = S.sides.length
section
variable {S : Fs}
theorem plc_mem {ps : Pl} {b v : Int} (h : plc ps b = some v) : (b, v) ∈ ps := by
  unfold plc at h
  cases q : ps.find? fun q => decide (q.1 = b) with
  | none => rw [q] at h; cases h
  | some kv =>
    rw [q] at h
    cases h
    have h2 := List.find?_some q
    have e := of_decide_eq_true h2
    rw [← e]
    exact List.mem_of_find?_eq_some q
theorem plc_of {ps : Pl} (ks : (keysOf ps).Pairwise (· < ·)) {q : Int × Int} (h : q ∈ ps) : plc ps q.1 = some q.2 := by
  induction ps with
  | nil => simp at h
  | cons x r ih =>
    have ks' : ((x.1) :: keysOf r).Pairwise (· < ·) := ks
    obtain ⟨k1, k2⟩ := List.pairwise_cons.mp ks'
    rcases List.mem_cons.mp h with e | h
    · subst e
      simp [plc, List.find?_cons]
    · have ne : x.1 ≠ q.1 := by
        have := k1 q.1 (List.mem_map.mpr ⟨q, h, rfl⟩)
        omega
      have := ih k2 h
      unfold plc at this ⊢
      rw [List.find?_cons, decide_eq_false ne]
      exact this
theorem plc_none {ps : Pl} {b : Int} (h : b ∉ keysOf ps) : plc ps b = none := by
  cases q : plc ps b with
  | none => rfl
  | some v => exact absurd (List.mem_map.mpr ⟨_, plc_mem q, rfl⟩) h
theorem key_mem {ps : Pl} {b v : Int} (h : plc ps b = some v) : b ∈ keysOf ps := List.mem_map.mpr ⟨_, plc_mem h, rfl⟩
theorem WF.at_ (w : WF S) {b : Int} (h : b ∈ keysOf S.places) : ∃ v, plc S.places b = some v ∧ (b, v) ∈ S.places := by
  obtain ⟨q, hq, rfl⟩ := List.mem_map.mp h
  exact ⟨q.2, plc_of w.ks hq, hq⟩
theorem WF.pl100 (w : WF S) : S.places.length ≤ 100 := by have := w.dl; have := w.s100; omega
theorem WF.dl100 (w : WF S) : S.done.length ≤ 100 := by have := w.dl; have := w.s100; omega
theorem side_at {S : Fs} {b : Int} (h0 : 0 ≤ b) (h : b < S.sides.length) : atI S.sides b = some (sideOf S b) := by
  have e : ((b.toNat : Nat) : Int) = b := by omega
  have q : S.sides[b.toNat]? = some (sideOf S b) := by
    unfold sideOf
    rw [List.getD_eq_getElem?_getD, List.getElem?_eq_getElem (by omega)]; rfl
  have r := atI_some q
  rw [e] at r
  exact r
theorem high_at {S : Fs} {g : Int} {d : Bool} (h0 : 0 ≤ g) (h : g < S.n) : atI S.high g = some (S.high.getD g.toNat d) := by
  have e : ((g.toNat : Nat) : Int) = g := by omega
  have q : S.high[g.toNat]? = some (S.high.getD g.toNat d) := by
    unfold Fs.n at h
    rw [List.getD_eq_getElem?_getD, List.getElem?_eq_getElem (by omega)]; rfl
  have r := atI_some q
  rw [e] at r
  exact r
/-! ### boats in chambers -/
theorem boats_len (n : Nat) : ∀ (ps : Pl) (acc : List (Option Int)), (ps.foldl (boatStep n) acc).length = acc.length
  | [], _ => rfl
  | q :: ps, acc => by
    show (ps.foldl (boatStep n) (boatStep n acc q)).length = _
    rw [boats_len n ps]
    unfold boatStep
    split
    · simp
    · rfl
theorem boats_none (n : Nat) : ∀ (ps : Pl) (acc : List (Option Int)) (k : Nat), k < acc.length → acc.length = n →
    ((ps.foldl (boatStep n) acc)[k]? = some none ↔ acc[k]? = some none ∧ ∀ q ∈ ps, q.2 ≠ (k : Int) + 1)
  | [], acc, k, _, _ => by simp
  | q :: ps, acc, k, hk, hn => by
    have hl : (boatStep n acc q).length = acc.length := by unfold boatStep; split <;> simp
    show ((ps.foldl (boatStep n) (boatStep n acc q))[k]? = some none) ↔ _
    rw [boats_none n ps (boatStep n acc q) k (by omega) (by omega)]
    have key : (boatStep n acc q)[k]? = some none ↔ acc[k]? = some none ∧ q.2 ≠ (k : Int) + 1 := by
      unfold boatStep
      by_cases h : 0 < q.2 ∧ q.2 < (n : Int) + 1
      · rw [if_pos h]
        by_cases e : (q.2 - 1).toNat = k
        · rw [e, List.getElem?_set_self (by omega)]
          constructor
          · intro z; cases z
          · rintro ⟨_, z⟩; omega
        · rw [List.getElem?_set_ne e]
          constructor
          · intro z; exact ⟨z, by omega⟩
          · exact fun z => z.1
      · rw [if_neg h]
        constructor
        · intro z; exact ⟨z, by omega⟩
        · exact fun z => z.1
    rw [key]
    constructor
    · rintro ⟨⟨h1, h2⟩, h3⟩
      refine ⟨h1, fun r hr => ?_⟩
      rcases List.mem_cons.mp hr with e | hr
      · rw [e]; exact h2
      · exact h3 r hr
    · rintro ⟨h1, h2⟩
      exact ⟨⟨h1, h2 q List.mem_cons_self⟩, fun r hr => h2 r (List.mem_cons_of_mem _ hr)⟩
theorem boatsM_len (S : Fs) : (boatsM S).length = S.high.length := by
  unfold boatsM
  rw [boats_len, List.length_replicate]
theorem boats_occ {t : Int} (h0 : 0 < t) (h : t ≤ S.n) : ∃ o, (boatsM S)[(t - 1).toNat]? = some o ∧ isNo (optD o) = !occB S t := by
  have hn : (t - 1).toNat < S.high.length := by unfold Fs.n at h; omega
  have hl := boatsM_len S
  refine ⟨(boatsM S)[(t - 1).toNat]'(by omega), List.getElem?_eq_getElem _, ?_⟩
  have q := boats_none S.high.length S.places (List.replicate S.high.length none) (t - 1).toNat (by rw [List.length_replicate]; exact hn) (by rw [List.length_replicate])
  have q' : (boatsM S)[(t - 1).toNat]? = some none ↔ (List.replicate S.high.length (none : Option Int))[(t - 1).toNat]? = some none ∧ ∀ r ∈ S.places, r.2 ≠ (((t - 1).toNat : Nat) : Int) + 1 := q
  rw [List.getElem?_eq_getElem (by omega)] at q'
  have et : (((t - 1).toNat : Nat) : Int) + 1 = t := by omega
  rw [et] at q'
  cases ho : occB S t with
  | true =>
    unfold occB at ho
    obtain ⟨r, hr, e⟩ := List.any_eq_true.mp ho
    have e := of_decide_eq_true e
    cases hb : (boatsM S)[(t - 1).toNat]'(by omega) with
    | none =>
      rw [hb] at q'
      exact absurd e ((q'.mp rfl).2 r hr)
    | some i => rfl
  | false =>
    have hall : ∀ r ∈ S.places, r.2 ≠ t := by
      intro r hr e
      have : occB S t = true := List.any_eq_true.mpr ⟨r, hr, by rw [e]; simp⟩
      rw [ho] at this; cases this
    have := q'.mpr ⟨by rw [List.getElem?_eq_getElem (by rw [List.length_replicate]; exact hn), List.getElem_replicate], hall⟩
    have e := Option.some.inj this
    rw [e]; rfl
/-! ### rows -/
theorem wait_mem {b : Int} {u : Bool} : b ∈ waitM S u ↔ b ∈ keysOf S.places ∧ plc S.places b = some (startOf S u) ∧ sideOf S b = u := by
  unfold waitM
  rw [List.mem_filter, List.mem_filter]
  simp only [decide_eq_true_eq, beq_iff_eq]
  exact and_assoc
theorem wait_sorted (w : WF S) (u : Bool) : (waitM S u).Pairwise (· < ·) := (w.ks.filter _).filter _
theorem here_of {b v : Int} (h : plc S.places b = some v) : hereM S b = v := by unfold hereM; rw [h]; rfl
/-- the first of a row, and those ahead -/
theorem row_first (w : WF S) {b v : Int} (h : plc S.places b = some v) : ((decide (b ∈ waitM S (sideOf S b)) && decide ((waitM S (sideOf S b)).head? ≠ some b)) = notFirst S b) := by
  have hm := plc_mem h
  have eh := here_of h
  have start : (v = startOf S (sideOf S b)) ↔ (v = 0 ∨ v = S.n + 1) := by
    unfold startOf
    constructor
    · intro e; rw [e]; split
      · exact .inl rfl
      · exact .inr rfl
    · rintro (e | e)
      · rw [w.lo _ hm e, if_pos rfl, e]
      · rw [w.hi _ hm e, if_neg Bool.false_ne_true, e]
  rw [Bool.eq_iff_iff, Bool.and_eq_true, decide_eq_true_eq, decide_eq_true_eq]
  unfold notFirst
  rw [Bool.and_eq_true, Bool.or_eq_true, decide_eq_true_eq, decide_eq_true_eq, eh, Bool.not_eq_true', ← Bool.not_eq_true, List.isEmpty_iff]
  constructor
  · rintro ⟨h1, h2⟩
    obtain ⟨_, hp, _⟩ := wait_mem.mp h1
    have hv : v = startOf S (sideOf S b) := by rw [h] at hp; exact Option.some.inj hp
    refine ⟨start.mp hv, ?_⟩
    cases q : waitM S (sideOf S b) with
    | nil => rw [q] at h1; simp at h1
    | cons x r =>
      have ws := wait_sorted w (sideOf S b)
      rw [q] at ws h1 h2
      have ne : x ≠ b := fun e => h2 (by rw [e]; rfl)
      have hb : b ∈ r := by
        rcases List.mem_cons.mp h1 with e | e
        · exact absurd e.symm ne
        · exact e
      have lt := (List.pairwise_cons.mp ws).1 b hb
      have hx : x ∈ waitM S (sideOf S b) := by rw [q]; exact List.mem_cons_self
      obtain ⟨x1, x2, x3⟩ := wait_mem.mp hx
      intro z
      have : x ∈ aheadM S b := by
        unfold aheadM
        refine List.mem_filter.mpr ⟨x1, ?_⟩
        rw [Bool.and_eq_true, Bool.and_eq_true, decide_eq_true_eq, decide_eq_true_eq, beq_iff_eq, eh, hv]
        exact ⟨x2, x3, lt⟩
      rw [z] at this
      simp at this
  · rintro ⟨h1, h2⟩
    have hv := start.mpr h1
    have hb : b ∈ waitM S (sideOf S b) := wait_mem.mpr ⟨key_mem h, by rw [h, hv], rfl⟩
    refine ⟨hb, ?_⟩
    cases q : aheadM S b with
    | nil => exact absurd q h2
    | cons x r =>
      have hx : x ∈ aheadM S b := by rw [q]; exact List.mem_cons_self
      unfold aheadM at hx
      obtain ⟨x1, x2⟩ := List.mem_filter.mp hx
      rw [Bool.and_eq_true, Bool.and_eq_true, decide_eq_true_eq, decide_eq_true_eq, beq_iff_eq, eh, hv] at x2
      have hxw : x ∈ waitM S (sideOf S b) := wait_mem.mpr ⟨x1, x2.1, x2.2.1⟩
      intro z
      cases q2 : waitM S (sideOf S b) with
      | nil => rw [q2] at z; cases z
      | cons y t =>
        have ws := wait_sorted w (sideOf S b)
        rw [q2] at ws hxw z
        have ey : y = b := Option.some.inj z
        rcases List.mem_cons.mp hxw with e | e
        · omega
        · have := (List.pairwise_cons.mp ws).1 x e
          omega
theorem then_eq {b v : Int} (h : plc S.places b = some v) : thenM S b = v + (if sideOf S b = true then 1 else -1) := by unfold thenM; rw [here_of h]
theorem gate_eq {b v : Int} (h : plc S.places b = some v) : gateM S b = if sideOf S b = true then v else v - 1 := by unfold gateM; rw [here_of h]
/-- where a boat that is there may go -/
theorem WF.gate (w : WF S) {b v : Int} (h : plc S.places b = some v) : 0 ≤ gateM S b ∧ gateM S b ≤ S.n ∧ 0 ≤ thenM S b ∧ thenM S b ≤ S.n + 1 := by
  have hm := plc_mem h
  have pb := w.pb _ hm
  dsimp only at pb
  rw [gate_eq h, then_eq h]
  cases hs : sideOf S b with
  | true =>
    rw [if_pos rfl, if_pos rfl]
    have : v ≠ S.n + 1 := fun e => by have := w.hi _ hm e; rw [hs] at this; cases this
    omega
  | false =>
    rw [if_neg Bool.false_ne_true, if_neg Bool.false_ne_true]
    have : v ≠ 0 := fun e => by have := w.lo _ hm e; rw [hs] at this; cases this
    omega
end
/-! ### what the deeds keep -/
theorem pput_keys (ps : Pl) (b v : Int) (h : b ∈ keysOf ps) : keysOf (pput ps b v) = keysOf ps := by
  have e : (ps.any fun q => decide (q.1 = b)) = true := by
    obtain ⟨q, hq, rfl⟩ := List.mem_map.mp h
    exact List.any_eq_true.mpr ⟨q, hq, by simp⟩
  unfold pput keysOf
  rw [if_pos e, List.map_map]
  refine List.map_congr_left fun q _ => ?_
  show (if q.1 = b then (q.1, v) else q).1 = q.1
  split <;> rfl
theorem pput_mem {ps : Pl} {b v : Int} (h : b ∈ keysOf ps) {q : Int × Int} (m : q ∈ pput ps b v) : (q = (b, v)) ∨ (q ∈ ps ∧ q.1 ≠ b) := by
  have e : (ps.any fun q => decide (q.1 = b)) = true := by
    obtain ⟨q, hq, rfl⟩ := List.mem_map.mp h
    exact List.any_eq_true.mpr ⟨q, hq, by simp⟩
  unfold pput at m
  rw [if_pos e] at m
  obtain ⟨r, hr, rfl⟩ := List.mem_map.mp m
  by_cases z : r.1 = b
  · rw [if_pos z, z]; exact .inl rfl
  · rw [if_neg z]; exact .inr ⟨hr, z⟩
theorem pdrop_mem {ps : Pl} {b : Int} {q : Int × Int} : q ∈ pdrop ps b ↔ q ∈ ps ∧ q.1 ≠ b := by
  unfold pdrop
  rw [List.mem_filter, decide_eq_true_eq]
theorem pdrop_put (ps : Pl) (b v : Int) : pdrop (pput ps b v) b = pdrop ps b := by
  unfold pput pdrop
  split
  · rw [List.filter_map]
    have e : ((fun q : Int × Int => decide (q.1 ≠ b)) ∘ fun q : Int × Int => if q.1 = b then (q.1, v) else q) = fun q => decide (q.1 ≠ b) := by
      funext q
      show decide ((if q.1 = b then (q.1, v) else q).1 ≠ b) = _
      by_cases h : q.1 = b
      · rw [if_pos h]
      · rw [if_neg h]
    rw [e]
    conv => rhs; rw [← List.map_id (List.filter _ ps)]
    refine List.map_congr_left fun q hq => ?_
    have := of_decide_eq_true (List.mem_filter.mp hq).2
    rw [if_neg this]; rfl
  · rw [List.filter_append]
    simp
theorem pdrop_len {ps : Pl} (ks : (keysOf ps).Pairwise (· < ·)) {b : Int} (h : b ∈ keysOf ps) : (pdrop ps b).length + 1 = ps.length := by
  induction ps with
  | nil => simp [keysOf] at h
  | cons x r ih =>
    have ks' : ((x.1) :: keysOf r).Pairwise (· < ·) := ks
    obtain ⟨k1, k2⟩ := List.pairwise_cons.mp ks'
    by_cases e : x.1 = b
    · have : pdrop (x :: r) b = r := by
        unfold pdrop
        rw [List.filter_cons, if_neg (by simp [e]), List.filter_eq_self.mpr]
        intro q hq
        have := k1 q.1 (List.mem_map.mpr ⟨q, hq, rfl⟩)
        rw [decide_eq_true_eq]; omega
      rw [this]; rfl
    · have hr : b ∈ keysOf r := by
        rcases List.mem_cons.mp (show b ∈ x.1 :: keysOf r from h) with z | z
        · exact absurd z.symm e
        · exact z
      have : pdrop (x :: r) b = x :: pdrop r b := by
        unfold pdrop
        rw [List.filter_cons, if_pos (by simp [e])]
      rw [this, List.length_cons, List.length_cons, ih k2 hr]
theorem pput_len {ps : Pl} {b v : Int} (h : b ∈ keysOf ps) : (pput ps b v).length = ps.length := by
  have := congrArg List.length (pput_keys ps b v h)
  unfold keysOf at this
  simpa using this
theorem wf_new {lv : List Bool} (h : 1 ≤ lv.length ∧ lv.length ≤ 8) : WF (newS lv) :=
  ⟨h.1, h.2, Nat.zero_le _, List.Pairwise.nil, (fun q m => by cases m), (fun q m => by cases m), (fun q m => by cases m), (fun q m => by cases m), (fun q m => by cases m), (fun q m => by cases m), rfl⟩
theorem letS_n (S : Fs) (g : Int) : (letS S g).n = S.n := by
  unfold Fs.n
  show ((letL S.high g.toNat).length : Int) = _
  rw [letL_len]
theorem wf_let {S : Fs} (w : WF S) (g : Int) : WF (letS S g) := by
  have hn := letS_n S g
  have hl : (letS S g).high.length = S.high.length := letL_len _ _
  exact ⟨by rw [hl]; exact w.n1, by rw [hl]; exact w.n8, w.s100, w.ks, w.kb, fun q m => by rw [hn]; exact w.pb q m, w.lo, fun q m => by rw [hn]; exact w.hi q m, fun q m r m2 e h1 h2 => w.ch q m r m2 e h1 (by rw [hn] at h2; exact h2), w.db, w.dl⟩
theorem side_app {S : Fs} {u : Bool} {b : Int} (h0 : 0 ≤ b) (h : b < S.sides.length) : sideOf (comeS S u) b = sideOf S b := by
  unfold sideOf
  show (S.sides ++ [u]).getD b.toNat true = _
  rw [List.getD_eq_getElem?_getD, List.getD_eq_getElem?_getD, List.getElem?_append_left (by omega)]
theorem side_new {S : Fs} {u : Bool} : sideOf (comeS S u) S.sides.length = u := by
  unfold sideOf
  show (S.sides ++ [u]).getD (S.sides.length : Int).toNat true = _
  rw [List.getD_eq_getElem?_getD, Int.toNat_natCast, List.getElem?_append_right (Nat.le_refl _), Nat.sub_self]
  rfl
theorem wf_come {S : Fs} (w : WF S) (u : Bool) (h : S.sides.length < 100) : WF (comeS S u) := by
  have n1 := w.n1
  have mem : ∀ q ∈ (comeS S u).places, q ∈ S.places ∨ q = ((S.sides.length : Int), startOf S u) := fun q m => by
    rcases List.mem_append.mp m with m | m
    · exact .inl m
    · exact .inr (by simpa using m)
  have hst : startOf S u = 0 ∨ startOf S u = S.n + 1 := by unfold startOf; split <;> simp
  have nn : 0 ≤ S.n := by unfold Fs.n; omega
  have sl : ((comeS S u).sides.length : Int) = S.sides.length + 1 := by show ((S.sides ++ [u]).length : Int) = _; rw [List.length_append]; rfl
  refine ⟨w.n1, w.n8, ?_, ?_, fun q m => ?_, fun q m => ?_, fun q m e => ?_, fun q m e => ?_, fun q m r m2 e h1 h2 => ?_, fun b m => ?_, ?_⟩
  · show (S.sides ++ [u]).length ≤ 100
    rw [List.length_append]; show S.sides.length + 1 ≤ 100; omega
  · show (keysOf (S.places ++ [_])).Pairwise (· < ·)
    unfold keysOf
    rw [List.map_append]
    refine List.pairwise_append.mpr ⟨w.ks, List.pairwise_singleton _ _, fun x hx y hy => ?_⟩
    obtain ⟨q, hq, rfl⟩ := List.mem_map.mp hx
    have ey : y = S.sides.length := by simpa using hy
    rw [ey]
    exact (w.kb q hq).2
  · rw [sl]
    rcases mem q m with m | m
    · have := w.kb q m; omega
    · rw [m]; dsimp only; omega
  · rcases mem q m with m | m
    · exact w.pb q m
    · rw [m]; dsimp only; show 0 ≤ startOf S u ∧ startOf S u ≤ S.n + 1; omega
  · rcases mem q m with m | m
    · have := w.kb q m
      rw [side_app this.1 this.2]
      exact w.lo q m e
    · rw [m] at e ⊢
      rw [side_new]
      dsimp only at e
      unfold startOf at e
      cases u with
      | true => rfl
      | false => rw [if_neg Bool.false_ne_true] at e; omega
  · have e : q.2 = S.n + 1 := e
    rcases mem q m with m | m
    · have := w.kb q m
      rw [side_app this.1 this.2]
      exact w.hi q m e
    · rw [m] at e ⊢
      rw [side_new]
      dsimp only at e
      unfold startOf at e
      cases u with
      | true => rw [if_pos rfl] at e; omega
      | false => rfl
  · have h2 : q.2 < S.n + 1 := h2
    rcases mem q m with m | m
    · rcases mem r m2 with m2 | m2
      · exact w.ch q m r m2 e h1 h2
      · rw [m2] at e; dsimp only at e; omega
    · rw [m] at h1 h2; dsimp only at h1 h2; omega
  · rw [sl]
    have := w.db b m
    omega
  · show S.done.length + (S.places ++ [_]).length = (S.sides ++ [u]).length
    rw [List.length_append, List.length_append]
    have := w.dl
    simp; omega
theorem sailW_zero {S : Fs} {b : Int} (h : sailW S b = 0) : ∃ v, plc S.places b = some v ∧ notFirst S b = false ∧ levB S (gateM S b) = true ∧ ¬ ((0 < thenM S b ∧ thenM S b ≤ S.n) ∧ occB S (thenM S b) = true) := by
  unfold sailW at h
  split at h
  · cases h
  · rename_i h1
    split at h
    · cases h
    · rename_i h2
      split at h
      · cases h
      · rename_i h3
        split at h
        · cases h
        · rename_i h4
          cases q : plc S.places b with
          | none => exact absurd q h1
          | some v => exact ⟨v, rfl, by simpa using h2, by simpa using h3, h4⟩
theorem sailS_n (S : Fs) (b : Int) : (sailS S b).n = S.n := by unfold sailS; split <;> rfl
theorem sailS_side (S : Fs) (b c : Int) : sideOf (sailS S b) c = sideOf S c := by unfold sailS; split <;> rfl
theorem sailS_sides (S : Fs) (b : Int) : (sailS S b).sides = S.sides := by unfold sailS; split <;> rfl
theorem sailS_high (S : Fs) (b : Int) : (sailS S b).high = S.high := by unfold sailS; split <;> rfl
theorem wf_sail {S : Fs} (w : WF S) {b : Int} (h : sailW S b = 0) : WF (sailS S b) := by
  obtain ⟨v, hv, h1, h2, h3⟩ := sailW_zero h
  have hk := key_mem hv
  have hm := plc_mem hv
  have gt := w.gate hv
  by_cases ho : outB S b
  · have e : sailS S b = { S with places := pdrop S.places b, done := S.done ++ [b] } := if_pos ho
    rw [e]
    have sub : ∀ q, q ∈ pdrop S.places b → q ∈ S.places := fun q m => (pdrop_mem.mp m).1
    refine ⟨w.n1, w.n8, w.s100, ?_, fun q m => w.kb q (sub q m), fun q m => w.pb q (sub q m), fun q m => w.lo q (sub q m), fun q m => w.hi q (sub q m), fun q m r m2 => w.ch q (sub q m) r (sub r m2), fun c m => ?_, ?_⟩
    · show ((pdrop S.places b).map (·.1)).Pairwise (· < ·)
      exact w.ks.sublist ((List.filter_sublist (l := S.places)).map _)
    · rcases List.mem_append.mp m with m | m
      · exact w.db c m
      · have e : c = b := by simpa using m
        rw [e]; exact w.kb _ hm
    · show (S.done ++ [b]).length + (pdrop S.places b).length = S.sides.length
      rw [List.length_append]
      have := pdrop_len w.ks hk
      have := w.dl
      simp; omega
  · have e : sailS S b = { S with places := pput S.places b (thenM S b) } := if_neg ho
    rw [e]
    have nout : ¬ thenM S b = 0 ∧ ¬ thenM S b = S.n + 1 := by unfold outB at ho; omega
    have free : ∀ q ∈ S.places, q.2 ≠ thenM S b := fun q m z => h3 ⟨by omega, List.any_eq_true.mpr ⟨q, m, by rw [z]; simp⟩⟩
    refine ⟨w.n1, w.n8, w.s100, by show (keysOf (pput S.places b _)).Pairwise _; rw [pput_keys _ _ _ hk]; exact w.ks, fun q m => ?_, fun q m => ?_, fun q m z => ?_, fun q m z => ?_, fun q m r m2 z z1 z2 => ?_, w.db, by show S.done.length + (pput S.places b _).length = _; rw [pput_len hk]; exact w.dl⟩
    · rcases pput_mem hk m with e | ⟨m, _⟩
      · rw [e]; have := w.kb _ hm; exact this
      · exact w.kb q m
    · rcases pput_mem hk m with e | ⟨m, _⟩
      · rw [e]; dsimp only; show 0 ≤ thenM S b ∧ thenM S b ≤ S.n + 1; omega
      · exact w.pb q m
    · rcases pput_mem hk m with e | ⟨m, _⟩
      · rw [e] at z; exact absurd z nout.1
      · exact w.lo q m z
    · rcases pput_mem hk m with e | ⟨m, _⟩
      · rw [e] at z; exact absurd z nout.2
      · exact w.hi q m z
    · rcases pput_mem hk m with e | ⟨m, _⟩
      · rcases pput_mem hk m2 with e2 | ⟨m2, _⟩
        · rw [e, e2]
        · rw [e] at z; exact absurd z.symm (free r m2)
      · rcases pput_mem hk m2 with e2 | ⟨m2, _⟩
        · rw [e2] at z; exact absurd z (free q m)
        · exact w.ch q m r m2 z z1 z2
theorem word_done (k : Nat) : PyData.eqv (.str (wordS k)) (.str "done") = decide (k = 0) := by
  match k with
  | 0 => decide
  | 1 => decide
  | 2 => decide
  | 3 => decide
  | 4 => decide
  | 5 => decide
  | k + 6 =>
    rw [decide_eq_false (by omega)]
    show PyData.eqv (.str "occupied") (.str "done") = false
    decide
theorem letW_cases (S : Fs) (g : Int) : letW S g = 0 ∨ letW S g = 1 ∨ letW S g = 2 := by
  unfold letW
  split
  · exact .inr (.inl rfl)
  · split
    · exact .inr (.inr rfl)
    · exact .inl rfl
theorem letW_rng {S : Fs} {g : Int} (h : letW S g = 0) : 0 ≤ g ∧ g ≤ S.n := by
  unfold letW at h
  split at h
  · cases h
  · omega
/-! Orders as texts. -/
def lcode (u : Bool) : Nat := if u then 117 else 100
def letter (u : Bool) : Str := ⟨#[lcode u]⟩
def encT (order : List Bool) : Str := ⟨(order.map lcode).toArray⟩
theorem letter_up (u : Bool) : (letter u == ("u" : Str)) = u := by cases u <;> decide
theorem letter_down (u : Bool) : (letter u == ("d" : Str)) = !u := by cases u <;> decide
theorem sds_first (u : Bool) : atI (sds u).cps.toList 0 = some (lcode u) := by cases u <;> decide
theorem encT_len (order : List Bool) : (encT order).length = order.length := by
  show ((order.map lcode).toArray).size = _
  simp
theorem join_letters : ∀ order : List Bool, Str.join Str.empty (order.map letter) = encT order
  | [] => rfl
  | [u] => rfl
  | u :: v :: r => by
    have ih := join_letters (v :: r)
    show letter u ++ Str.empty ++ Str.join Str.empty ((v :: r).map letter) = encT (u :: v :: r)
    rw [ih]
    show (⟨(#[lcode u] ++ #[]) ++ ((v :: r).map lcode).toArray⟩ : Str) = ⟨((u :: v :: r).map lcode).toArray⟩
    congr 1
    apply Array.ext'
    simp
theorem sgn_enc (order : List Bool) : sgnD (encT order) = order.map fun u => PyData.str (letter u) := by
  unfold sgnD encT
  simp [List.map_map, letter, Function.comp_def]
/-- the order that codes write -/
def readC : List Nat → Option (List Bool)
  | [] => some []
  | c :: r => if c = 117 then (readC r).map (true :: ·) else if c = 100 then (readC r).map (false :: ·) else none
theorem readC_enc : ∀ order : List Bool, readC (order.map lcode) = some order
  | [] => rfl
  | u :: r => by
    show (if lcode u = 117 then _ else _) = _
    rw [readC_enc r]
    cases u <;> rfl
theorem readC_odd {c : Nat} (h1 : c ≠ 117) (h2 : c ≠ 100) : ∀ a b : List Nat, readC (a ++ c :: b) = none
  | [], b => by
    show (if c = 117 then _ else _) = _
    rw [if_neg h1, if_neg h2]
  | x :: a, b => by
    show (if x = 117 then (readC (a ++ c :: b)).map _ else if x = 100 then (readC (a ++ c :: b)).map _ else none) = none
    rw [readC_odd h1 h2 a b]
    split
    · rfl
    · split <;> rfl
theorem readC_len : ∀ {a : List Nat} {o : List Bool}, readC a = some o → a = o.map lcode
  | [], o, h => by cases h; rfl
  | x :: a, o, h => by
    have h' : (if x = 117 then (readC a).map (true :: ·) else if x = 100 then (readC a).map (false :: ·) else none) = some o := h
    split at h'
    · rename_i e
      cases q : readC a with
      | none => rw [q] at h'; cases h'
      | some p => rw [q] at h'; cases h'; rw [readC_len q, e]; rfl
    · split at h'
      · rename_i e
        cases q : readC a with
        | none => rw [q] at h'; cases h'
        | some p => rw [q] at h'; cases h'; rw [readC_len q, e]; rfl
      · cases h'
theorem sum_ones (order : List Bool) : ((order.map letter).map (·.length)).sum = order.length := by
  rw [List.map_map, show ((fun x : Str => x.length) ∘ letter) = fun _ : Bool => 1 from rfl, List.map_const', List.sum_replicate_nat, Nat.mul_one]
theorem ev_letters {K : PySem.W.Frag} {δ : DEnv} {R : Res} {te : TE} {x : D} {order : List Bool} (h : Ev K δ R te x) (hl : Ls R x ((order.map letter).map .str)) (ho : order.length ≤ 1000) : Ev K δ R (tM1 (rJoin K) (tC (.str "")) te) (.d (.str (encT order))) := by
  refine ev_is (ev_join (ys := order.map letter) ev_str h hl ?_) ?_
  · rw [sum_ones, List.length_map]
    show _ + _ * 0 ≤ _
    omega
  · rw [TL.join_eq]
    exact congrArg (fun z => D.d (.str z)) (join_letters order)
/-! A def called within an except suite, the caught error among its arguments. -/
structure FnP (P : Program) (w : World) (K : PySem.W.Frag) (mg : Str → Option Value) (base : Heap) (k : Nat) (f : Addr) (fd : FuncData) (ps : List Str) (Z : Addr × Obj → Prop) (sp : Sp) : Prop where
  ln : ∀ xs H Q E, sp xs H Q E → xs.length = ps.length
  go : ∀ (A : Around) (outer : List Env) (s : Shared) (H : Hp) (args : Args) (us : List Value) (xs : List V) (Q : VK) (E : XK) (p : Addr × Obj), Z p → L2H.RoomH k A → L2H.PinOk outer H s p → Env0 P w K mg base A outer s H → BindsTo s fd args (ps.zip us) → Vals xs us → sp xs H Q E → codeAny (model P w) A (.call (.ref f) args) (CR (L2.CX P w) outer P w H s Q E) s
theorem fnP_of {P : Program} {w : World} {K : PySem.W.Frag} {mg : Str → Option Value} {base : Heap} {x qual : Str} {st : Stmt} {f : Addr} {fd : FuncData} {N ps : List Str} {k : Nat} {Z : Addr × Obj → Prop} {sp : Sp} (F : Fun K x qual st f fd) (S : FnScope N ps (defScope st)) (ln : ∀ xs H Q E, sp xs H Q E → xs.length = ps.length)
    (body : ∀ (cdv : Value) (A : Around) (outer : List Env) (s : Shared) (H : Hp) (xs : List V) (Q : VK) (E : XK) (p : Addr × Obj), Z p → sp xs H Q E → ∃ t, PSs (L2H.cxH (L2.CX P w) P w K mg base N qual (defScope st) f cdv A outer s H E p) (defBody st) t ∧ t { nx := fun _ H' => Q .non H', rt := Q } (L2.start N xs) H) :
    FnP P w K mg base (k + 1) f fd ps Z sp := by
  obtain ⟨oc, od, kV, doc, pm, an, cdv, ct, osl, rfl, at_, cd_⟩ := F.ex
  refine ⟨ln, fun A outer s H args us xs Q E p hz room pin e0 bnd vals want => ?_⟩
  have len := ln _ _ _ _ want
  have kin : K.In s.heap := e0.mod.kin.keeps fun b o z => (e0.bs b o z).1
  have nol : s.heap.NoLimit := e0.mod.nolimit.keeps fun b o z => (e0.bs b o z).1
  have kinds : ∀ y ∈ ps.zip us, (defScope st).names.lookup y.1 = some .local ∨ ((defScope st).names.lookup y.1 = some .cell ∧ ((cellsFrom (s.heap.objs.size + 1) (defScope st).names []).lookup y.1).isSome = true) := by
    rintro ⟨n, v⟩ hy
    rcases S.par n (List.of_mem_zip hy).1 with z | z
    · left; exact z
    · right; exact ⟨z, PySem.W.cellsFrom_some _ _ _ (.inl z)⟩
  refine codeAny_call_function room.depth (kin _ _ at_) rfl S.co S.gen rfl (PySem.W.codeRec_of kin cd_) (bnd _ _ _ _ ?_)
  refine wpAny_newFunctionEnv_cells S.kind kinds fun env he s1 inc => ?_
  subst he
  refine ⟨nol.keeps inc.toInCall.keep, codeAny_func ?_⟩
  obtain ⟨t, ht, hq⟩ := body cdv A outer s H xs Q E p hz want
  have I : Inv (L2H.cxH (L2.CX P w) P w K mg base N qual (defScope st) f cdv A outer s H E p) [] (L2.start N xs) H s1 := L2H.inv_startH S pin e0 len vals inc
  refine wpAny_mono (ht.run [] s1 (L2.start N xs) H _ I hq) (fun fl s2 got => ?_) fun _ _ got => got
  cases fl with
  | ret u =>
    obtain ⟨v, σ2, H2, J, rv, q⟩ := got
    exact ⟨v, H2, J.os, J.bare, J.base, J.hok, rv, q⟩
  | next =>
    obtain ⟨σ2, H2, J, q⟩ := got
    exact ⟨V.non, H2, J.os, J.bare, J.base, J.hok, rfl, q⟩
  | brk =>
    obtain ⟨_, _, _, z⟩ := got
    exact z.elim
  | cont =>
    obtain ⟨_, _, _, z⟩ := got
    exact z.elim
structure ClP (P : Program) (w : World) (K : PySem.W.Frag) (mg : Str → Option Value) (base : Heap) (k : Nat) (x : Str) (ps : List Str) (Z : Addr × Obj → Prop) (sp : Sp) : Prop where
  ex : ∃ (f : Addr) (fd : FuncData), FnP P w K mg base k f fd ps Z sp ∧ mg x = some (.ref f) ∧ PySem.W.keepIn K (.ref f) = true ∧ Binds K fd ps []
theorem roomM {k : Nat} {A : Around} {v : Option Value} (r : Room k A) : L2H.RoomH k (A.mark v) := ⟨r.dp, r.un⟩
section
variable {X : Cx} {k : Nat} {x : Str} {ps : List Str} {sp : Sp} {S : L2.St → XK} {Z : Addr × Obj → Prop} {p : Addr × Obj} {q pos : Pos} {e : Expr} {es : List Expr} {t : TA}
theorem pe_clP (c : ClP X.prog X.w X.K X.mg X.base k x ps Z sp) (hp : p ∈ X.pn) (hz : Z p) (hr : L2H.RoomH k X.A) (hg : Gl X x) (hx : Pas X S) (ha : PA X (e :: es) t)
    (hdb : (x == ("__debug__" : Str)) = false := by decide) (he : starEach (e :: es) X.env = (false, eval e X.env) :: starEach es X.env := by rfl) (hpl : (backTo pos (starEach es X.env)).any (·.1) = false := by rfl) : PE X (.Call (.Name x q) (e :: es) [] pos) (tCallS sp S t) := by
  obtain ⟨f, fd, F, hm, kp, b⟩ := c.ex
  refine ⟨fun pins s σ H Q I h => wpAny_Call_Name_kw (ld_glob I hg hm ?_ hdb)⟩
  refine PySem.W.callWith_K (h₀ := X.base) I.ok.mod.kin kp (thn (ha.run pos pins s σ H _ I h) fun us s1 ⟨xs, H1, I1, r, want⟩ => ⟨I1.kIn, ?_⟩) he hpl
  have len : us.length = ps.length := by rw [← r.length]; exact F.ln _ _ _ _ want
  have bnd := b s1 us I1.kIn (by rw [List.append_nil]; exact len)
  rw [List.append_nil] at bnd
  obtain ⟨p1, p2, p3, p4, p5⟩ := I1.pin p (List.mem_append_left _ hp)
  have pin : L2H.PinOk X.stack H1 s1 p := ⟨p1, p2, fun m => (List.mem_cons.mp (I1.stkSub p.1 m)).elim p3 p4, p5⟩
  refine wpAny_call (codeAny_mono (F.go X.A X.stack s1 H1 ⟨us, []⟩ us xs Q (S σ) p hz hr pin I1.env0 bnd r want) fun res s2 got => ?_)
  match res, got with
  | .error er, got => exact hx σ pins H1 s1 er s2 I1 got
  | .ok (.ret u), got => exact I1.after got
  | .ok .next, got => exact got.elim
  | .ok .brk, got => exact got.elim
  | .ok .cont, got => exact got.elim
/-- isinstance(e, c), e's object among the pins -/
theorem call_isP {a C : Addr} {o : Obj} (hp : (a, o) ∈ X.pn) (c : ExcC X.K C) (hz : Zc (.ref C) none o) (hf : ∃ vs, o.data = .fields vs) : CallR X (.builtin "isinstance") (rIsE X.K C a) := by
  intro pins s σ H xs us Q I r ⟨cl, cv, b, exs, hcv, hk, want⟩
  subst exs
  cases r with
  | cons r1 rr =>
    cases rr with
    | cons r2 r3 =>
      cases r3
      cases r1
      have ev := hcv _ r2
      subst ev
      have here := (I.pin (a, o) (List.mem_append.mpr (.inl hp))).1
      obtain ⟨vs, hv⟩ := hf
      have J : PySem.W.InstAt s.heap a o C none := by
        obtain ⟨ocl, odi, oda, osl⟩ := o
        obtain ⟨z1, z2⟩ := hz
        dsimp only at z1 z2 hv
        subst z1 z2 hv
        exact ⟨here, rfl, rfl, trivial⟩
      exact PySem.W.kia_one (PySem.W.handS_kitx_exc c.hg c.hk c.hs c.hd c.ha c.hn c.ht c.hm) I.kIn J hk (fun z => nomatch z) fun tk => ⟨.bl b, H, I.kept (t' := tk) fun _ _ z => z, rfl, want⟩
end
def Zp (a C : Addr) (p : Addr × Obj) : Prop := p.1 = a ∧ Zc (.ref C) none p.2 ∧ ∃ vs, p.2.data = .fields vs
theorem clP_of {P : Program} {w : World} {K : PySem.W.Frag} {mg : Str → Option Value} {base : Heap} {x qual : Str} {st : Stmt} {f : Addr} {fd : FuncData} {N ps : List Str} {k : Nat} {Φ : Fn} {a C : Addr} (t : XK → TS) (F : Fun K x qual st f fd) (S : FnScope N ps (defScope st))
    (len : ∀ ds R N' M', Φ ds R N' M' → ds.length = ps.length) (sem : Sem K Φ N t)
    (der : ∀ (cdv : Value) (A : Around) (outer : List Env) (s : Shared) (H : Hp) (E : XK) (o : Obj), Zc (.ref C) none o → (∃ vs, o.data = .fields vs) → PSs (L2H.cxH (L2.CX P w) P w K mg base N qual (defScope st) f cdv A outer s H E (a, o)) (defBody st) (t E)) :
    FnP P w K mg base (k + 1) f fd ps (Zp a C) (spD K Φ) :=
  fnP_of F S (fun vs H Q E h => sp_len len h) fun cdv A outer s H xs Q E p hz h => by
    obtain ⟨p1, p2⟩ := p
    obtain ⟨rfl, h2, h3⟩ := hz
    exact ⟨t E, der cdv A outer s H E p2 h2 h3, fn_sem (t := t) sem h⟩
/-! the class of a caught error -/
def dOf : Value → Addr
  | .ref C => C
  | _ => 0
theorem zc_of2 {K : PySem.W.Frag} {cE : Value} {xE : Option Addr} {o : Obj} (h : (∃ C, cE = .ref C ∧ ExcC K C) ∧ xE = none) (z : Zc cE xE o) : Zc (.ref (dOf cE)) none o := by
  obtain ⟨⟨C, rfl, _⟩, rfl⟩ := h
  exact z
theorem ec_of2 {K : PySem.W.Frag} {cE : Value} {xE : Option Addr} (h : (∃ C, cE = .ref C ∧ ExcC K C) ∧ xE = none) : ExcC K (dOf cE) := by
  obtain ⟨⟨C, rfl, c⟩, rfl⟩ := h
  exact c
local macro_rules | `(tactic| walk_at "ls") => `(tactic| first | exact Ls.d _ | exact Ls.own (i := 0) rfl | exact Ls.own (i := 1) rfl | exact Ls.own (i := 2) rfl | exact Ls.own (i := 3) rfl | exact Ls.own (i := 4) rfl | exact Ls.own (i := 5) rfl | exact Ls.own (i := 6) rfl | exact Ls.own (i := 7) rfl | exact Ls.own (i := 8) rfl | exact Ls.own (i := 9) rfl | exact Ls.own (i := 10) rfl)
local macro_rules | `(tactic| walk_at "vw") => `(tactic| first | exact Vw.d _ | exact Vw.own (i := 0) rfl | exact Vw.own (i := 1) rfl | exact Vw.own (i := 2) rfl | exact Vw.own (i := 3) rfl | exact Vw.own (i := 4) rfl | exact Vw.own (i := 5) rfl)
local macro_rules | `(tactic| walk_at "sq") => `(tactic| first | exact Sq.t _ | (refine' Sq.l ?vwz1; walk_at "vw"))
local macro_rules | `(tactic| walk_at "dep") => `(tactic| first | exact dep_l (Nat.zero_le 60) | exact dep_r (Nat.zero_le 60) | exact dep_l (dep_map fun _ => Nat.zero_le 10) | exact dep_r (dep_map fun _ => Nat.zero_le 10) | exact dep_l (by decide) | exact dep_r (by decide))
local macro_rules | `(tactic| walk_at "ri") => `(tactic| first | rfl)
local macro_rules | `(tactic| walk_at "rv") => `(tactic| first
  | ((with_reducible exact rv_plusI))
  | ((with_reducible refine' rv_of_F (rvf_plusM ?xz2 ?yz2 ?lz2)); (case' xz2 => walk_at "ls"); (case' yz2 => walk_at "ls"))
  | ((with_reducible refine' rv_of_F (rvf_plus ?xzp ?yzp ?lzp)); (case' xzp => walk_at "ls"); (case' yzp => walk_at "ls"))
  | ((with_reducible refine' rv_plusS ?lz3))
  | ((with_reducible exact rv_minus)) | ((with_reducible exact rv_lt)) | ((with_reducible exact rv_le)) | ((with_reducible exact rv_gt)) | ((with_reducible exact rv_ge))
  | ((with_reducible refine' rv_div ?cz4); (try (case cz4 => first | exact ⟨by decide, by decide⟩ | exact pws_pos _ _)))
  | ((with_reducible refine' rv_mod ?cz5); (try (case cz5 => decide)))
  | ((with_reducible refine' rv_times ?cz6); (try (case cz6 => first | exact .inl ⟨by omega, by omega⟩ | exact .inr ⟨by omega, by omega⟩)))
  | ((with_reducible refine' rv_pow ?cz7); (try (case cz7 => exact ⟨by decide, by decide, by decide⟩)))
  | ((with_reducible refine' rv_eq ?xz8 ?yz8 ?mz8); (case' xz8 => walk_at "vw"); (case' yz8 => walk_at "vw"); (try (case mz8 => walk_at "dep")))
  | ((with_reducible refine' rv_ne ?xz9 ?yz9 ?mz9); (case' xz9 => walk_at "vw"); (case' yz9 => walk_at "vw"); (try (case mz9 => walk_at "dep")))
  | ((with_reducible exact rv_isN)) | ((with_reducible exact rv_notN))
  | ((with_reducible refine' rv_ixs ?hz10))
  | ((with_reducible refine' rv_ixT ?hz11))
  | ((with_reducible refine' rv_ixS ?lz12 ?hz12))
  | ((with_reducible refine' rv_ixLM ?xz13 ?hz13); (case' xz13 => walk_at "ls"))
  | ((with_reducible refine' rv_ixL ?xz14 ?hz14); (case' xz14 => walk_at "ls"))
  | ((with_reducible refine' rv_in ?xz15 ?yz15 ?mz15); (case' xz15 => walk_at "vw"); (case' yz15 => walk_at "sq"))
  | ((with_reducible refine' rv_nin ?xz16 ?yz16 ?mz16); (case' xz16 => walk_at "vw"); (case' yz16 => walk_at "sq")))
local macro_rules | `(tactic| walk_at "ea") => `(tactic| first
  | ((with_reducible exact ea_nil))
  | ((with_reducible refine' ea_cons ?hz17 ?tz17); (case' hz17 => walk_at "ev"); (case' tz17 => walk_at "ea")))
local macro_rules | `(tactic| walk_at "ex") => `(tactic| first
  | ((with_reducible exact ex_nil))
  | ((with_reducible refine' ex_cons ?hz18 ?tz18); (case' hz18 => walk_at "ev"); (case' tz18 => walk_at "ex")))
local macro_rules | `(tactic| walk_at "eo") => `(tactic| first
  | ((with_reducible exact eo_none))
  | ((with_reducible refine' eo_some ?hz19); (case' hz19 => walk_at "ev")))
local macro_rules | `(tactic| walk_at "ei") => `(tactic| first
  | ((with_reducible refine' ei_list ?hz20); (case' hz20 => walk_at "ev"))
  | ((with_reducible refine' ei_tup ?hz21); (case' hz21 => walk_at "ev"))
  | ((with_reducible refine' ei_rng1M ?hz22 ?nz22); (case' hz22 => walk_at "ev"))
  | ((with_reducible refine' ei_rng2M ?hz23 ?kz23 ?nz23); (case' hz23 => walk_at "ev"); (case' kz23 => walk_at "ev")))
local macro_rules | `(tactic| walk_at "evf") => `(tactic| first
  | ((with_reducible refine' evf_lst ?hz24 ?lz24); (case' hz24 => walk_at "ex"); (try (case lz24 => first | decide | simp)))
  | ((with_reducible refine' evf_slM ?hz25 ?az25 ?bz25 ?lz25); (case' hz25 => walk_at "ev"); (case' az25 => walk_at "eo"); (case' bz25 => walk_at "eo"); (case' lz25 => walk_at "ls"))
  | ((with_reducible refine' evf_sls ?hz26 ?az26 ?bz26 ?lz26); (case' hz26 => walk_at "ev"); (case' az26 => walk_at "eo"); (case' bz26 => walk_at "eo"))
  | ((with_reducible refine' evf_sl ?hz27 ?az27 ?bz27 ?lz27); (case' hz27 => walk_at "ev"); (case' az27 => walk_at "eo"); (case' bz27 => walk_at "eo"); (case' lz27 => walk_at "ls"))
  | ((with_reducible refine' evf_list ?hz28 ?lz28); (case' hz28 => walk_at "ev"); (case' lz28 => walk_at "ls"))
  | ((with_reducible refine' evf_lcI0 (α := _) _ ?hz29 ?jz29 ?ez29); (case' hz29 => walk_at "ei"); (case jz29 => decide); (case' ez29 => (intro x hx; walk_at "ev")))
  | ((with_reducible refine' evf_lcI (α := _) _ _ ?hz30 ?jz30 ?tz30 ?ez30); (case' hz30 => walk_at "ei"); (case jz30 => decide); (case' tz30 => (intro x hx; walk_at "et")); (case' ez30 => (intro x hx hf; walk_at "ev")))
  | ((with_reducible refine' evf_callP ?az31 ?fz31); (case' az31 => walk_at "ea"); (case' fz31 => walk_at "fn"))
  | ((with_reducible refine' evf_op ?az32 ?bz32 ?rz32); (case' az32 => walk_at "ev"); (case' bz32 => walk_at "ev"); (case' rz32 => ((with_reducible refine' rvf_plusM ?xz32 ?yz32 ?lz32); (case' xz32 => walk_at "ls"); (case' yz32 => walk_at "ls")))))
local macro_rules | `(tactic| walk_at "et") => `(tactic| first
  | ((with_reducible exact et_yes))
  | ((with_reducible refine' et_test ?hz33); (case' hz33 => walk_at "ev"))
  | ((with_reducible refine' et_val ?hz34); (case' hz34 => walk_at "ev"))
  | ((with_reducible refine' et_not ?hz35); (case' hz35 => walk_at "et"))
  | ((with_reducible refine' et_and ?hz36 ?kz36); (case' hz36 => walk_at "et"); (case' kz36 => (intro hk; walk_at "et")))
  | ((with_reducible refine' et_or ?hz37 ?kz37); (case' hz37 => walk_at "et"); (case' kz37 => (intro hk; walk_at "et"))))
local macro_rules | `(tactic| walk_at "ev") => `(tactic| first
  | ((with_reducible refine' ev_var ?hvr); (case hvr => rfl))
  | ((with_reducible exact ev_int)) | ((with_reducible exact ev_str)) | ((with_reducible exact ev_bl)) | ((with_reducible exact ev_non))
  | ((with_reducible refine' ev_op ?az39 ?bz39 ?rz39); (case' az39 => walk_at "ev"); (case' bz39 => walk_at "ev"); (case' rz39 => walk_at "rv"))
  | ((with_reducible refine' ev_neg ?az40); (case' az40 => walk_at "ev"))
  | ((with_reducible refine' ev_not ?az41); (case' az41 => walk_at "ev"))
  | ((with_reducible refine' ev_and ?az42 ?bz42); (case' az42 => walk_at "ev"); (case' bz42 => (intro hk; walk_at "ev")))
  | ((with_reducible refine' ev_or ?az43 ?bz43); (case' az43 => walk_at "ev"); (case' bz43 => (intro hk; walk_at "ev")))
  | ((with_reducible refine' ev_chain ?az44 ?bz44 ?rz44 ?cz44); (case' az44 => walk_at "ev"); (case' bz44 => walk_at "ev"); (case' rz44 => walk_at "rv"); (case' cz44 => (intro hk; (refine' ⟨?c1z44, ?c2z44⟩; (case' c1z44 => walk_at "ev"); (case' c2z44 => walk_at "rv")))))
  | ((with_reducible refine' ev_tup ?az45 ?lz45); (case' az45 => walk_at "ex"); (try (case lz45 => first | decide | simp)))
  | ((with_reducible refine' ev_lenL ?az46 ?lz46); (case' az46 => walk_at "ev"); (case' lz46 => walk_at "ls"))
  | ((with_reducible refine' ev_lens ?az47); (case' az47 => walk_at "ev"))
  | ((with_reducible refine' ev_lenS ?az48 ?lz48); (case' az48 => walk_at "ev"))
  | ((with_reducible refine' ev_lenT ?az49); (case' az49 => walk_at "ev"))
  | ((with_reducible refine' ev_int1 ?az50); (case' az50 => walk_at "ev"))
  | ((with_reducible refine' ev_min2 ?az51 ?bz51); (case' az51 => walk_at "ev"); (case' bz51 => walk_at "ev"))
  | ((with_reducible refine' ev_max2 ?az52 ?bz52); (case' az52 => walk_at "ev"); (case' bz52 => walk_at "ev"))
  | ((with_reducible refine' ev_isi ?az53 ?vz53 ?tz53 ?kz53); (case' az53 => walk_at "ev"); (case' vz53 => walk_at "vw"); (case tz53 => rfl); (case kz53 => decide +kernel))
  | ((with_reducible refine' ev_cnt ?az54 ?lz54 ?bz54 ?mz54); (case' az54 => walk_at "ev"); (case' lz54 => walk_at "ls"); (case' bz54 => walk_at "ev"))
  | ((with_reducible refine' ev_all ?az55 ?lz55); (case' az55 => walk_at "ev"); (case' lz55 => walk_at "ls"))
  | ((with_reducible refine' ev_sum ?az56 ?lz56); (case' az56 => walk_at "ev"); (case' lz56 => walk_at "ls"))
  | ((with_reducible refine' ev_callP ?az57 ?fz57); (case' az57 => walk_at "ea"); (case' fz57 => walk_at "fn"))
  | ((with_reducible refine' ev_frz ?az58); (case' az58 => walk_at "evf"))
  | ((with_reducible refine' ev_callP ?azq ?fzq); (case' azq => walk_at "ea")))
local macro_rules | `(tactic| walk_at "ix") => `(tactic| first | omega | (simp only [List.mem_range] at *; omega))
local macro_rules | `(tactic| walk_at "ev") => `(tactic| ((with_reducible refine' ev_pws ?hpws ?ipws); (case' hpws => walk_at "ev"); (try (case ipws => walk_at "ix"))))
local macro_rules | `(tactic| walk_at "ev") => `(tactic| ((with_reducible refine' ev_updown ?hupd ?iupd); (case' hupd => walk_at "ev"); (try (case iupd => omega))))
local macro_rules | `(tactic| walk_at "ev") => `(tactic| ((with_reducible refine' ev_pairB ?apb ?bpb ?cpb); (case' apb => walk_at "ev"); (case' bpb => walk_at "ev"); (case' cpb => walk_at "ev")))
def Φ_ask_levels (A : Ad) : Fn := fun ds R N M => ∃ xs, ds = [.d (.list xs)] ∧ R = [] ∧ (1 ≤ xs.length ∧ xs.length ≤ 8 → N (.d .none) []) ∧ (¬ (1 ≤ xs.length ∧ xs.length ≤ 8) → M (.ref A.bf) [])
-- NEED fl
def Φ_m_init (A : Ad) : Fn := fun ds R N M => ∃ x lv, ds = [.r x, .d (.list (lv.map .bool))] ∧ R = [(x, .ins A.C [])] ∧ (1 ≤ lv.length ∧ lv.length ≤ 8 → ∀ a : Fa, a.f = x → N (.d .none) (flR A.C a (newS lv))) ∧ (¬ (1 ≤ lv.length ∧ lv.length ≤ 8) → ∀ R', M (.ref A.bf) R')
/-- Flight(levels) -/
theorem v_make {K : PySem.W.Frag} {A : Ad} {Ek : WX} {δ : DEnv} {R : Res} {te : TE} {S : L2.St → XK} {lv : List Bool} {N : D → Res → Prop} {M : Value → Res → Prop} (h : Ev K δ R te (.d (.list (lv.map .bool)))) (n : 1 ≤ lv.length ∧ lv.length ≤ 8 → ∀ a : Fa, N (.r a.f) (flR A.C a (newS lv) ++ R)) (m : ¬ (1 ≤ lv.length ∧ lv.length ≤ 8) → M (.ref A.bf) R) (hE : ∀ c R' σ H', M c R' → Ek c none σ H' → S σ c none H') :
    EvE K Ek δ R (tMakeS A.C (spD K (Φ_m_init A)) S (tCons te tNil)) N M :=
  ee_make (ea_cons h ea_nil) (fun x => ⟨x, lv, rfl, rfl, fun q a e => ⟨rfl, by subst e; exact n q a⟩, fun q R' => m q⟩) hE
/-- what bears scalars alone -/
def scalO : D → Bool
  | .d x => scalD x
  | .r _ => true
  | .s _ => false
inductive ScalR : RO → Prop
  | lst {ds : List PyData} (h : ∀ d ∈ ds, scalD d = true) : ScalR (.lst ds)
  | ins {C : Addr} {fs : List (Str × D)} (h : ∀ p ∈ fs, scalO p.2 = true) : ScalR (.ins C fs)
  | dic {kvs : List (Key × D)} (h : ∀ p ∈ kvs, scalO p.2 = true) : ScalR (.dic kvs)
theorem HD.scal {K : PySem.W.Frag} {G G' : Hp} : ∀ {d : D} {v : V}, scalO d = true → HD K G v d → HD K G' v d
  | .d _, _, s, h => Hv.scal h s
  | .r _, _, _, h => h
  | .s _, _, s, _ => by cases s
theorem Hvs.scal {G G' : Hp} : ∀ {ds : List PyData} {vs : List V}, (∀ d ∈ ds, scalD d = true) → Hvs G vs ds → Hvs G' vs ds
  | [], _, _, h => by cases h; exact .nil
  | d :: ds, _, s, h => by
    cases h with
    | cons a b => exact .cons (Hv.scal a (s d List.mem_cons_self)) (Hvs.scal (fun x hx => s x (List.mem_cons_of_mem _ hx)) b)
theorem Fvs.scal {K : PySem.W.Frag} {G G' : Hp} {κ : Type} {vs : List (κ × V)} {ds : List (κ × D)} (s : ∀ p ∈ ds, scalO p.2 = true) (h : Fvs K G vs ds) : Fvs K G' vs ds := by
  induction h with
  | nil => exact .nil
  | cons a b ih => exact .cons (HD.scal (s _ List.mem_cons_self) a) (ih fun p hp => s p (List.mem_cons_of_mem _ hp))
theorem Own1.scal {K : PySem.W.Frag} {G G' H : Hp} {a : Addr} {q : RO} (s : ScalR q) (h : Own1 K G H a q) : Own1 K G' H a q := by
  cases s with
  | lst s => obtain ⟨vs, h1, h2, h3⟩ := h; exact ⟨vs, h1, h2, h3.scal s⟩
  | ins s => obtain ⟨dx, vs, h1, h2⟩ := h; exact ⟨dx, vs, h1, h2.scal s⟩
  | dic s => obtain ⟨vs, h1, h2, h3⟩ := h; exact ⟨vs, h1, h2, h3.scal s⟩
theorem flR_scal {C : Addr} {a : Fa} {S : Fs} : ∀ p ∈ flR C a S, ScalR p.2 := by
  intro p hp
  unfold flR at hp
  rcases List.mem_cons.mp hp with e | hp
  · subst e
    refine .ins fun q hq => ?_
    unfold fldF at hq
    simp only [List.mem_cons, List.not_mem_nil, or_false] at hq
    rcases hq with e | e | e | e | e | e <;> (subst e; rfl)
  · rcases List.mem_cons.mp hp with e | hp
    · subst e
      refine .lst fun d hd => ?_
      obtain ⟨x, _, rfl⟩ := List.mem_map.mp hd
      rfl
    · rcases List.mem_cons.mp hp with e | hp
      · subst e
        refine .lst fun d hd => ?_
        obtain ⟨x, _, rfl⟩ := List.mem_map.mp hd
        rfl
      · rcases List.mem_cons.mp hp with e | hp
        · subst e
          refine .dic fun d hd => ?_
          obtain ⟨x, _, rfl⟩ := List.mem_map.mp hd
          rfl
        · have e : p = (a.d, .lst (S.done.map .int)) := by simpa using hp
          subst e
          refine .lst fun d hd => ?_
          obtain ⟨x, _, rfl⟩ := List.mem_map.mp hd
          rfl
/-- Flight(levels), the levels an own list -/
theorem ee_makeZ {K : PySem.W.Frag} {A : Ad} {Ek : WX} {δ : DEnv} {R : Res} {te : TE} {S : L2.St → XK} {d : D} {lv : List Bool} {N : D → Res → Prop} {M : Value → Res → Prop} (h1 : Ev K δ R te d) (hv : Vw R d (.list (lv.map .bool))) (h8 : 1 ≤ lv.length ∧ lv.length ≤ 8) (n : ∀ a : Fa, N (.r a.f) (flR A.C a (newS lv) ++ R)) :
    EvE K Ek δ R (tMakeS A.C (spD K (Φ_m_init A)) S (tCons te tNil)) N M := fun G H σ Q ok en k _ => h1 G H σ _ ok en fun v G1 H1 ok1 l1 q1 => fun x dx nx ndx ne => by
  have hv1 := hv.hv ok1 q1
  have nx2 : upd H1 dx (.own x) x = none := by rw [upd_ne ne.symm]; exact nx
  have g12 : Gx H1 (upd H1 dx (.own x)) := Gx.new ndx
  have okc : Ok K (upd H1 dx (.own x)) (upd (upd H1 dx (.own x)) x (.ins A.C dx [])) [(x, .ins A.C [])] := ⟨Gx.new nx2, fun p hp => by
    have e : p = (x, .ins A.C []) := by simpa using hp
    subst e
    exact ⟨nx2, dx, [], upd_same, .nil⟩, by simp [adr]⟩
  refine ⟨upd H1 dx (.own x), [.r x, .d (.list (lv.map .bool))], [(x, .ins A.C [])], fun d R' => d = .d .none ∧ ∃ a : Fa, a.f = x ∧ R' = flR A.C a (newS lv), fun _ _ => False, .cons rfl (.cons (Hv.mono g12 _ hv1) .nil), okc, ⟨x, lv, rfl, rfl, fun _ a e => ⟨rfl, a, e, rfl⟩, fun q => absurd h8 q⟩, fun d R' u G' H' n' ok' le hu => ?_, fun _ _ _ _ h => h.elim⟩
  obtain ⟨rfl, a, rfl, rfl⟩ := n'
  cases (show Hv G' u .none from hu)
  have gH : Gx H1 H' := (g12.trans le.g).trans ok'.ex
  have gG : Gx G1 G' := (ok1.ex.trans g12).trans le.g
  have fresh : ∀ b ∈ adr (flR A.C a (newS lv)), H1 b = none := fun b hb => by
    rcases le.r b hb with z | z
    · have e : b = a.f := by simpa [adr] using z
      rw [e]; exact nx
    · have g3 : Gx H1 (upd (upd H1 dx (.own a.f)) a.f (.ins A.C dx [])) := g12.trans (Gx.new nx2)
      exact g3.free z
  refine ⟨rfl, k (.r a.f) (flR A.C a (newS lv) ++ R) (.ref a.f) G1 H' (n a) ⟨ok1.ex.trans gH, fun p hp => ?_, ?_⟩ (l1.trans ⟨Gx.refl _, fun b o e _ => gH b o e, fun b e => .inl e, fun b m => ?_, fun b e => ?_⟩) rfl⟩
  · rcases List.mem_append.mp hp with hp | hp
    · obtain ⟨z1, z2⟩ := ok'.own p hp
      exact ⟨gG.free z1, Own1.scal (flR_scal p hp) z2⟩
    · obtain ⟨z1, z2⟩ := ok1.own p hp
      exact ⟨z1, Own1.mono (Gx.refl _) (fun o e => gH _ _ e) z2⟩
  · show ((flR A.C a (newS lv) ++ R).map (·.1)).Nodup
    rw [List.map_append]
    refine List.nodup_append.mpr ⟨ok'.nd, ok1.nd, fun y hy z hz e => ?_⟩
    obtain ⟨u, hu⟩ := ok1.there (show z ∈ adr R from hz)
    have := fresh y hy
    rw [e, hu] at this
    cases this
  · have m' : b ∈ (flR A.C a (newS lv) ++ R).map (·.1) := m
    rw [List.map_append, List.mem_append] at m'
    rcases m' with m' | m'
    · exact .inr (fresh b m')
    · exact .inl m'
  · cases q : H1 b with
    | none => exact absurd q e
    | some o => rw [gH b o q]; simp
-- NEED fl
def Φ_m_top (A : Ad) : Fn := fun ds R N M => ∃ (a : Fa) (S : Fs), ds = [.r a.f] ∧ R = flR A.C a S ∧ N (.d (.int (Fs.n S + 1))) (flR A.C a S)
theorem v_m_top {K : PySem.W.Frag} {A : Ad} {δ : DEnv} {R : Res} {f : Res → Res} {a : Fa} {S : Fs} {te : TE} {Sx : L2.St → XK} (h : Ev K δ R te (.r a.f)) (hi : Inn (flR A.C a S) R f) : Ev K δ R (tMethS' A.C "top" (spD K (Φ_m_top A)) Sx te tNil) (.d (.int (Fs.n S + 1))) :=
  ev_methN h hi rfl rfl ea_nil fun hb => ⟨a, S, rfl, rfl, rfl, hb⟩
-- NEED fl
def Φ_m_boats (A : Ad) : Fn := fun ds R N M => ∃ (a : Fa) (S : Fs), ds = [.r a.f] ∧ R = flR A.C a S ∧ WF S ∧ (∀ b, N (.r b) ((b, .lst ((boatsM S).map optD)) :: flR A.C a S))
theorem v_m_boats {K : PySem.W.Frag} {A : Ad} {δ : DEnv} {R : Res} {f : Res → Res} {a : Fa} {S : Fs} {te : TE} {Sx : L2.St → XK} (w : WF S) (h : Ev K δ R te (.r a.f)) (hi : Inn (flR A.C a S) R f) : EvF K δ R (tMethS' A.C "boats" (spD K (Φ_m_boats A)) Sx te tNil) ((boatsM S).map optD) :=
  evf_methN h hi rfl rfl ea_nil fun hn => ⟨a, S, rfl, rfl, w, fun b => ⟨b, rfl, hn _⟩⟩
-- NEED fl
def Φ_m_waiting (A : Ad) : Fn := fun ds R N M => ∃ (a : Fa) (S : Fs) (u : Bool), ds = [.r a.f, .d (sd u)] ∧ R = flR A.C a S ∧ WF S ∧ (∀ b, N (.r b) ((b, .lst ((waitM S u).map .int)) :: flR A.C a S))
theorem v_m_waiting {K : PySem.W.Frag} {A : Ad} {δ : DEnv} {R : Res} {f : Res → Res} {a : Fa} {S : Fs} {te tb : TE} {Sx : L2.St → XK} {u : Bool} (w : WF S) (h : Ev K δ R te (.r a.f)) (h2 : Ev K δ R tb (.d (sd u))) (hi : Inn (flR A.C a S) R f) : EvF K δ R (tMethS' A.C "waiting" (spD K (Φ_m_waiting A)) Sx te (tCons tb tNil)) ((waitM S u).map .int) :=
  evf_methN h hi rfl rfl (ea_cons h2 ea_nil) fun hn => ⟨a, S, u, rfl, rfl, w, fun b => ⟨b, rfl, hn _⟩⟩
theorem keys_sorted {S : Fs} (w : WF S) : (keysOf S.places).Pairwise (· ≤ ·) := w.ks.imp fun h => Int.le_of_lt h
-- NEED fl
def Φ_m_place (A : Ad) : Fn := fun ds R N M => ∃ (a : Fa) (S : Fs) (b : Int), ds = [.r a.f, .d (.int b)] ∧ R = flR A.C a S ∧ (∀ v, plc S.places b = some v → N (.d (.int v)) (flR A.C a S)) ∧ (plc S.places b = none → M (.ref A.nb) (flR A.C a S))
theorem v_m_place {K : PySem.W.Frag} {A : Ad} {δ : DEnv} {R : Res} {f : Res → Res} {a : Fa} {S : Fs} {te tb : TE} {Sx : L2.St → XK} {b v : Int} (hb : plc S.places b = some v) (h : Ev K δ R te (.r a.f)) (h2 : Ev K δ R tb (.d (.int b))) (hi : Inn (flR A.C a S) R f) : Ev K δ R (tMethS' A.C "place" (spD K (Φ_m_place A)) Sx te (tCons tb tNil)) (.d (.int v)) :=
  ev_methN h hi rfl rfl (ea_cons h2 ea_nil) fun hn => ⟨a, S, b, rfl, rfl, fun x hx => ⟨by rw [hb] at hx; cases hx; rfl, hn⟩, fun q => by rw [hb] at q; cases q⟩
-- NEED fl
def Φ_m_come (A : Ad) : Fn := fun ds R N M => ∃ (a : Fa) (S : Fs) (u : Bool), ds = [.r a.f, .d (sd u)] ∧ R = flR A.C a S ∧ WF S ∧ N (.d (.int S.sides.length)) (flR A.C a (comeS S u))
theorem come_new {S : Fs} (w : WF S) : ¬ (S.places.any fun q => decide (q.1 = (S.sides.length : Int))) = true := by
  intro h
  obtain ⟨q, hq, e⟩ := List.any_eq_true.mp h
  have := of_decide_eq_true e
  have := w.kb q hq
  omega
theorem come_put {S : Fs} (w : WF S) (v : Int) : pput S.places S.sides.length v = S.places ++ [((S.sides.length : Int), v)] := by
  unfold pput
  rw [if_neg (come_new w)]
theorem come_put2 {S : Fs} (w : WF S) (v v' : Int) : pput (S.places ++ [((S.sides.length : Int), v)]) S.sides.length v' = S.places ++ [((S.sides.length : Int), v')] := by
  unfold pput
  rw [if_pos (List.any_eq_true.mpr ⟨_, List.mem_append_right _ List.mem_cons_self, by simp⟩), List.map_append]
  congr 1
  · conv => rhs; rw [← List.map_id S.places]
    refine List.map_congr_left fun q hq => ?_
    have := w.kb q hq
    rw [if_neg (by omega)]; rfl
  · simp
-- NEED fl
def Φ_m_let (A : Ad) : Fn := fun ds R N M => ∃ (a : Fa) (S : Fs) (g : Int), ds = [.r a.f, .d (.int g)] ∧ R = flR A.C a S ∧ (letW S g = 0 → N (.d (.int (letS S g).taken)) (flR A.C a (letS S g))) ∧ (letW S g = 1 → M (.ref A.ng) (flR A.C a S)) ∧ (letW S g = 2 → M (.ref A.nf) (flR A.C a S))
-- NEED fl
def Φ_m_is_level (A : Ad) : Fn := fun ds R N M => ∃ (a : Fa) (S : Fs) (g : Int), ds = [.r a.f, .d (.int g)] ∧ R = flR A.C a S ∧ 0 ≤ g ∧ g ≤ S.n ∧ N (.d (.bool (levB S g))) (flR A.C a S)
theorem v_m_is_level {K : PySem.W.Frag} {A : Ad} {δ : DEnv} {R : Res} {f : Res → Res} {a : Fa} {S : Fs} {te tb : TE} {Sx : L2.St → XK} {g : Int} (hg : 0 ≤ g ∧ g ≤ S.n) (h : Ev K δ R te (.r a.f)) (h2 : Ev K δ R tb (.d (.int g))) (hi : Inn (flR A.C a S) R f) : Ev K δ R (tMethS' A.C "is_level" (spD K (Φ_m_is_level A)) Sx te (tCons tb tNil)) (.d (.bool (levB S g))) :=
  ev_methN h hi rfl rfl (ea_cons h2 ea_nil) fun hn => ⟨a, S, g, rfl, rfl, hg.1, hg.2, rfl, hn⟩
-- NEED fl
def Φ_m_sail (A : Ad) : Fn := fun ds R N M => ∃ (a : Fa) (S : Fs) (b : Int), ds = [.r a.f, .d (.int b)] ∧ R = flR A.C a S ∧ WF S ∧ (sailW S b = 0 → N (.d (.int (thenM S b))) (flR A.C a (sailS S b))) ∧ (sailW S b = 3 → M (.ref A.nb) (flR A.C a S)) ∧ (sailW S b = 4 → M (.ref A.ns) (flR A.C a S)) ∧ (sailW S b = 5 → M (.ref A.sh) (flR A.C a S)) ∧ (sailW S b = 6 → M (.ref A.oc) (flR A.C a S))
def Φ_read_order (A : Ad) : Fn := fun ds R N M => ∃ z, ds = [.d (.str z)] ∧ R = [] ∧ z.length ≤ 50000 ∧ (∀ o, readC z.cps.toList = some o → z.length ≤ 40 → ∀ a, N (.r a) [(a, .lst (o.map sd))]) ∧ (z.length > 40 ∨ readC z.cps.toList = none → M (.ref A.bt) [])
theorem c_read_order {A : Ad} {N : D → Res → Prop} {M : Value → Res → Prop} {o : List Bool} (h : o.length ≤ 40) (n : ∀ a, N (.r a) [(a, .lst (o.map sd))]) : Φ_read_order A [.d (.str (encT o))] [] N M := by
  have e : readC (encT o).cps.toList = some o := by
    show readC (o.map lcode).toArray.toList = some o
    rw [List.toList_toArray]
    exact readC_enc o
  refine ⟨encT o, rfl, rfl, by rw [encT_len]; omega, fun p hp _ => ?_, fun hp => ?_⟩
  · rw [e] at hp
    cases hp
    exact n
  · rw [encT_len, e] at hp
    rcases hp with hp | hp
    · omega
    · cases hp
theorem c_read_bad {A : Ad} {N : D → Res → Prop} {M : Value → Res → Prop} {z : Str} (hl : z.length ≤ 50000) (h : z.length > 40 ∨ readC z.cps.toList = none) (m : M (.ref A.bt) []) : Φ_read_order A [.d (.str z)] [] N M := by
  refine ⟨z, rfl, rfl, hl, fun p hp h2 => ?_, fun _ => m⟩
  rcases h with h | h
  · omega
  · rw [h] at hp; cases hp
theorem readC_snoc : ∀ (a : List Nat) (c : Nat) (o : List Bool), readC a = some o → readC (a ++ [c]) = (if c = 117 then some (o ++ [true]) else if c = 100 then some (o ++ [false]) else none)
  | [], c, o, h => by
    cases h
    rfl
  | x :: a, c, o, h => by
    have h' : (if x = 117 then (readC a).map (true :: ·) else if x = 100 then (readC a).map (false :: ·) else none) = some o := h
    show (if x = 117 then (readC (a ++ [c])).map (true :: ·) else if x = 100 then (readC (a ++ [c])).map (false :: ·) else none) = _
    cases q : readC a with
    | none =>
      rw [q] at h'
      exfalso
      split at h'
      · cases h'
      · split at h' <;> cases h'
    | some p =>
      rw [q] at h'
      rw [readC_snoc a c p q]
      split at h'
      · rename_i e
        cases h'
        rw [if_pos e]
        split
        · rfl
        · split <;> rfl
      · rename_i e
        split at h'
        · rename_i e2
          cases h'
          rw [if_neg e, if_pos e2]
          split
          · rfl
          · split <;> rfl
        · cases h'
theorem readC_none : ∀ (a b : List Nat), readC a = none → readC (a ++ b) = none
  | [], b, h => by cases h
  | x :: a, b, h => by
    have h' : (if x = 117 then (readC a).map (true :: ·) else if x = 100 then (readC a).map (false :: ·) else none) = none := h
    show (if x = 117 then (readC (a ++ b)).map (true :: ·) else if x = 100 then (readC (a ++ b)).map (false :: ·) else none) = none
    split
    · rename_i e
      rw [if_pos e] at h'
      rw [readC_none a b (by cases q : readC a with | none => rfl | some p => rw [q] at h'; cases h')]; rfl
    · rename_i e
      rw [if_neg e] at h'
      split
      · rename_i e2
        rw [if_pos e2] at h'
        rw [readC_none a b (by cases q : readC a with | none => rfl | some p => rw [q] at h'; cases h')]; rfl
      · rfl
theorem sgn_eq (c d : Nat) (w : Str) (hw : w = ⟨#[d]⟩) : PyData.eqv (.str ⟨#[c]⟩) (.str w) = decide (c = d) := by
  rw [eqv_str, hw, Bool.eq_iff_iff]
  simp
def cellI (ns : List Int) (k : Int) : Int := ns.getD k.toNat 0
def Φ_law_cell_at (A : Ad) : Fn := fun ds R N M => ∃ ns k, ds = [.s ns, .d (.int k)] ∧ R = [] ∧ 0 ≤ k ∧ N (.d (.int (cellI ns k))) []
theorem c_law_cell_at {A : Ad} {N : D → Res → Prop} {M : Value → Res → Prop} {ns : List Int} {k : Int} (h : 0 ≤ k) (n : N (.d (.int (cellI ns k))) []) : Φ_law_cell_at A [.s ns, .d (.int k)] [] N M := ⟨ns, k, rfl, rfl, h, n⟩
local macro_rules | `(tactic| walk_at "fn") => `(tactic| ((with_reducible refine' c_law_cell_at ?hlawcell ?nlawcell); (case nlawcell => exact ⟨rfl, rfl⟩); (try (case hlawcell => omega))))
def Φ_law_boats (A : Ad) : Fn := fun ds R N M => ∃ lv, ds = [.d (.list (lv.map .bool))] ∧ R = [] ∧ (1 ≤ lv.length ∧ lv.length ≤ 8) ∧ ∀ a : Fa, N (.r a.f) (flR A.C a (comeS (comeS (newS lv) true) true))
def exA (A : Ad) : Nat → Addr
  | 0 => A.bf
  | 1 => A.ng
  | 2 => A.nf
  | 3 => A.nb
  | 4 => A.ns
  | 5 => A.sh
  | 6 => A.oc
  | _ => A.bt
def Φ_law_refuses (A : Ad) : Fn := fun ds R N M => ∃ (k : Nat) (c : Int), ds = [.d (.int (k : Nat)), .d (.int c)] ∧ R = [] ∧ k < 8 ∧ 0 ≤ c ∧ ∀ R', M (.ref (exA A k)) R'
section
variable {K : PySem.W.Frag} {Ek : WX} {R : Res} {δ : DEnv} {t u : TS} {P : Post} {ta : TE} {tA : TA} {N N1 : D → Res → Prop} {M : Value → Res → Prop}
theorem x_skip {k : Nat} {i : Int} (h : δ[0]? = some (some (.d (.int (k : Nat))))) (hne : (k : Int) ≠ i) (n : XS K Ek δ R u P) : XS K Ek δ R (tSeq (tIfS (tTest (tOp (rEqP K) (tVar 0) (tC (.int i)))) t tNext) u) P :=
  x_seq (x_if (b := false) (et_is (et_test (ev_op (ev_var h) ev_int (rv_eq (.d _) (.d _) (dep_l (Nat.zero_le 60))))) (by rw [eqv_int]; exact decide_eq_false hne)) (fun z => nomatch z) fun _ => x_nil n)
theorem x_hit {k : Nat} {i : Int} (h : δ[0]? = some (some (.d (.int (k : Nat))))) (he : (k : Int) = i) (n : ∀ Nx, XS K Ek δ R t { P with nx := Nx }) : XS K Ek δ R (tSeq (tIfS (tTest (tOp (rEqP K) (tVar 0) (tC (.int i)))) t tNext) u) P :=
  x_seq (x_if (b := true) (et_is (et_test (ev_op (ev_var h) ev_int (rv_eq (.d _) (.d _) (dep_l (Nat.zero_le 60))))) (by rw [eqv_int]; exact decide_eq_true he)) (fun _ => n _) fun z => nomatch z)
theorem ev_const {p : Addr} : Ev K δ R (fun σ H Q => Q (.ref p) H) (.r p) := fun G H σ Q ok en k => k _ G H ok .refl rfl
/-- a method of what an expression makes -/
theorem ee_methM {C : Addr} {m : Str} {sp : Sp} {S : L2.St → XK} (h1 : EvE K Ek δ R ta N1 M) (h2 : ∀ d R', N1 d R' → ∃ p, d = .r p ∧ EvE K Ek δ R' (tMethS' C m sp S (fun σ H Q => Q (.ref p) H) tA) N M) : EvE K Ek δ R (tMethS' C m sp S ta tA) N M := fun G H σ Q ok en k j =>
  h1 G H σ _ ok en (fun d R' v G' H' n ok' le hv => by
    obtain ⟨p, rfl, q⟩ := h2 d R' n
    cases (show v = .ref p from hv)
    exact q G' H' σ Q ok' (en.mono le.g) (fun d2 R2 v2 G2 H2 n2 o2 l2 => k d2 R2 v2 G2 H2 n2 o2 (le.trans l2)) fun c R2 G2 H2 m2 o2 l2 => j c R2 G2 H2 m2 o2 (le.trans l2)) fun c R' G' H' m ok' le => j c R' G' H' m ok' le
end
abbrev bs2 (lv : List Bool) : Fs := comeS (comeS (newS lv) true) true
theorem wf_bs2 {lv : List Bool} (h : 1 ≤ lv.length ∧ lv.length ≤ 8) : WF (bs2 lv) := wf_come (wf_come (wf_new h) true (show (0 : Nat) < 100 by decide)) true (show (1 : Nat) < 100 by decide)
theorem sail_none {c : Int} (h : 0 ≤ c) : sailW (bs2 [false]) (2 + c) = 3 := by
  have e : plc (bs2 [false]).places (2 + c) = none := by
    refine plc_none ?_
    show 2 + c ∉ [(0 : Int), 1]
    simp; omega
  unfold sailW
  rw [if_pos e]
theorem repS_long {n : Nat} : (repS "u" n).length = n := by
  rw [repS_len]
  show n * 1 = n
  omega
def Φ_law_classes (K : PySem.W.Frag) (A : Ad) (a0 D0 : Addr) : Fn := fun ds R N M => ds = [.r a0] ∧ R = [] ∧ ∃ k : Nat, PySem.W.kitOne K (.ref D0) (.ref A.bf) = some (decide (0 = k)) ∧ PySem.W.kitOne K (.ref D0) (.ref A.ng) = some (decide (1 = k)) ∧ PySem.W.kitOne K (.ref D0) (.ref A.nf) = some (decide (2 = k)) ∧ PySem.W.kitOne K (.ref D0) (.ref A.nb) = some (decide (3 = k)) ∧ PySem.W.kitOne K (.ref D0) (.ref A.ns) = some (decide (4 = k)) ∧ PySem.W.kitOne K (.ref D0) (.ref A.sh) = some (decide (5 = k)) ∧ PySem.W.kitOne K (.ref D0) (.ref A.oc) = some (decide (6 = k)) ∧ PySem.W.kitOne K (.ref D0) (.ref A.bt) = some (decide (7 = k)) ∧ N (.d (.list (((List.range 8).map fun j => decide (j = k)).map .bool))) []
-- NEED i_bf_bf i_bf_ng i_bf_nf i_bf_nb i_bf_ns i_bf_sh i_bf_oc i_bf_bt i_ng_bf i_ng_ng i_ng_nf i_ng_nb i_ng_ns i_ng_sh i_ng_oc i_ng_bt i_nf_bf i_nf_ng i_nf_nf i_nf_nb i_nf_ns i_nf_sh i_nf_oc i_nf_bt i_nb_bf i_nb_ng i_nb_nf i_nb_nb i_nb_ns i_nb_sh i_nb_oc i_nb_bt i_ns_bf i_ns_ng i_ns_nf i_ns_nb i_ns_ns i_ns_sh i_ns_oc i_ns_bt i_sh_bf i_sh_ng i_sh_nf i_sh_nb i_sh_ns i_sh_sh i_sh_oc i_sh_bt i_oc_bf i_oc_ng i_oc_nf i_oc_nb i_oc_ns i_oc_sh i_oc_oc i_oc_bt i_bt_bf i_bt_ng i_bt_nf i_bt_nb i_bt_ns i_bt_sh i_bt_oc i_bt_bt i_bf_ValueError i_ng_ValueError i_nf_ValueError i_nb_ValueError i_ns_ValueError i_sh_ValueError i_oc_ValueError i_bt_ValueError m_bf_le m_ng_le m_nf_le m_nb_le m_ns_le m_sh_le m_oc_le m_bt_le e_bf e_ng e_nf e_nb e_ns e_sh e_oc e_bt
def Φ_law_caught (A : Ad) : Fn := fun ds R N M => ∃ (k : Nat) (c : Int), ds = [.d (.int (k : Nat)), .d (.int c)] ∧ R = [] ∧ k < 8 ∧ 0 ≤ c ∧ N (.d (.bool true)) []
def Φ_law (A : Ad) : Fn := Φ_top
def N_ask_levels : List Str := ["levels"]
def t_ask_levels (K : PySem.W.Frag) (A : Ad) (E : XK) : TS :=
  (tIfS (tNot (tTest (tChain rLe rLe (tC (.int 1)) (tCB (rLen K) (tCons (tVar 0) tNil)) (tC (.int 8))))) (tRz (fun cls d _ H => E cls d H) (.ref A.bf)) tNext)
def N_m_init : List Str := ["self", "levels"]
def t_m_init (K : PySem.W.Frag) (A : Ad) (E : XK) : TS :=
  (tSeq (tDrop (tCallS (spD K (Φ_ask_levels A)) (fun _ => E) (tCons (tVar 1) tNil)))
  (tSeq (sFld K (tVar 0) (tCB (rListS K) (tCons (tVar 1) tNil)) "high")
  (tSeq (sFld K (tVar 0) (tLst tNil) "sides")
  (tSeq (sFld K (tVar 0) tDNewK "places")
  (tSeq (sFld K (tVar 0) (tLst tNil) "done")
  (tSeq (sFld K (tVar 0) (tC (.int 0)) "taken")
  (sFld K (tVar 0) (tC (.int 0)) "given")))))))
def N_m_top : List Str := ["self"]
def t_m_top (K : PySem.W.Frag) (A : Ad) (E : XK) : TS :=
  (tRet (tOp rPlus (tCB (rLen K) (tCons (tFld K (tVar 0) "high") tNil)) (tC (.int 1))))
def N_m_boats : List Str := ["self", "found", "boat", "level"]
def t_m_boats (K : PySem.W.Frag) (A : Ad) (E : XK) : TS :=
  (tSeq (tAsg (tLc (iList K (tFld K (tVar 0) "high")) (gName 3) tYes (tC .non) [3]) (gName 1))
  (tSeq (tFor (iList K (tCB rListD (tCons (tFld K (tVar 0) "places") tNil))) (gName 2) (tIfS (tTest (tChain rLt rLt (tC (.int 0)) (tDGet (tFld K (tVar 0) "places") (tVar 2)) (tMethS' A.C "top" (spD K (Φ_m_top A)) (fun _ => E) (tVar 0) tNil))) (tAsg (tVar 2) (gSub (tVar 1) (tOp rMinus (tDGet (tFld K (tVar 0) "places") (tVar 2)) (tC (.int 1))) rSetL)) tNext))
  (tRet (tVar 1))))
def N_m_waiting : List Str := ["self", "side", "start", "found", "boat"]
def t_m_waiting (K : PySem.W.Frag) (A : Ad) (E : XK) : TS :=
  (tSeq (tAsg (tC (.int 0)) (gName 2))
  (tSeq (tIfS (tTest (tOp (rEqP K) (tVar 1) (tC (.str "down")))) (tAsg (tMethS' A.C "top" (spD K (Φ_m_top A)) (fun _ => E) (tVar 0) tNil) (gName 2)) tNext)
  (tSeq (tAsg (tLc (iList K (tCB (rSortedI K) (tCons (tCB rListD (tCons (tFld K (tVar 0) "places") tNil)) tNil))) (gName 4) (tTest (tOp (rEqP K) (tDGet (tFld K (tVar 0) "places") (tVar 4)) (tVar 2))) (tVar 4) [4]) (gName 3))
  (tRet (tLc (iList K (tVar 3)) (gName 4) (tTest (tOp (rEqP K) (tOp (rIx K) (tFld K (tVar 0) "sides") (tVar 4)) (tVar 1))) (tVar 4) [4])))))
def N_m_place : List Str := ["self", "boat"]
def t_m_place (K : PySem.W.Frag) (A : Ad) (E : XK) : TS :=
  (tSeq (tIfS (tB (tDNotIn (tVar 1) (tFld K (tVar 0) "places"))) (tRz (fun cls d _ H => E cls d H) (.ref A.nb)) tNext)
  (tRet (tDGet (tFld K (tVar 0) "places") (tVar 1))))
def N_m_come : List Str := ["self", "side", "boat"]
def t_m_come (K : PySem.W.Frag) (A : Ad) (E : XK) : TS :=
  (tSeq (tAsg (tCB (rLen K) (tCons (tFld K (tVar 0) "sides") tNil)) (gName 2))
  (tSeq (tDrop (tBM K "list" rAppend (tFld K (tVar 0) "sides") (tCons (tVar 1) tNil)))
  (tSeq (sDPut (tFld K (tVar 0) "places") (tVar 2) (tC (.int 0)))
  (tSeq (tIfS (tTest (tOp (rEqP K) (tVar 1) (tC (.str "down")))) (sDPut (tFld K (tVar 0) "places") (tVar 2) (tMethS' A.C "top" (spD K (Φ_m_top A)) (fun _ => E) (tVar 0) tNil)) tNext)
  (tRet (tVar 2))))))
def N_m_let : List Str := ["self", "gate", "many"]
def t_m_let (K : PySem.W.Frag) (A : Ad) (E : XK) : TS :=
  (tSeq (tAsg (tCB (rLen K) (tCons (tFld K (tVar 0) "high") tNil)) (gName 2))
  (tSeq (tIfS (tNot (tTest (tChain rLe rLe (tC (.int 0)) (tVar 1) (tVar 2)))) (tRz (fun cls d _ H => E cls d H) (.ref A.ng)) tNext)
  (tSeq (tIfS (tOr (tAnd (tTest (tOp rLt (tVar 1) (tVar 2))) (tNot (tB (tOp (rIx K) (tFld K (tVar 0) "high") (tVar 1))))) (tAnd (tTest (tOp rGt (tVar 1) (tC (.int 0)))) (tB (tOp (rIx K) (tFld K (tVar 0) "high") (tOp rMinus (tVar 1) (tC (.int 1))))))) (tRz (fun cls d _ H => E cls d H) (.ref A.nf)) tNext)
  (tSeq (tIfS (tTest (tOp (rEqP K) (tVar 1) (tVar 2))) (sFld K (tVar 0) (tOp rPlus (tFld K (tVar 0) "taken") (tC (.int 1))) "taken") (tAsg (tC (.bl false)) (gSub (tFld K (tVar 0) "high") (tVar 1) rSetL)))
  (tSeq (tIfS (tTest (tOp (rEqP K) (tVar 1) (tC (.int 0)))) (sFld K (tVar 0) (tOp rPlus (tFld K (tVar 0) "given") (tC (.int 1))) "given") (tAsg (tC (.bl true)) (gSub (tFld K (tVar 0) "high") (tOp rMinus (tVar 1) (tC (.int 1))) rSetL)))
  (tRet (tFld K (tVar 0) "taken")))))))
def N_m_is_level : List Str := ["self", "gate", "many"]
def t_m_is_level (K : PySem.W.Frag) (A : Ad) (E : XK) : TS :=
  (tSeq (tAsg (tCB (rLen K) (tCons (tFld K (tVar 0) "high") tNil)) (gName 2))
  (tRet (tAndV (tOrV (tOp (rEqP K) (tVar 1) (tC (.int 0))) (tOp (rIx K) (tFld K (tVar 0) "high") (tOp rMinus (tVar 1) (tC (.int 1))))) (tOrV (tOp (rEqP K) (tVar 1) (tVar 2)) (tNotV (tOp (rIx K) (tFld K (tVar 0) "high") (tVar 1)))))))
def N_m_sail : List Str := ["self", "boat", "here", "side", "row", "step", "gate", "then"]
def t_m_sail (K : PySem.W.Frag) (A : Ad) (E : XK) : TS :=
  (tSeq (tAsg (tMethS' A.C "place" (spD K (Φ_m_place A)) (fun _ => E) (tVar 0) (tCons (tVar 1) tNil)) (gName 2))
  (tSeq (tAsg (tOp (rIx K) (tFld K (tVar 0) "sides") (tVar 1)) (gName 3))
  (tSeq (tAsg (tMethS' A.C "waiting" (spD K (Φ_m_waiting A)) (fun _ => E) (tVar 0) (tCons (tVar 3) tNil)) (gName 4))
  (tSeq (tIfS (tAnd (tTest (tOp (rInP K false) (tVar 1) (tVar 4))) (tTest (tOp (rNeP K) (tOp (rIx K) (tVar 4) (tC (.int 0))) (tVar 1)))) (tRz (fun cls d _ H => E cls d H) (.ref A.ns)) tNext)
  (tSeq (tAsg (tC (.int 1)) (gName 5))
  (tSeq (tAsg (tVar 2) (gName 6))
  (tSeq (tIfS (tTest (tOp (rEqP K) (tVar 3) (tC (.str "down")))) (tSeq (tAsg (tUn rNeg (tC (.int 1))) (gName 5))
  (tAsg (tOp rMinus (tVar 2) (tC (.int 1))) (gName 6))) tNext)
  (tSeq (tIfS (tNot (tB (tMethS' A.C "is_level" (spD K (Φ_m_is_level A)) (fun _ => E) (tVar 0) (tCons (tVar 6) tNil)))) (tRz (fun cls d _ H => E cls d H) (.ref A.sh)) tNext)
  (tSeq (tAsg (tOp rPlus (tVar 2) (tVar 5)) (gName 7))
  (tSeq (tIfS (tAnd (tTest (tChain rLt rLt (tC (.int 0)) (tVar 7) (tMethS' A.C "top" (spD K (Φ_m_top A)) (fun _ => E) (tVar 0) tNil))) (tTest (tOp rNotN (tOp (rIx K) (tMethS' A.C "boats" (spD K (Φ_m_boats A)) (fun _ => E) (tVar 0) tNil) (tOp rMinus (tVar 7) (tC (.int 1)))) (tC .non)))) (tRz (fun cls d _ H => E cls d H) (.ref A.oc)) tNext)
  (tSeq (sDPut (tFld K (tVar 0) "places") (tVar 1) (tVar 7))
  (tSeq (tIfS (tOr (tTest (tOp (rEqP K) (tVar 7) (tC (.int 0)))) (tTest (tOp (rEqP K) (tVar 7) (tMethS' A.C "top" (spD K (Φ_m_top A)) (fun _ => E) (tVar 0) tNil)))) (tSeq (tDrop (tDPop1 (tFld K (tVar 0) "places") (tVar 1)))
  (tDrop (tBM K "list" rAppend (tFld K (tVar 0) "done") (tCons (tVar 1) tNil)))) tNext)
  (tRet (tVar 7))))))))))))))
def N_read_order : List Str := ["text", "order", "letter"]
def t_read_order (K : PySem.W.Frag) (A : Ad) (E : XK) : TS :=
  (tSeq (tIfS (tTest (tOp rGt (tCB (rLen K) (tCons (tVar 0) tNil)) (tC (.int 40)))) (tRz (fun cls d _ H => E cls d H) (.ref A.bt)) tNext)
  (tSeq (tAsg (tLst tNil) (gName 1))
  (tSeq (tFor (iStr (tVar 0)) (gName 2) (tIfS (tTest (tOp (rEqP K) (tVar 2) (tC (.str "u")))) (tDrop (tBM K "list" rAppend (tVar 1) (tCons (tC (.str "up")) tNil))) (tIfS (tTest (tOp (rEqP K) (tVar 2) (tC (.str "d")))) (tDrop (tBM K "list" rAppend (tVar 1) (tCons (tC (.str "down")) tNil))) (tRz (fun cls d _ H => E cls d H) (.ref A.bt)))))
  (tRet (tVar 1)))))
def N_law_cell_at : List Str := ["script", "k"]
def t_law_cell_at (K : PySem.W.Frag) (A : Ad) (E : XK) : TS :=
  (tSeq (tIfS (tTest (tOp rLt (tVar 1) (tCB (rLen K) (tCons (tVar 0) tNil)))) (tRet (tOp (rIx K) (tVar 0) (tVar 1))) tNext)
  (tRet (tC (.int 0))))
def N_law_boats : List Str := ["levels", "flight"]
def t_law_boats (K : PySem.W.Frag) (A : Ad) (E : XK) : TS :=
  (tSeq (tAsg (tMakeS A.C (spD K (Φ_m_init A)) (fun _ => E) (tCons (tVar 0) tNil)) (gName 1))
  (tSeq (tDrop (tMethS' A.C "come" (spD K (Φ_m_come A)) (fun _ => E) (tVar 1) (tCons (tC (.str "up")) tNil)))
  (tSeq (tDrop (tMethS' A.C "come" (spD K (Φ_m_come A)) (fun _ => E) (tVar 1) (tCons (tC (.str "up")) tNil)))
  (tRet (tVar 1)))))
def N_law_refuses : List Str := ["which", "cell", "flight", "k"]
def t_law_refuses (K : PySem.W.Frag) (A : Ad) (E : XK) : TS :=
  (tSeq (tIfS (tTest (tOp (rEqP K) (tVar 0) (tC (.int 0)))) (tDrop (tMakeS A.C (spD K (Φ_m_init A)) (fun _ => E) (tCons (tLc (iRng1 (tCons (tOp rPlus (tC (.int 9)) (tOp rMod (tVar 1) (tC (.int 90)))) tNil)) (gName 3) tYes (tC (.bl true)) [3]) tNil))) tNext)
  (tSeq (tIfS (tTest (tOp (rEqP K) (tVar 0) (tC (.int 1)))) (tDrop (tMethS' A.C "let" (spD K (Φ_m_let A)) (fun _ => E) (tMakeS A.C (spD K (Φ_m_init A)) (fun _ => E) (tCons (tLst (tCons (tC (.bl true)) (tCons (tC (.bl false)) tNil))) tNil)) (tCons (tOp rPlus (tC (.int 3)) (tVar 1)) tNil))) tNext)
  (tSeq (tIfS (tTest (tOp (rEqP K) (tVar 0) (tC (.int 2)))) (tDrop (tMethS' A.C "let" (spD K (Φ_m_let A)) (fun _ => E) (tMakeS A.C (spD K (Φ_m_init A)) (fun _ => E) (tCons (tLst (tCons (tC (.bl true)) (tCons (tC (.bl false)) tNil))) tNil)) (tCons (tC (.int 1)) tNil))) tNext)
  (tSeq (tIfS (tTest (tOp (rEqP K) (tVar 0) (tC (.int 3)))) (tDrop (tMethS' A.C "sail" (spD K (Φ_m_sail A)) (fun _ => E) (tCallS (spD K (Φ_law_boats A)) (fun _ => E) (tCons (tLst (tCons (tC (.bl false)) tNil)) tNil)) (tCons (tOp rPlus (tC (.int 2)) (tVar 1)) tNil))) tNext)
  (tSeq (tIfS (tTest (tOp (rEqP K) (tVar 0) (tC (.int 4)))) (tDrop (tMethS' A.C "sail" (spD K (Φ_m_sail A)) (fun _ => E) (tCallS (spD K (Φ_law_boats A)) (fun _ => E) (tCons (tLst (tCons (tC (.bl false)) tNil)) tNil)) (tCons (tC (.int 1)) tNil))) tNext)
  (tSeq (tIfS (tTest (tOp (rEqP K) (tVar 0) (tC (.int 5)))) (tDrop (tMethS' A.C "sail" (spD K (Φ_m_sail A)) (fun _ => E) (tCallS (spD K (Φ_law_boats A)) (fun _ => E) (tCons (tLst (tCons (tC (.bl true)) tNil)) tNil)) (tCons (tC (.int 0)) tNil))) tNext)
  (tSeq (tIfS (tTest (tOp (rEqP K) (tVar 0) (tC (.int 6)))) (tSeq (tAsg (tCallS (spD K (Φ_law_boats A)) (fun _ => E) (tCons (tLst (tCons (tC (.bl false)) (tCons (tC (.bl false)) tNil))) tNil)) (gName 2))
  (tSeq (tDrop (tMethS' A.C "sail" (spD K (Φ_m_sail A)) (fun _ => E) (tVar 2) (tCons (tC (.int 0)) tNil)))
  (tDrop (tMethS' A.C "sail" (spD K (Φ_m_sail A)) (fun _ => E) (tVar 2) (tCons (tC (.int 1)) tNil))))) tNext)
  (tIfS (tTest (tOp (rEqP K) (tVar 0) (tC (.int 7)))) (tDrop (tCallS (spD K (Φ_read_order A)) (fun _ => E) (tCons (tOp rRepS (tC (.str "u")) (tOp rPlus (tC (.int 41)) (tOp rMod (tVar 1) (tC (.int 50))))) tNil))) tNext))))))))
def N_law_classes : List Str := ["e", "found"]
def t_law_classes (a0 D0 : Addr) (K : PySem.W.Frag) (A : Ad) (E : XK) : TS :=
  (tSeq (tAsg (tLst (tCons (tCB (rIsE K D0 a0) (tCons (tVar 0) (tCons (tC (.ref A.bf)) tNil))) (tCons (tCB (rIsE K D0 a0) (tCons (tVar 0) (tCons (tC (.ref A.ng)) tNil))) (tCons (tCB (rIsE K D0 a0) (tCons (tVar 0) (tCons (tC (.ref A.nf)) tNil))) (tCons (tCB (rIsE K D0 a0) (tCons (tVar 0) (tCons (tC (.ref A.nb)) tNil))) tNil))))) (gName 1))
  (tRet (tOp rPlus (tVar 1) (tLst (tCons (tCB (rIsE K D0 a0) (tCons (tVar 0) (tCons (tC (.ref A.ns)) tNil))) (tCons (tCB (rIsE K D0 a0) (tCons (tVar 0) (tCons (tC (.ref A.sh)) tNil))) (tCons (tCB (rIsE K D0 a0) (tCons (tVar 0) (tCons (tC (.ref A.oc)) tNil))) (tCons (tCB (rIsE K D0 a0) (tCons (tVar 0) (tCons (tC (.ref A.bt)) tNil))) tNil))))))))
def N_law_caught : List Str := ["which", "cell", "found", "value", "e", "k"]
def t_law_caught (K : PySem.W.Frag) (A : Ad) (E : XK) : TS :=
  (tSeq (tAsg (tLst tNil) (gName 2))
  (tSeq (tAsg (tC (.bl false)) (gName 3))
  (tSeq (tTryAs K (.ref A.le) 4 (fun aE cE xE => tG ((∃ C, cE = .ref C ∧ ExcC K C) ∧ xE = none) (tSeq (tAsg (tCallS (spD K (Φ_law_classes K A aE (dOf cE))) (fun _ => E0) (tCons (tVar 4) tNil)) (gName 2))
  (tAsg (tCB (rIsE K (dOf cE) aE) (tCons (tVar 4) (tCons (tC (.ty "ValueError")) tNil))) (gName 3)))) (fun cls d _ H => E cls d H) (fun W => (tDrop (tCallS (spD K (Φ_law_refuses A)) (WE W) (tCons (tVar 0) (tCons (tVar 1) tNil))))))
  (tRet (tAndV (tVar 3) (tOp (rEqP K) (tVar 2) (tLc (iRng1 (tCons (tC (.int 8)) tNil)) (gName 5) tYes (tOp (rEqP K) (tVar 5) (tVar 0)) [5])))))))
def N_law : List Str := ["script", "cell", "k"]
def t_law (K : PySem.W.Frag) (A : Ad) (E : XK) : TS :=
  (tSeq (tAsg (tOp rMod (tCallS (spD K (Φ_law_cell_at A)) (fun _ => E) (tCons (tVar 0) (tCons (tC (.int 1)) tNil))) (tC (.int 999983))) (gName 1))
  (tSeq (tFor (iRng1 (tCons (tC (.int 8)) tNil)) (gName 2) (tIfS (tNot (tB (tCallS (spD K (Φ_law_caught A)) (fun _ => E) (tCons (tOp rMod (tOp rPlus (tCallS (spD K (Φ_law_cell_at A)) (fun _ => E) (tCons (tVar 0) (tCons (tC (.int 0)) tNil))) (tVar 2)) (tC (.int 8))) (tCons (tVar 1) tNil))))) (tRet (tC (.bl false))) tNext))
  (tRet (tC (.bl true)))))
section
variable {K : PySem.W.Frag} {A : Ad}
theorem s_ask_levels : Sem K (Φ_ask_levels A) N_ask_levels (t_ask_levels K A) := by
  rintro E ds R N' M' ⟨xs, rfl, rfl, n, m⟩
  refine x_if (b := !(decide ((1 : Int) ≤ (xs.length : Int)) && decide ((xs.length : Int) ≤ 8))) (by walk_at "et") ?_ ?_
  · intro h
    refine x_raise (m ?_)
    simp only [Bool.not_eq_true', Bool.and_eq_false_iff, decide_eq_false_iff_not] at h
    omega
  · intro h
    refine x_nil (n ?_)
    simp only [Bool.not_eq_false', Bool.and_eq_true, decide_eq_true_eq] at h
    omega
theorem s_m_init (fx : Fx K A) : Sem K (Φ_m_init A) N_m_init (t_m_init K A) := by
  rintro E ds R N' M' ⟨x, lv, rfl, rfl, n, m⟩
  refine x_seq ?_
  refine x_dropE (N := fun _ R' => R' = [(x, .ins A.C [])] ∧ 1 ≤ lv.length ∧ lv.length ≤ 8) (M := fun c R' => c = .ref A.bf ∧ ¬ (1 ≤ lv.length ∧ lv.length ≤ 8)) (ee_callP (ea_cons (ev_var rfl) ea_nil) ⟨_, rfl, rfl, fun h => ⟨rfl, by rw [List.length_map] at h; exact h⟩, fun h => ⟨rfl, by rw [List.length_map] at h; exact h⟩⟩ fun _ _ _ _ _ h => h) ?_ ?_
  case refine_2 =>
    rintro c R' ⟨rfl, h⟩
    exact m h R'
  rintro d R' ⟨rfl, h8⟩
  have self : ∀ R, Ev K (startD N_m_init [.r x, .d (.list (lv.map .bool))]) R (tVar 0) (.r x) := fun R => ev_var rfl
  refine x_seq (x_fldF (i := 0) (ds := lv.map .bool) (evf_list (ev_var rfl) (.d _)) self rfl (by decide) (fun ah => ?_) fx.cl fx.high)
  refine x_seq (x_fldF (i := 1) (ds := []) (evf_lst ex_nil (by decide)) self rfl (by show 1 < 1000; decide) (fun as => ?_) fx.cl fx.sides)
  refine x_seq (x_fldD (i := 2) self rfl (by show 2 < 1000; decide) (fun ap => ?_) fx.cl fx.places)
  refine x_seq (x_fldF (i := 3) (ds := []) (evf_lst ex_nil (by decide)) self rfl (by show 3 < 1000; decide) (fun ad => ?_) fx.cl fx.done)
  refine x_seq (x_fld (i := 4) (d := .d (.int 0)) ev_int (self _) rfl (by show 4 < 1000; decide) ?_ fx.cl fx.taken)
  let a : Fa := ⟨x, ah, as, ap, ad⟩
  refine XS.perm (R0 := [(x, .ins A.C [("high", .r ah), ("sides", .r as), ("places", .r ap), ("done", .r ad), ("taken", .d (.int 0))]), (ah, .lst (lv.map .bool)), (as, .lst []), (ap, .dic []), (ad, .lst [])]) ?_ (List.reverse_perm _).symm
  exact x_fld (i := 0) (d := .d (.int 0)) ev_int (self _) rfl (by show 5 < 1000; decide) (n h8 a rfl) fx.cl fx.given
theorem s_m_top (fx : Fx K A) : Sem K (Φ_m_top A) N_m_top (t_m_top K A) := by
  rintro E ds R N' M' ⟨a, S, rfl, rfl, n⟩
  exact x_retI (ev_op (ev_lenL (f_high fx (ev_var rfl) .one) (.mem (fl_h .one))) ev_int rv_plusI) (by rw [List.length_map]; rfl) n
theorem s_m_boats (fx : Fx K A) : Sem K (Φ_m_boats A) N_m_boats (t_m_boats K A) := by
  rintro E ds R N' M' ⟨a, S, rfl, rfl, w, n⟩
  refine x_seq (x_asgF (evf_is (evf_lcR0 (i := 1) (f_high fx (ev_var rfl) .one) rfl (by decide) fun u => ev_non) (by rw [List.length_map])) fun b => ?_)
  have hn : Inn (flR A.C a S) ((b, RO.lst (List.replicate S.high.length PyData.none)) :: flR A.C a S) _ := .cons _ .one
  refine x_seq ?_
  refine x_forI (xs := S.places) (enc := fun q => .int q.1) (fun i δ' R' => ∃ v, R' = (b, .lst ((foldAt (boatStep S.high.length) (List.replicate S.high.length none) S.places i).map optD)) :: flR A.C a S ∧ δ' = [some (.r a.f), some (.r b), v, none])
    (ei_is (ei_list (ev_frz (f_keys (f_places fx (ev_var rfl) hn) (fl_p hn)))) (by rw [List.map_map]; rfl)) ⟨none, by show (b, RO.lst (List.replicate _ PyData.none)) :: _ = (b, .lst ((List.replicate _ none).map optD)) :: _; rw [List.map_replicate]; rfl, rfl⟩ ?_ ?_
  · rintro i q δ' R' hi ⟨v, rfl, rfl⟩
    refine ⟨_, eg_name, ?_⟩
    have stp := foldAt_step (f := boatStep S.high.length) (z := List.replicate S.high.length none) hi
    have hl : (foldAt (boatStep S.high.length) (List.replicate S.high.length none) S.places i).length = S.high.length := by
      unfold foldAt
      rw [boats_len, List.length_replicate]
    generalize foldAt (boatStep S.high.length) (List.replicate S.high.length none) S.places i = cur at *
    have hq : plc S.places q.1 = some q.2 := plc_of w.ks (List.mem_of_getElem? hi)
    have inn : Inn (flR A.C a S) ((b, RO.lst (cur.map optD)) :: flR A.C a S) _ := .cons _ .one
    have at1 : ∀ {δ : DEnv}, δ[0]? = some (some (.r a.f)) → δ[2]? = some (some (.d (.int q.1))) → Ev K δ ((b, RO.lst (cur.map optD)) :: flR A.C a S) (tDGet (tFld K (tVar 0) "places") (tVar 2)) (.d (.int q.2)) := fun h0 h2 => d_plc (f_places fx (ev_var h0) inn) (ev_var h2) (fl_p inn) hq
    refine x_ifI (b := decide (0 < q.2 ∧ q.2 < S.n + 1)) (et_test (ev_chain ev_int (at1 rfl rfl) rv_lt fun _ => ⟨v_m_top (ev_var rfl) inn, rv_lt⟩)) (by rw [Bool.eq_iff_iff, Bool.and_eq_true, decide_eq_true_eq, decide_eq_true_eq, decide_eq_true_eq]) ?_ ?_
    · intro h
      have h := of_decide_eq_true h
      refine x_setL (i := 0) (j := (q.2 - 1).toNat) (w := optD (some q.1)) (ev_var rfl) (ev_var rfl) (ev_op (at1 rfl rfl) ev_int rv_minus) rfl ?_ ⟨_, ?_, rfl⟩
      · rw [List.length_map, hl]
        have e : q.2 - 1 = (((q.2 - 1).toNat : Nat) : Int) := by omega
        rw [e]
        refine ixN_nat ?_
        unfold Fs.n at h; omega
      · rw [stp]
        show (b, RO.lst ((cur.map optD).set _ (optD (some q.1)))) :: flR A.C a S = (b, .lst ((if 0 < q.2 ∧ q.2 < (S.high.length : Int) + 1 then cur.set (q.2 - 1).toNat (some q.1) else cur).map optD)) :: flR A.C a S
        rw [if_pos (show 0 < q.2 ∧ q.2 < (S.high.length : Int) + 1 from h), List.map_set]
    · intro h
      have h := of_decide_eq_false h
      refine x_nil ⟨_, ?_, rfl⟩
      rw [stp]
      show _ = (b, RO.lst ((if 0 < q.2 ∧ q.2 < (S.high.length : Int) + 1 then cur.set (q.2 - 1).toNat (some q.1) else cur).map optD)) :: flR A.C a S
      rw [if_neg (show ¬ (0 < q.2 ∧ q.2 < (S.high.length : Int) + 1) from h)]
  · rintro δ' R' ⟨v, rfl, rfl⟩
    rw [foldAt_all]
    exact x_ret (ev_var rfl) (n b)
theorem s_m_waiting (fx : Fx K A) : Sem K (Φ_m_waiting A) N_m_waiting (t_m_waiting K A) := by
  rintro E ds R N' M' ⟨a, S, u, rfl, rfl, w, n⟩
  refine x_seq (x_asg ev_int ?_)
  refine x_seqM (fun δ' R' => R' = flR A.C a S ∧ δ' = [some (.r a.f), some (.d (sd u)), some (.d (.int (startOf S u))), none, none]) ?_ ?_
  · refine x_ifI (b := !u) (et_test (ev_op (ev_var rfl) ev_str (rv_eq (.d _) (.d _) (dep_l (Nat.zero_le 60))))) (eqv_down u) ?_ ?_
    · intro h
      have h : u = false := by simpa using h
      subst h
      exact x_asg (v_m_top (ev_var rfl) .one) ⟨rfl, rfl⟩
    · intro h
      have h : u = true := by simpa using h
      subst h
      exact x_nil ⟨rfl, rfl⟩
  rintro δ' R' ⟨rfl, rfl⟩
  refine x_seq (x_asg (d := .d (.list (((keysOf S.places).filter fun b => decide (plc S.places b = some (startOf S u))).map .int))) (ev_frz (evf_lcI (xs := keysOf S.places) (enc := PyData.int) (fun b => decide (plc S.places b = some (startOf S u))) PyData.int (ei_list (ev_frz (evf_sorted (ev_frz (f_keys (f_places fx (ev_var rfl) .one) (fl_p .one))) (.d _) (List.Perm.refl _) (keys_sorted w)))) (by decide) (fun b hb => ?q1) fun b hb _ => ev_var rfl)) ?_)
  case q1 =>
    obtain ⟨v, hv, hm⟩ := w.at_ hb
    refine et_is (et_test (ev_op (d_plc (f_places fx (ev_var rfl) .one) (ev_var rfl) (fl_p .one) hv) (ev_var rfl) (rv_eq (.d _) (.d _) (dep_l (Nat.zero_le 60))))) ?_
    rw [eqv_int, hv, Bool.eq_iff_iff, decide_eq_true_eq, decide_eq_true_eq]
    exact ⟨fun e => by rw [e], fun e => Option.some.inj e⟩
  refine x_retF (evf_lcI (xs := (keysOf S.places).filter fun b => decide (plc S.places b = some (startOf S u))) (enc := PyData.int) (fun b => sideOf S b == u) PyData.int (ei_list (ev_var rfl)) (by decide) (fun b hb => ?q2) fun b hb _ => ev_var rfl) n
  case q2 =>
    obtain ⟨v, hv, hm⟩ := w.at_ (List.mem_filter.mp hb).1
    have kb := w.kb _ hm
    refine et_is (et_test (ev_op (ev_at (g := sd) (f_sides fx (ev_var rfl) .one) (ev_var rfl) (fl_s .one) (side_at kb.1 kb.2)) (ev_var rfl) (rv_eq (.d _) (.d _) (dep_l (Nat.zero_le 60))))) ?_
    rw [eqv_sd]
theorem s_m_place (fx : Fx K A) : Sem K (Φ_m_place A) N_m_place (t_m_place K A) := by
  rintro E ds R N' M' ⟨a, S, b, rfl, rfl, n, m⟩
  refine x_seq (x_if (et_val (d_nin (ev_var rfl) (f_places fx (ev_var rfl) .one) (fl_p .one))) ?_ ?_)
  · intro h
    refine x_raise (m ?_)
    cases q : plc S.places b with
    | none => rfl
    | some v => rw [q] at h; cases h
  · intro h
    cases q : plc S.places b with
    | none => rw [q] at h; cases h
    | some v => exact x_nil (x_ret (d_plc (f_places fx (ev_var rfl) .one) (ev_var rfl) (fl_p .one) q) (n v q))
theorem s_m_come (fx : Fx K A) : Sem K (Φ_m_come A) N_m_come (t_m_come K A) := by
  rintro E ds R N' M' ⟨a, S, u, rfl, rfl, w, n⟩
  have pl := w.pl100
  have s100 := w.s100
  refine x_seq (x_asg (d := .d (.int S.sides.length)) (ev_is (ev_lenL (f_sides fx (ev_var rfl) .one) (.mem (fl_s .one))) (by rw [List.length_map])) ?_)
  refine x_seq (xf_sides (f_sides fx (ev_var rfl) .one) (ev_var rfl) (by omega) ?_)
  refine x_seq (xf_put (S := { S with sides := S.sides ++ [u] }) (f_places fx (ev_var rfl) .one) (ev_var rfl) ev_int (by show S.places.length < 50000; omega) ?_)
  refine x_seq ?_
  show XS K _ _ (flR A.C a { S with sides := S.sides ++ [u], places := pput S.places S.sides.length 0 }) _ _
  rw [come_put w]
  refine x_ifI (b := !u) (et_test (ev_op (ev_var rfl) ev_str (rv_eq (.d _) (.d _) (dep_l (Nat.zero_le 60))))) (eqv_down u) ?_ ?_
  · intro h
    have h : u = false := by simpa using h
    subst h
    refine xf_put (f_places fx (ev_var rfl) .one) (ev_var rfl) (v_m_top (ev_var rfl) .one) ?_ ?_
    · show (S.places ++ [_]).length < 50000
      rw [List.length_append]; simp; omega
    · show XS K _ _ (flR A.C a { S with sides := S.sides ++ [false], places := pput (S.places ++ [((S.sides.length : Int), 0)]) S.sides.length (S.n + 1) }) _ _
      rw [come_put2 w]
      exact x_ret (ev_var rfl) n
  · intro h
    have h : u = true := by simpa using h
    subst h
    exact x_nil (x_ret (ev_var rfl) n)
theorem s_m_let (fx : Fx K A) : Sem K (Φ_m_let A) N_m_let (t_m_let K A) := by
  rintro E ds R N' M' ⟨a, S, g, rfl, rfl, n, m1, m2⟩
  refine x_seq (x_asg (d := .d (.int S.n)) (ev_is (ev_lenL (f_high fx (ev_var rfl) .one) (.mem (fl_h .one))) (by rw [List.length_map]; rfl)) ?_)
  have nn : 0 ≤ S.n := by unfold Fs.n; omega
  refine x_seq (x_ifI (b := decide (g < 0 ∨ S.n < g)) (et_not (et_test (ev_chain ev_int (ev_var rfl) rv_le fun _ => ⟨ev_var rfl, rv_le⟩))) ?_ ?_ ?_)
  · rw [Bool.eq_iff_iff, Bool.not_eq_true', Bool.and_eq_false_iff, decide_eq_false_iff_not, decide_eq_false_iff_not, decide_eq_true_eq]
    omega
  · intro h
    have h := of_decide_eq_true h
    exact x_raise (m1 (if_pos h))
  intro h
  have h := of_decide_eq_false h
  have h0 : 0 ≤ g ∧ g ≤ S.n := by omega
  have eW : letW S g = if (g < S.n ∧ S.high.getD g.toNat true = false) ∨ (0 < g ∧ S.high.getD (g - 1).toNat false = true) then 2 else 0 := if_neg h
  refine x_nil ?_
  refine x_seq (x_ifI (b := decide ((g < S.n ∧ S.high.getD g.toNat true = false) ∨ (0 < g ∧ S.high.getD (g - 1).toNat false = true))) (et_or (a := decide (g < S.n) && !(S.high.getD g.toNat true)) (b := decide (0 < g) && S.high.getD (g - 1).toNat false) (et_and (et_test (ev_op (ev_var rfl) (ev_var rfl) rv_lt)) fun hg => et_not (et_val (ev_at (g := PyData.bool) (f_high fx (ev_var rfl) .one) (ev_var rfl) (fl_h .one) (high_at h0.1 (of_decide_eq_true hg))))) fun _ => et_and (et_test (ev_op (ev_var rfl) ev_int rv_gt)) fun hg => et_val (ev_at (g := PyData.bool) (f_high fx (ev_var rfl) .one) (ev_op (ev_var rfl) ev_int rv_minus) (fl_h .one) (high_at (by have := of_decide_eq_true hg; omega) (by omega)))) ?_ ?_ ?_)
  · rw [Bool.eq_iff_iff, Bool.or_eq_true, Bool.and_eq_true, Bool.and_eq_true, decide_eq_true_eq, decide_eq_true_eq, decide_eq_true_eq, Bool.not_eq_true']
  · intro hf
    have hf := of_decide_eq_true hf
    exact x_raise (m2 (by rw [eW, if_pos hf]))
  intro hf
  have hf := of_decide_eq_false hf
  have n := n (by rw [eW, if_neg hf])
  refine x_nil ?_
  let S1 : Fs := { S with taken := S.taken + (if g = S.n then 1 else 0), high := if g.toNat < S.high.length then S.high.set g.toNat false else S.high }
  have hS1 : S1.high.length = S.high.length := by show (if _ then _ else _ : List Bool).length = _; split <;> simp
  refine x_seqM (fun δ' R' => R' = flR A.C a S1 ∧ δ' = [some (.r a.f), some (.d (.int g)), some (.d (.int S.n))]) ?_ ?_
  · refine x_ifI (b := decide (g = S.n)) (et_test (ev_op (ev_var rfl) (ev_var rfl) (rv_eq (.d _) (.d _) (dep_l (Nat.zero_le 60))))) (eqv_int _ _) ?_ ?_
    · intro hg
      have hg := of_decide_eq_true hg
      refine xf_taken fx (ev_var rfl) (ev_op (f_taken fx (ev_var rfl) .one) ev_int rv_plusI) ⟨?_, rfl⟩
      have e : S1 = { S with taken := S.taken + 1 } := by
        show ({ S with taken := _, high := _ } : Fs) = _
        rw [if_pos hg, if_neg (by unfold Fs.n at hg; omega)]
      rw [e]
    · intro hg
      have hg := of_decide_eq_false hg
      have hlt : g.toNat < S.high.length := by unfold Fs.n at *; omega
      refine xf_high (j := g.toNat) ev_bl (f_high fx (ev_var rfl) .one) (ev_var rfl) (by have := ixN_nat hlt; rw [show ((g.toNat : Nat) : Int) = g by omega] at this; exact this) ⟨?_, rfl⟩
      have e : S1 = { S with high := S.high.set g.toNat false } := by
        show ({ S with taken := _, high := _ } : Fs) = _
        rw [if_neg hg, if_pos hlt, Int.add_zero]
      rw [e]
  rintro δ' R' ⟨rfl, rfl⟩
  refine x_seqM (fun δ' R' => R' = flR A.C a (letS S g) ∧ δ' = [some (.r a.f), some (.d (.int g)), some (.d (.int S.n))]) ?_ ?_
  · refine x_ifI (b := decide (g = 0)) (et_test (ev_op (ev_var rfl) ev_int (rv_eq (.d _) (.d _) (dep_l (Nat.zero_le 60))))) (eqv_int _ _) ?_ ?_
    · intro hg
      have hg := of_decide_eq_true hg
      refine xf_given fx (ev_var rfl) (ev_op (f_given fx (ev_var rfl) .one) ev_int rv_plusI) ⟨?_, rfl⟩
      have e : letS S g = { S1 with given := S1.given + 1 } := by
        unfold letS letL
        rw [if_pos hg, if_neg (by omega)]
      rw [e]
    · intro hg
      have hg := of_decide_eq_false hg
      have e1 : g - 1 = ((g.toNat - 1 : Nat) : Int) := by omega
      refine xf_high (j := g.toNat - 1) ev_bl (f_high fx (ev_var rfl) .one) (ev_op (ev_var rfl) ev_int rv_minus) (by rw [e1]; exact ixN_nat (by rw [hS1]; unfold Fs.n at *; omega)) ⟨?_, rfl⟩
      have e : letS S g = { S1 with high := S1.high.set (g.toNat - 1) true } := by
        unfold letS letL
        rw [if_neg hg, if_pos (by omega), Int.add_zero]
      rw [e]
  rintro δ' R' ⟨rfl, rfl⟩
  exact x_ret (f_taken fx (ev_var rfl) .one) n
theorem s_m_is_level (fx : Fx K A) : Sem K (Φ_m_is_level A) N_m_is_level (t_m_is_level K A) := by
  rintro E ds R N' M' ⟨a, S, g, rfl, rfl, h0, h1, n⟩
  refine x_seq (x_asg (d := .d (.int S.n)) (ev_is (ev_lenL (f_high fx (ev_var rfl) .one) (.mem (fl_h .one))) (by rw [List.length_map]; rfl)) ?_)
  refine x_retI (d := .d (.bool (levB S g))) (ev_and (a := decide (g = 0) || S.high.getD (g - 1).toNat true) (b := decide (g = S.n) || !(S.high.getD g.toNat false))
    (ev_or (ev_is (ev_op (ev_var rfl) ev_int (rv_eq (.d _) (.d _) (dep_l (Nat.zero_le 60)))) (by rw [eqv_int])) fun hg => ev_at (g := PyData.bool) (f_high fx (ev_var rfl) .one) (ev_op (ev_var rfl) ev_int rv_minus) (fl_h .one) (high_at (by have := of_decide_eq_false hg; omega) (by omega)))
    fun _ => ev_or (ev_is (ev_op (ev_var rfl) (ev_var rfl) (rv_eq (.d _) (.d _) (dep_l (Nat.zero_le 60)))) (by rw [eqv_int])) fun hg => ev_not (ev_at (g := PyData.bool) (f_high fx (ev_var rfl) .one) (ev_var rfl) (fl_h .one) (high_at h0 (by have := of_decide_eq_false hg; omega)))) rfl n
theorem s_m_sail (fx : Fx K A) : Sem K (Φ_m_sail A) N_m_sail (t_m_sail K A) := by
  rintro E ds R N' M' ⟨a, S, b, rfl, rfl, w, n, m3, m4, m5, m6⟩
  have pl := w.pl100
  have dl := w.dl100
  have nn : 0 ≤ S.n := by unfold Fs.n; omega
  refine x_seq ?_
  refine x_asgE (N := fun d R' => ∃ v, plc S.places b = some v ∧ d = .d (.int v) ∧ R' = flR A.C a S) (M := fun c R' => plc S.places b = none ∧ c = .ref A.nb ∧ R' = flR A.C a S) (ee_methN (ev_var rfl) .one rfl rfl (ea_cons (ev_var rfl) ea_nil) ⟨a, S, b, rfl, rfl, fun v hv => ⟨v, hv, rfl, rfl⟩, fun h => ⟨h, rfl, rfl⟩⟩ fun _ _ _ _ _ h => h) ?_ ?_
  case refine_2 =>
    rintro c R' ⟨h, rfl, rfl⟩
    exact m3 (if_pos h)
  rintro d R' ⟨v, hv, rfl, rfl⟩
  have hm := plc_mem hv
  have kb := w.kb _ hm
  dsimp only at kb
  have gt := w.gate hv
  have e3 : sailW S b = if notFirst S b = true then 4 else if levB S (gateM S b) = false then 5 else if (0 < thenM S b ∧ thenM S b ≤ S.n) ∧ occB S (thenM S b) = true then 6 else 0 := if_neg (by rw [hv]; simp)
  refine x_seq (x_asg (d := .d (sd (sideOf S b))) (ev_at (g := sd) (f_sides fx (ev_var rfl) .one) (ev_var rfl) (fl_s .one) (side_at kb.1 kb.2)) ?_)
  refine x_seq (x_asg (d := .d (.list ((waitM S (sideOf S b)).map .int))) (ev_frz (v_m_waiting w (ev_var rfl) (ev_var rfl) .one)) ?_)
  refine x_seq (x_ifI (b := notFirst S b) (et_and (a := decide (b ∈ waitM S (sideOf S b))) (b := decide ((waitM S (sideOf S b)).head? ≠ some b)) (et_is (et_test (ev_op (ev_var rfl) (ev_var rfl) (rv_in (.d _) (.l (.d _)) (Nat.le_trans (Nat.min_le_right _ _) (Nat.zero_le 60))))) ?q1) fun hin => ?q2) (row_first w hv) ?_ ?_)
  case q1 =>
    rw [List.any_map, Bool.eq_iff_iff, List.any_eq_true, decide_eq_true_eq]
    constructor
    · rintro ⟨x, hx, e⟩
      have e : PyData.eqv (.int x) (.int b) = true := e
      rw [eqv_int] at e
      obtain rfl : x = b := of_decide_eq_true e
      exact hx
    · intro h
      refine ⟨b, h, ?_⟩
      show PyData.eqv (.int b) (.int b) = true
      rw [eqv_int]; simp
  case q2 =>
    have hin := of_decide_eq_true hin
    cases q : waitM S (sideOf S b) with
    | nil => rw [q] at hin; simp at hin
    | cons x r =>
      refine et_is (et_test (ev_op (ev_op (ev_var rfl) ev_int (rv_ixLM (f := PyData.int) (xs := x :: r) (.d _) (atI_some (i := 0) rfl))) (ev_var rfl) (rv_ne (.d _) (.d _) (dep_l (Nat.zero_le 60))))) ?_
      rw [eqv_int, List.head?_cons]
      rw [Bool.eq_iff_iff, Bool.not_eq_true', decide_eq_false_iff_not, decide_eq_true_eq]
      exact ⟨fun h z => h (Option.some.inj z), fun h z => h (by rw [z])⟩
  · intro h
    exact x_raise (m4 (by rw [e3, if_pos h]))
  intro h4
  have e4 : sailW S b = if levB S (gateM S b) = false then 5 else if (0 < thenM S b ∧ thenM S b ≤ S.n) ∧ occB S (thenM S b) = true then 6 else 0 := by rw [e3, if_neg (by rw [h4]; simp)]
  refine x_nil ?_
  refine x_seq (x_asg ev_int ?_)
  refine x_seq (x_asg (ev_var rfl) ?_)
  refine x_seqM (fun δ' R' => R' = flR A.C a S ∧ δ' = [some (.r a.f), some (.d (.int b)), some (.d (.int v)), some (.d (sd (sideOf S b))), some (.d (.list ((waitM S (sideOf S b)).map .int))), some (.d (.int (if sideOf S b = true then 1 else -1))), some (.d (.int (gateM S b))), none]) ?_ ?_
  · refine x_ifI (b := !(sideOf S b)) (et_test (ev_op (ev_var rfl) ev_str (rv_eq (.d _) (.d _) (dep_l (Nat.zero_le 60))))) (eqv_down _) ?_ ?_
    · intro h
      have h : sideOf S b = false := by simpa using h
      refine x_seq (x_asg (ev_neg ev_int) (x_asg (ev_op (ev_var rfl) ev_int rv_minus) ⟨rfl, ?_⟩))
      rw [gate_eq hv, h]; rfl
    · intro h
      have h : sideOf S b = true := by simpa using h
      refine x_nil ⟨rfl, ?_⟩
      rw [gate_eq hv, h]; rfl
  rintro δ' R' ⟨rfl, rfl⟩
  refine x_seq (x_if (b := !(levB S (gateM S b))) (et_not (et_val (v_m_is_level ⟨gt.1, gt.2.1⟩ (ev_var rfl) (ev_var rfl) .one))) ?_ ?_)
  · intro h
    have h : levB S (gateM S b) = false := by simpa using h
    exact x_raise (m5 (by rw [e4, if_pos h]))
  intro h5
  have h5 : levB S (gateM S b) = true := by simpa using h5
  have e5 : sailW S b = if (0 < thenM S b ∧ thenM S b ≤ S.n) ∧ occB S (thenM S b) = true then 6 else 0 := by rw [e4, if_neg (by rw [h5]; simp)]
  refine x_nil ?_
  refine x_seq (x_asg (d := .d (.int (thenM S b))) (ev_is (ev_op (ev_var rfl) (ev_var rfl) rv_plusI) (by rw [then_eq hv])) ?_)
  refine x_seq (x_ifI (b := decide ((0 < thenM S b ∧ thenM S b ≤ S.n) ∧ occB S (thenM S b) = true)) (et_and (a := decide (0 < thenM S b ∧ thenM S b ≤ S.n)) (b := occB S (thenM S b)) (et_is (et_test (ev_chain ev_int (ev_var rfl) rv_lt fun _ => ⟨v_m_top (ev_var rfl) .one, rv_lt⟩)) ?q3) fun hin => ?q4) ?_ ?_ ?_)
  case q3 =>
    rw [Bool.eq_iff_iff, Bool.and_eq_true, decide_eq_true_eq, decide_eq_true_eq, decide_eq_true_eq]
    omega
  case q4 =>
    have hin := of_decide_eq_true hin
    obtain ⟨o, ho, hno⟩ := boats_occ hin.1 hin.2
    refine et_is (et_test (ev_op (x := .d (optD o)) (ev_op (x := .d (.list ((boatsM S).map optD))) (ev_frz (v_m_boats w (ev_var rfl) .one)) (ev_op (ev_var rfl) ev_int rv_minus) (rv_ixLM (f := optD) (.d _) ?_)) ev_non rv_notN)) (by rw [hno, Bool.not_not])
    have := atI_some ho
    rw [show (((thenM S b - 1).toNat : Nat) : Int) = thenM S b - 1 by omega] at this
    exact this
  · rw [Bool.eq_iff_iff, Bool.and_eq_true, decide_eq_true_eq, decide_eq_true_eq]
  · intro h
    have h := of_decide_eq_true h
    exact x_raise (m6 (by rw [e5, if_pos h]))
  intro h6
  have h6 := of_decide_eq_false h6
  have n := n (by rw [e5, if_neg h6])
  refine x_nil ?_
  refine x_seq (xf_put (f_places fx (ev_var rfl) .one) (ev_var rfl) (ev_var rfl) (by omega) ?_)
  refine x_seqM (fun δ' R' => R' = flR A.C a (sailS S b) ∧ δ'[7]? = some (some (.d (.int (thenM S b))))) ?_ ?_
  · refine x_ifI (b := decide (outB S b)) (et_or (et_test (ev_op (ev_var rfl) ev_int (rv_eq (.d _) (.d _) (dep_l (Nat.zero_le 60))))) fun _ => et_test (ev_op (ev_var rfl) (v_m_top (ev_var rfl) .one) (rv_eq (.d _) (.d _) (dep_l (Nat.zero_le 60))))) ?_ ?_ ?_
    · rw [eqv_int, eqv_int, Bool.eq_iff_iff, Bool.or_eq_true, decide_eq_true_eq, decide_eq_true_eq, decide_eq_true_eq]
      rfl
    · intro h
      have h := of_decide_eq_true h
      have hk : plc (pput S.places b (thenM S b)) b = some (thenM S b) := by
        have hb := key_mem hv
        have : (b, thenM S b) ∈ pput S.places b (thenM S b) := by
          unfold pput
          rw [if_pos (List.any_eq_true.mpr ⟨_, hm, by simp⟩)]
          refine List.mem_map.mpr ⟨_, hm, ?_⟩
          rw [if_pos rfl]
        have ks : (keysOf (pput S.places b (thenM S b))).Pairwise (· < ·) := by rw [pput_keys _ _ _ hb]; exact w.ks
        exact plc_of ks this
      refine x_seq (xf_pop (f_places fx (ev_var rfl) .one) (ev_var rfl) hk ?_)
      refine xf_done (f_done fx (ev_var rfl) .one) (ev_var rfl) (by show S.done.length < 50000; omega) ⟨?_, rfl⟩
      have e : sailS S b = { S with places := pdrop S.places b, done := S.done ++ [b] } := if_pos h
      rw [e]
      show flR A.C a { S with places := pdrop (pput S.places b (thenM S b)) b, done := S.done ++ [b] } = _
      rw [pdrop_put]
    · intro h
      have h := of_decide_eq_false h
      refine x_nil ⟨?_, rfl⟩
      have e : sailS S b = { S with places := pput S.places b (thenM S b) } := if_neg h
      rw [e]
  rintro δ' R' ⟨rfl, h7⟩
  exact x_ret (ev_var h7) n
theorem s_read_order : Sem K (Φ_read_order A) N_read_order (t_read_order K A) := by
  rintro E ds R N' M' ⟨z, rfl, rfl, hz, n, m⟩
  have ez : z.cps.toList.length = z.length := by rw [Array.length_toList]; rfl
  refine x_seq (x_ifI (b := decide (40 < (z.length : Int))) (et_test (ev_op (ev_lenS (ev_var rfl) hz) ev_int rv_gt)) rfl ?_ ?_)
  · intro h
    exact x_raise (m (.inl (by have := of_decide_eq_true h; omega)))
  intro h
  have h40 : z.length ≤ 40 := by have := of_decide_eq_false h; omega
  refine x_nil ?_
  refine x_seq (x_asgF (evf_lst ex_nil (by decide)) fun a => ?_)
  refine x_seq ?_
  refine x_forI (xs := z.cps.toList) (enc := fun c => .str ⟨#[c]⟩) (fun i δ' R' => ∃ o v, readC (z.cps.toList.take i) = some o ∧ R' = [(a, .lst (o.map sd))] ∧ δ' = [some (.d (.str z)), some (.r a), v]) (ei_str (ev_var rfl) hz) ⟨[], none, rfl, rfl, rfl⟩ ?_ ?_
  · rintro i c δ' R' hi ⟨o, v, ho, rfl, rfl⟩
    refine ⟨_, eg_name, ?_⟩
    have et : z.cps.toList.take (i + 1) = z.cps.toList.take i ++ [c] := by rw [List.take_succ, hi]; rfl
    have ol : o.length ≤ 40 := by
      have q := congrArg List.length (readC_len ho)
      rw [List.length_map, List.length_take] at q
      omega
    have sn := readC_snoc _ c o ho
    rw [← et] at sn
    refine x_ifI (b := decide (c = 117)) (et_test (ev_op (ev_var rfl) ev_str (rv_eq (.d _) (.d _) (dep_l (Nat.zero_le 60))))) (sgn_eq c 117 _ (by decide)) ?_ ?_
    · intro hc
      rw [if_pos (of_decide_eq_true hc)] at sn
      refine x_app (i := 0) (ev_var rfl) rfl ev_str (by rw [List.length_map]; omega) ⟨o ++ [true], _, sn, ?_, rfl⟩
      rw [List.map_append]; rfl
    · intro hc
      rw [if_neg (of_decide_eq_false hc)] at sn
      refine x_ifI (b := decide (c = 100)) (et_test (ev_op (ev_var rfl) ev_str (rv_eq (.d _) (.d _) (dep_l (Nat.zero_le 60))))) (sgn_eq c 100 _ (by decide)) ?_ ?_
      · intro hc2
        rw [if_pos (of_decide_eq_true hc2)] at sn
        refine x_app (i := 0) (ev_var rfl) rfl ev_str (by rw [List.length_map]; omega) ⟨o ++ [false], _, sn, ?_, rfl⟩
        rw [List.map_append]; rfl
      · intro hc2
        rw [if_neg (of_decide_eq_false hc2)] at sn
        refine XS.forget (x_raise (m (.inr ?_)))
        rw [← List.take_append_drop (i + 1) z.cps.toList]
        exact readC_none _ _ sn
  · rintro δ' R' ⟨o, v, ho, rfl, rfl⟩
    rw [List.take_length] at ho
    exact x_ret (ev_var rfl) (n o ho h40 a)
theorem s_law_cell_at : Sem K (Φ_law_cell_at A) N_law_cell_at (t_law_cell_at K A) := by
  rintro E ds R N' M' ⟨ns, k, rfl, rfl, h0, n⟩
  refine x_seq (x_if (b := decide (k < (ns.length : Int))) (by walk_at "et") (fun h => ?_) (fun h => x_nil ?_))
  · have h := of_decide_eq_true h
    have e : ns[k.toNat]? = some (cellI ns k) := by
      unfold cellI
      rw [List.getD_eq_getElem?_getD, List.getElem?_eq_getElem (by omega)]
      rfl
    have ek : ((k.toNat : Nat) : Int) = k := by omega
    refine' x_ret ?qa n
    refine' ev_op (x := .s ns) (y := .d (.int k)) ?qb ?qc (rv_ixs ?qd)
    case' qb => walk_at "ev"
    case' qc => walk_at "ev"
    case qd =>
      have q := atI_some e
      rw [ek] at q
      exact q
  · have h := of_decide_eq_false h
    have e : cellI ns k = 0 := by
      unfold cellI
      rw [List.getD_eq_getElem?_getD, List.getElem?_eq_none (by omega)]
      rfl
    refine x_ret ?_ n
    rw [e]
    exact ev_int
theorem s_law_boats : Sem K (Φ_law_boats A) N_law_boats (t_law_boats K A) := by
  rintro E ds R N' M' ⟨lv, rfl, rfl, l1, n⟩
  refine x_seq (x_asgE (M := fun _ _ => False) (N := fun d R' => ∃ a : Fa, d = .r a.f ∧ R' = flR A.C a (newS lv)) (v_make (ev_var rfl) (fun _ a => ⟨a, rfl, List.append_nil _⟩) (fun q => absurd l1 q) fun _ _ _ _ h => h.elim) ?_ fun _ _ h => h.elim)
  rintro d R' ⟨a, rfl, rfl⟩
  have w0 := wf_new l1
  have w1 := wf_come w0 true (show (0 : Nat) < 100 by decide)
  generalize newS lv = S at *
  refine x_seq (x_dropE (M := fun _ _ => False) (N := fun _ R' => R' = flR A.C a (comeS S true)) (ee_methN (ev_var rfl) .one rfl rfl (ea_cons ev_str ea_nil) ⟨a, S, true, rfl, rfl, w0, rfl⟩ fun _ _ _ _ h => h.elim) ?_ fun _ _ h => h.elim)
  rintro d R' rfl
  refine x_seq (x_dropE (M := fun _ _ => False) (N := fun _ R' => R' = flR A.C a (comeS (comeS S true) true)) (ee_methN (ev_var rfl) .one rfl rfl (ea_cons ev_str ea_nil) ⟨a, comeS S true, true, rfl, rfl, w1, rfl⟩ fun _ _ _ _ h => h.elim) ?_ fun _ _ h => h.elim)
  rintro d R' rfl
  exact x_ret (ev_var rfl) (n a)
theorem s_law_refuses : Sem K (Φ_law_refuses A) N_law_refuses (t_law_refuses K A) := by
  rintro E ds R N' M' ⟨k, c, rfl, rfl, hk, hc, m⟩
  have c90 : 0 ≤ c % 90 ∧ c % 90 < 90 := by omega
  have c50 : 0 ≤ c % 50 ∧ c % 50 < 50 := by omega
  have mk2 : ∀ {δ : DEnv} {x y : Bool} {Ek : WX} {N : D → Res → Prop}, (∀ a : Fa, N (.r a.f) (flR A.C a (newS [x, y]))) → EvE K (fun c d _ H => E c d H) δ [] (tMakeS A.C (spD K (Φ_m_init A)) (fun _ => E) (tCons (tLst (tCons (tC (.bl x)) (tCons (tC (.bl y)) tNil))) tNil)) N (fun c R' => c = .ref (exA A k)) := fun {δ x y Ek N} n =>
    v_make (lv := [x, y]) (ev_frz (evf_lst (ex_cons ev_bl (ex_cons ev_bl ex_nil)) (by simp))) (fun _ a => by rw [List.append_nil]; exact n a) (fun q => absurd ⟨by simp, by simp⟩ q) fun c R' σ H' m h => h
  have b1 : ∀ {δ : DEnv} {x : Bool} {N : D → Res → Prop}, (∀ a : Fa, N (.r a.f) (flR A.C a (bs2 [x]))) → EvE K (fun c d _ H => E c d H) δ [] (tCallS (spD K (Φ_law_boats A)) (fun _ => E) (tCons (tLst (tCons (tC (.bl x)) tNil)) tNil)) N (fun c R' => c = .ref (exA A k)) := fun {δ x N} n =>
    ee_callP (ea_cons (ev_frz (evf_lst (ex_cons ev_bl ex_nil) (by simp))) ea_nil) ⟨[x], rfl, rfl, ⟨by simp, by simp⟩, fun a => by show N _ (_ ++ []); rw [List.append_nil]; exact n a⟩ fun c R' σ H' m h => h
  have fin : ∀ {δ : DEnv} {R : Res} {te : TE} {Nx : DEnv → Res → Prop}, EvE K (fun c d _ H => E c d H) δ R te (fun _ _ => False) (fun c R' => c = .ref (exA A k)) → XS K (fun c d _ H => E c d H) δ R (tDrop te) { endsOf N' M' with nx := Nx } := fun h => x_dropE h (fun _ _ z => z.elim) fun c R' e => by subst e; exact m R'
  match k, hk with
  | 0, _ =>
    refine x_hit rfl rfl fun Nx => fin ?_
    refine v_make (lv := (List.range (9 + c % 90).toNat).map fun _ => true) (ev_frz (evf_is (evf_lcI0 (xs := List.range (9 + c % 90).toNat) (enc := fun k : Nat => .int k) (fun _ => .bool true) (ei_rng1M (ev_op ev_int (ev_op (ev_var rfl) ev_int (rv_mod (by decide))) rv_plusI) (by omega)) (by decide) fun g _ => ev_bl) (by rw [List.map_map]; rfl))) (fun q => ?_) (fun _ => rfl) fun c R' σ H' m h => h
    rw [List.length_map, List.length_range] at q
    omega
  | 1, _ =>
    refine x_skip rfl (by decide) (x_hit rfl rfl fun Nx => fin ?_)
    refine ee_methM (mk2 (Ek := fun _ _ _ _ => False) (N := fun d R' => ∃ a : Fa, d = .r a.f ∧ R' = flR A.C a (newS [true, false])) fun a => ⟨a, rfl, rfl⟩) ?_
    rintro d R' ⟨a, rfl, rfl⟩
    have e : letW (newS [true, false]) (3 + c) = 1 := if_pos (.inr (by show (2 : Int) < 3 + c; omega))
    exact ⟨_, rfl, ee_methN ev_const .one rfl rfl (ea_cons (ev_op ev_int (ev_var rfl) rv_plusI) ea_nil) ⟨a, newS [true, false], 3 + c, rfl, rfl, (fun z => by rw [e] at z; cases z), fun _ => rfl, fun z => by rw [e] at z; cases z⟩ fun c R' σ H' m h => h⟩
  | 2, _ =>
    refine x_skip rfl (by decide) (x_skip rfl (by decide) (x_hit rfl rfl fun Nx => fin ?_))
    refine ee_methM (mk2 (Ek := fun _ _ _ _ => False) (N := fun d R' => ∃ a : Fa, d = .r a.f ∧ R' = flR A.C a (newS [true, false])) fun a => ⟨a, rfl, rfl⟩) ?_
    rintro d R' ⟨a, rfl, rfl⟩
    have e : letW (newS [true, false]) 1 = 2 := by decide
    exact ⟨_, rfl, ee_methN ev_const .one rfl rfl (ea_cons ev_int ea_nil) ⟨a, newS [true, false], 1, rfl, rfl, (fun z => by rw [e] at z; cases z), (fun z => by rw [e] at z; cases z), fun _ => rfl⟩ fun c R' σ H' m h => h⟩
  | 3, _ =>
    refine x_skip rfl (by decide) (x_skip rfl (by decide) (x_skip rfl (by decide) (x_hit rfl rfl fun Nx => fin ?_)))
    refine ee_methM (b1 (N := fun d R' => ∃ a : Fa, d = .r a.f ∧ R' = flR A.C a (bs2 [false])) fun a => ⟨a, rfl, rfl⟩) ?_
    rintro d R' ⟨a, rfl, rfl⟩
    have e := sail_none hc
    exact ⟨_, rfl, ee_methN ev_const .one rfl rfl (ea_cons (ev_op ev_int (ev_var rfl) rv_plusI) ea_nil) ⟨a, bs2 [false], 2 + c, rfl, rfl, wf_bs2 (by simp), (fun z => by rw [e] at z; cases z), (fun _ => rfl), (fun z => by rw [e] at z; cases z), (fun z => by rw [e] at z; cases z), fun z => by rw [e] at z; cases z⟩ fun c R' σ H' m h => h⟩
  | 4, _ =>
    refine x_skip rfl (by decide) (x_skip rfl (by decide) (x_skip rfl (by decide) (x_skip rfl (by decide) (x_hit rfl rfl fun Nx => fin ?_))))
    refine ee_methM (b1 (N := fun d R' => ∃ a : Fa, d = .r a.f ∧ R' = flR A.C a (bs2 [false])) fun a => ⟨a, rfl, rfl⟩) ?_
    rintro d R' ⟨a, rfl, rfl⟩
    have e : sailW (bs2 [false]) 1 = 4 := by decide
    exact ⟨_, rfl, ee_methN ev_const .one rfl rfl (ea_cons ev_int ea_nil) ⟨a, bs2 [false], 1, rfl, rfl, wf_bs2 (by simp), (fun z => by rw [e] at z; cases z), (fun z => by rw [e] at z; cases z), (fun _ => rfl), (fun z => by rw [e] at z; cases z), fun z => by rw [e] at z; cases z⟩ fun c R' σ H' m h => h⟩
  | 5, _ =>
    refine x_skip rfl (by decide) (x_skip rfl (by decide) (x_skip rfl (by decide) (x_skip rfl (by decide) (x_skip rfl (by decide) (x_hit rfl rfl fun Nx => fin ?_)))))
    refine ee_methM (b1 (N := fun d R' => ∃ a : Fa, d = .r a.f ∧ R' = flR A.C a (bs2 [true])) fun a => ⟨a, rfl, rfl⟩) ?_
    rintro d R' ⟨a, rfl, rfl⟩
    have e : sailW (bs2 [true]) 0 = 5 := by decide
    exact ⟨_, rfl, ee_methN ev_const .one rfl rfl (ea_cons ev_int ea_nil) ⟨a, bs2 [true], 0, rfl, rfl, wf_bs2 (by simp), (fun z => by rw [e] at z; cases z), (fun z => by rw [e] at z; cases z), (fun z => by rw [e] at z; cases z), (fun _ => rfl), fun z => by rw [e] at z; cases z⟩ fun c R' σ H' m h => h⟩
  | 6, _ =>
    refine x_skip rfl (by decide) (x_skip rfl (by decide) (x_skip rfl (by decide) (x_skip rfl (by decide) (x_skip rfl (by decide) (x_skip rfl (by decide) (x_hit rfl rfl fun Nx => ?_))))))
    have w2 : WF (bs2 [false, false]) := wf_bs2 (by simp)
    have e0 : sailW (bs2 [false, false]) 0 = 0 := by decide
    have w3 := wf_sail w2 e0
    refine x_seq (x_asgE (M := fun _ _ => False) (N := fun d R' => ∃ a : Fa, d = .r a.f ∧ R' = flR A.C a (bs2 [false, false])) (ee_callP (ea_cons (ev_frz (evf_lst (ex_cons ev_bl (ex_cons ev_bl ex_nil)) (by simp))) ea_nil) ⟨[false, false], rfl, rfl, ⟨by simp, by simp⟩, fun a => ⟨a, rfl, List.append_nil _⟩⟩ fun _ _ _ _ h => h.elim) ?_ fun _ _ h => h.elim)
    rintro d R' ⟨a, rfl, rfl⟩
    refine x_seq (x_dropE (M := fun _ _ => False) (N := fun _ R' => R' = flR A.C a (sailS (bs2 [false, false]) 0)) (ee_methN (ev_var rfl) .one rfl rfl (ea_cons ev_int ea_nil) ⟨a, bs2 [false, false], 0, rfl, rfl, w2, (fun _ => rfl), (fun z => by rw [e0] at z; cases z), (fun z => by rw [e0] at z; cases z), (fun z => by rw [e0] at z; cases z), fun z => by rw [e0] at z; cases z⟩ fun _ _ _ _ h => h.elim) ?_ fun _ _ h => h.elim)
    rintro d R' rfl
    have e : sailW (sailS (bs2 [false, false]) 0) 1 = 6 := by decide
    exact fin (ee_methN (ev_var rfl) .one rfl rfl (ea_cons ev_int ea_nil) ⟨a, _, 1, rfl, rfl, w3, (fun z => by rw [e] at z; cases z), (fun z => by rw [e] at z; cases z), (fun z => by rw [e] at z; cases z), (fun z => by rw [e] at z; cases z), fun _ => rfl⟩ fun c R' σ H' m h => h)
  | 7, _ =>
    refine x_skip rfl (by decide) (x_skip rfl (by decide) (x_skip rfl (by decide) (x_skip rfl (by decide) (x_skip rfl (by decide) (x_skip rfl (by decide) (x_skip rfl (by decide) ?_))))))
    refine x_if (b := true) (et_is (et_test (ev_op (ev_var rfl) ev_int (rv_eq (.d _) (.d _) (dep_l (Nat.zero_le 60))))) (by rw [eqv_int]; rfl)) (fun _ => ?_) fun z => nomatch z
    refine fin (ee_callP (ea_cons (ev_op ev_str (ev_op ev_int (ev_op (ev_var rfl) ev_int (rv_mod (by decide))) rv_plusI) (rv_repS (n := 41 + c % 50) (by omega) (by decide))) ea_nil) (c_read_bad (by rw [repS_long]; omega) (.inl (by rw [repS_long]; omega)) rfl) fun c R' σ H' m h => h)
  | k + 8, h => exact absurd h (by omega)
theorem s_law_classes {a0 D0 : Addr} : Sem K (Φ_law_classes K A a0 D0) N_law_classes (t_law_classes a0 D0 K A) := by
  rintro E ds R N' M' ⟨rfl, rfl, k, h0, h1, h2, h3, h4, h5, h6, h7, n⟩
  have q : ∀ {δ : DEnv} {R : Res} {C : Addr} {b : Bool}, δ[0]? = some (some (.r a0)) → PySem.W.kitOne K (.ref D0) (.ref C) = some b → Ev K δ R (tCB (rIsE K D0 a0) (tCons (tVar 0) (tCons (tC (.ref C)) tNil))) (.d (.bool b)) := fun h hk => ev_isE (ev_var h) (fun u r => r) hk
  refine x_seq (x_asg (d := .d (.list ([decide (0 = k), decide (1 = k), decide (2 = k), decide (3 = k)].map .bool))) (ev_frz (evf_lst (ex_cons (q rfl h0) (ex_cons (q rfl h1) (ex_cons (q rfl h2) (ex_cons (q rfl h3) ex_nil)))) (by simp))) ?_)
  exact x_ret (ev_op (x := .d (.list ([decide (0 = k), decide (1 = k), decide (2 = k), decide (3 = k)].map .bool))) (y := .d (.list ([decide (4 = k), decide (5 = k), decide (6 = k), decide (7 = k)].map .bool))) (ev_var rfl) (ev_frz (evf_lst (ex_cons (q rfl h4) (ex_cons (q rfl h5) (ex_cons (q rfl h6) (ex_cons (q rfl h7) ex_nil)))) (by simp))) (rv_of_F (rvf_plusM (.d _) (.d _) (by simp)))) n
theorem s_law_caught (i_bf_bf : PySem.W.kitOne K (.ref A.bf) (.ref A.bf) = some true) (i_bf_ng : PySem.W.kitOne K (.ref A.bf) (.ref A.ng) = some false) (i_bf_nf : PySem.W.kitOne K (.ref A.bf) (.ref A.nf) = some false) (i_bf_nb : PySem.W.kitOne K (.ref A.bf) (.ref A.nb) = some false) (i_bf_ns : PySem.W.kitOne K (.ref A.bf) (.ref A.ns) = some false) (i_bf_sh : PySem.W.kitOne K (.ref A.bf) (.ref A.sh) = some false) (i_bf_oc : PySem.W.kitOne K (.ref A.bf) (.ref A.oc) = some false) (i_bf_bt : PySem.W.kitOne K (.ref A.bf) (.ref A.bt) = some false) (i_ng_bf : PySem.W.kitOne K (.ref A.ng) (.ref A.bf) = some false) (i_ng_ng : PySem.W.kitOne K (.ref A.ng) (.ref A.ng) = some true) (i_ng_nf : PySem.W.kitOne K (.ref A.ng) (.ref A.nf) = some false) (i_ng_nb : PySem.W.kitOne K (.ref A.ng) (.ref A.nb) = some false) (i_ng_ns : PySem.W.kitOne K (.ref A.ng) (.ref A.ns) = some false) (i_ng_sh : PySem.W.kitOne K (.ref A.ng) (.ref A.sh) = some false) (i_ng_oc : PySem.W.kitOne K (.ref A.ng) (.ref A.oc) = some false) (i_ng_bt : PySem.W.kitOne K (.ref A.ng) (.ref A.bt) = some false) (i_nf_bf : PySem.W.kitOne K (.ref A.nf) (.ref A.bf) = some false) (i_nf_ng : PySem.W.kitOne K (.ref A.nf) (.ref A.ng) = some false) (i_nf_nf : PySem.W.kitOne K (.ref A.nf) (.ref A.nf) = some true) (i_nf_nb : PySem.W.kitOne K (.ref A.nf) (.ref A.nb) = some false) (i_nf_ns : PySem.W.kitOne K (.ref A.nf) (.ref A.ns) = some false) (i_nf_sh : PySem.W.kitOne K (.ref A.nf) (.ref A.sh) = some false) (i_nf_oc : PySem.W.kitOne K (.ref A.nf) (.ref A.oc) = some false) (i_nf_bt : PySem.W.kitOne K (.ref A.nf) (.ref A.bt) = some false) (i_nb_bf : PySem.W.kitOne K (.ref A.nb) (.ref A.bf) = some false) (i_nb_ng : PySem.W.kitOne K (.ref A.nb) (.ref A.ng) = some false) (i_nb_nf : PySem.W.kitOne K (.ref A.nb) (.ref A.nf) = some false) (i_nb_nb : PySem.W.kitOne K (.ref A.nb) (.ref A.nb) = some true) (i_nb_ns : PySem.W.kitOne K (.ref A.nb) (.ref A.ns) = some false) (i_nb_sh : PySem.W.kitOne K (.ref A.nb) (.ref A.sh) = some false) (i_nb_oc : PySem.W.kitOne K (.ref A.nb) (.ref A.oc) = some false) (i_nb_bt : PySem.W.kitOne K (.ref A.nb) (.ref A.bt) = some false) (i_ns_bf : PySem.W.kitOne K (.ref A.ns) (.ref A.bf) = some false) (i_ns_ng : PySem.W.kitOne K (.ref A.ns) (.ref A.ng) = some false) (i_ns_nf : PySem.W.kitOne K (.ref A.ns) (.ref A.nf) = some false) (i_ns_nb : PySem.W.kitOne K (.ref A.ns) (.ref A.nb) = some false) (i_ns_ns : PySem.W.kitOne K (.ref A.ns) (.ref A.ns) = some true) (i_ns_sh : PySem.W.kitOne K (.ref A.ns) (.ref A.sh) = some false) (i_ns_oc : PySem.W.kitOne K (.ref A.ns) (.ref A.oc) = some false) (i_ns_bt : PySem.W.kitOne K (.ref A.ns) (.ref A.bt) = some false) (i_sh_bf : PySem.W.kitOne K (.ref A.sh) (.ref A.bf) = some false) (i_sh_ng : PySem.W.kitOne K (.ref A.sh) (.ref A.ng) = some false) (i_sh_nf : PySem.W.kitOne K (.ref A.sh) (.ref A.nf) = some false) (i_sh_nb : PySem.W.kitOne K (.ref A.sh) (.ref A.nb) = some false) (i_sh_ns : PySem.W.kitOne K (.ref A.sh) (.ref A.ns) = some false) (i_sh_sh : PySem.W.kitOne K (.ref A.sh) (.ref A.sh) = some true) (i_sh_oc : PySem.W.kitOne K (.ref A.sh) (.ref A.oc) = some false) (i_sh_bt : PySem.W.kitOne K (.ref A.sh) (.ref A.bt) = some false) (i_oc_bf : PySem.W.kitOne K (.ref A.oc) (.ref A.bf) = some false) (i_oc_ng : PySem.W.kitOne K (.ref A.oc) (.ref A.ng) = some false) (i_oc_nf : PySem.W.kitOne K (.ref A.oc) (.ref A.nf) = some false) (i_oc_nb : PySem.W.kitOne K (.ref A.oc) (.ref A.nb) = some false) (i_oc_ns : PySem.W.kitOne K (.ref A.oc) (.ref A.ns) = some false) (i_oc_sh : PySem.W.kitOne K (.ref A.oc) (.ref A.sh) = some false) (i_oc_oc : PySem.W.kitOne K (.ref A.oc) (.ref A.oc) = some true) (i_oc_bt : PySem.W.kitOne K (.ref A.oc) (.ref A.bt) = some false) (i_bt_bf : PySem.W.kitOne K (.ref A.bt) (.ref A.bf) = some false) (i_bt_ng : PySem.W.kitOne K (.ref A.bt) (.ref A.ng) = some false) (i_bt_nf : PySem.W.kitOne K (.ref A.bt) (.ref A.nf) = some false) (i_bt_nb : PySem.W.kitOne K (.ref A.bt) (.ref A.nb) = some false) (i_bt_ns : PySem.W.kitOne K (.ref A.bt) (.ref A.ns) = some false) (i_bt_sh : PySem.W.kitOne K (.ref A.bt) (.ref A.sh) = some false) (i_bt_oc : PySem.W.kitOne K (.ref A.bt) (.ref A.oc) = some false) (i_bt_bt : PySem.W.kitOne K (.ref A.bt) (.ref A.bt) = some true) (i_bf_v : PySem.W.kitOne K (.ref A.bf) (.type "ValueError") = some true) (i_ng_v : PySem.W.kitOne K (.ref A.ng) (.type "ValueError") = some true) (i_nf_v : PySem.W.kitOne K (.ref A.nf) (.type "ValueError") = some true) (i_nb_v : PySem.W.kitOne K (.ref A.nb) (.type "ValueError") = some true) (i_ns_v : PySem.W.kitOne K (.ref A.ns) (.type "ValueError") = some true) (i_sh_v : PySem.W.kitOne K (.ref A.sh) (.type "ValueError") = some true) (i_oc_v : PySem.W.kitOne K (.ref A.oc) (.type "ValueError") = some true) (i_bt_v : PySem.W.kitOne K (.ref A.bt) (.type "ValueError") = some true) (m_bf_le : PySem.W.exmOne K (.ref A.bf) (.ref A.le) = some true) (m_ng_le : PySem.W.exmOne K (.ref A.ng) (.ref A.le) = some true) (m_nf_le : PySem.W.exmOne K (.ref A.nf) (.ref A.le) = some true) (m_nb_le : PySem.W.exmOne K (.ref A.nb) (.ref A.le) = some true) (m_ns_le : PySem.W.exmOne K (.ref A.ns) (.ref A.le) = some true) (m_sh_le : PySem.W.exmOne K (.ref A.sh) (.ref A.le) = some true) (m_oc_le : PySem.W.exmOne K (.ref A.oc) (.ref A.le) = some true) (m_bt_le : PySem.W.exmOne K (.ref A.bt) (.ref A.le) = some true) (e_bf : ExcC K A.bf) (e_ng : ExcC K A.ng) (e_nf : ExcC K A.nf) (e_nb : ExcC K A.nb) (e_ns : ExcC K A.ns) (e_sh : ExcC K A.sh) (e_oc : ExcC K A.oc) (e_bt : ExcC K A.bt) : Sem K (Φ_law_caught A) N_law_caught (t_law_caught K A) := by
  rintro E ds R N' M' ⟨k, c, rfl, rfl, hk, hc, n⟩
  have kit : ∀ j, j < 8 → PySem.W.kitOne K (.ref (exA A k)) (.ref (exA A j)) = some (decide (j = k)) := by
    intro j hj
    match k, hk, j, hj with
    | 0, _, 0, _ => exact i_bf_bf
    | 0, _, 1, _ => exact i_bf_ng
    | 0, _, 2, _ => exact i_bf_nf
    | 0, _, 3, _ => exact i_bf_nb
    | 0, _, 4, _ => exact i_bf_ns
    | 0, _, 5, _ => exact i_bf_sh
    | 0, _, 6, _ => exact i_bf_oc
    | 0, _, 7, _ => exact i_bf_bt
    | 1, _, 0, _ => exact i_ng_bf
    | 1, _, 1, _ => exact i_ng_ng
    | 1, _, 2, _ => exact i_ng_nf
    | 1, _, 3, _ => exact i_ng_nb
    | 1, _, 4, _ => exact i_ng_ns
    | 1, _, 5, _ => exact i_ng_sh
    | 1, _, 6, _ => exact i_ng_oc
    | 1, _, 7, _ => exact i_ng_bt
    | 2, _, 0, _ => exact i_nf_bf
    | 2, _, 1, _ => exact i_nf_ng
    | 2, _, 2, _ => exact i_nf_nf
    | 2, _, 3, _ => exact i_nf_nb
    | 2, _, 4, _ => exact i_nf_ns
    | 2, _, 5, _ => exact i_nf_sh
    | 2, _, 6, _ => exact i_nf_oc
    | 2, _, 7, _ => exact i_nf_bt
    | 3, _, 0, _ => exact i_nb_bf
    | 3, _, 1, _ => exact i_nb_ng
    | 3, _, 2, _ => exact i_nb_nf
    | 3, _, 3, _ => exact i_nb_nb
    | 3, _, 4, _ => exact i_nb_ns
    | 3, _, 5, _ => exact i_nb_sh
    | 3, _, 6, _ => exact i_nb_oc
    | 3, _, 7, _ => exact i_nb_bt
    | 4, _, 0, _ => exact i_ns_bf
    | 4, _, 1, _ => exact i_ns_ng
    | 4, _, 2, _ => exact i_ns_nf
    | 4, _, 3, _ => exact i_ns_nb
    | 4, _, 4, _ => exact i_ns_ns
    | 4, _, 5, _ => exact i_ns_sh
    | 4, _, 6, _ => exact i_ns_oc
    | 4, _, 7, _ => exact i_ns_bt
    | 5, _, 0, _ => exact i_sh_bf
    | 5, _, 1, _ => exact i_sh_ng
    | 5, _, 2, _ => exact i_sh_nf
    | 5, _, 3, _ => exact i_sh_nb
    | 5, _, 4, _ => exact i_sh_ns
    | 5, _, 5, _ => exact i_sh_sh
    | 5, _, 6, _ => exact i_sh_oc
    | 5, _, 7, _ => exact i_sh_bt
    | 6, _, 0, _ => exact i_oc_bf
    | 6, _, 1, _ => exact i_oc_ng
    | 6, _, 2, _ => exact i_oc_nf
    | 6, _, 3, _ => exact i_oc_nb
    | 6, _, 4, _ => exact i_oc_ns
    | 6, _, 5, _ => exact i_oc_sh
    | 6, _, 6, _ => exact i_oc_oc
    | 6, _, 7, _ => exact i_oc_bt
    | 7, _, 0, _ => exact i_bt_bf
    | 7, _, 1, _ => exact i_bt_ng
    | 7, _, 2, _ => exact i_bt_nf
    | 7, _, 3, _ => exact i_bt_nb
    | 7, _, 4, _ => exact i_bt_ns
    | 7, _, 5, _ => exact i_bt_sh
    | 7, _, 6, _ => exact i_bt_oc
    | 7, _, 7, _ => exact i_bt_bt
    | k + 8, h, _, _ => exact absurd h (by omega)
    | _, _, j + 8, h => exact absurd h (by omega)
  have val : PySem.W.kitOne K (.ref (exA A k)) (.type "ValueError") = some true := by
    match k, hk with
    | 0, _ => exact i_bf_v
    | 1, _ => exact i_ng_v
    | 2, _ => exact i_nf_v
    | 3, _ => exact i_nb_v
    | 4, _ => exact i_ns_v
    | 5, _ => exact i_sh_v
    | 6, _ => exact i_oc_v
    | 7, _ => exact i_bt_v
    | k + 8, h => exact absurd h (by omega)
  have met : PySem.W.exmOne K (.ref (exA A k)) (.ref A.le) = some true := by
    match k, hk with
    | 0, _ => exact m_bf_le
    | 1, _ => exact m_ng_le
    | 2, _ => exact m_nf_le
    | 3, _ => exact m_nb_le
    | 4, _ => exact m_ns_le
    | 5, _ => exact m_sh_le
    | 6, _ => exact m_oc_le
    | 7, _ => exact m_bt_le
    | k + 8, h => exact absurd h (by omega)
  have cls : ExcC K (exA A k) := by
    match k, hk with
    | 0, _ => exact e_bf
    | 1, _ => exact e_ng
    | 2, _ => exact e_nf
    | 3, _ => exact e_nb
    | 4, _ => exact e_ns
    | 5, _ => exact e_sh
    | 6, _ => exact e_oc
    | 7, _ => exact e_bt
    | k + 8, h => exact absurd h (by omega)
  refine x_seq (x_asg (d := .d (.list [])) (ev_frz (evf_lst ex_nil (by decide))) ?_)
  refine x_seq (x_asg ev_bl ?_)
  refine x_seqM (fun δ' R' => R' = [] ∧ δ' = [some (.d (.int (k : Nat))), some (.d (.int c)), some (.d (.list (((List.range 8).map fun j => decide (j = k)).map .bool))), some (.d (.bool true)), none, none]) ?_ ?_
  · refine x_tryAs (Hx := fun e δ' R' => e = .ref (exA A k) ∧ δ' = [some (.d (.int (k : Nat))), some (.d (.int c)), some (.d (.list [])), some (.d (.bool false)), none, none]) (fun W => ?_) ?_
    · refine x_dropE (N := fun _ _ => False) (M := fun e R' => e = .ref (exA A k)) (ee_callP (ea_cons (ev_var rfl) (ea_cons (ev_var rfl) ea_nil)) ⟨k, c, rfl, rfl, hk, hc, fun _ => rfl⟩ fun e R' σ H' m h => h) (fun _ _ h => h.elim) ?_
      rintro e R' rfl
      exact ⟨rfl, rfl⟩
    · rintro e δ' R' ⟨rfl, rfl⟩
      refine ⟨true, met, fun _ a => ?_, fun h => nomatch h⟩
      refine XS.dropL (R0 := []) ?_ (List.nil_sublist _)
      refine x_g ⟨⟨_, rfl, cls⟩, rfl⟩ ?_
      refine x_seq (x_asg (d := .d (.list (((List.range 8).map fun j => decide (j = k)).map .bool))) (ev_callP (ea_cons (ev_var rfl) ea_nil) ⟨rfl, rfl, k, kit 0 (by omega), kit 1 (by omega), kit 2 (by omega), kit 3 (by omega), kit 4 (by omega), kit 5 (by omega), kit 6 (by omega), kit 7 (by omega), rfl, rfl⟩) ?_)
      refine x_asg (d := .d (.bool true)) (ev_isE (ev_var rfl) ?_ val) ⟨rfl, rfl⟩
      rintro u r; exact r
  rintro δ' R' ⟨rfl, rfl⟩
  refine x_ret (d := .d (.bool true)) (ev_and (a := true) (b := true) (ev_var rfl) fun _ => ev_is (ev_op (x := .d (.list (((List.range 8).map fun j => decide (j = k)).map .bool))) (y := .d (.list (((List.range 8).map fun j => decide (j = k)).map .bool))) (ev_var rfl) (ev_frz (evf_is (evf_lcI0 (xs := List.range 8) (enc := fun g : Nat => .int g) (fun g => .bool (decide (g = k))) (ei_is (ei_rng1M ev_int ⟨by omega, by omega⟩) rfl) (by decide) fun g _ => ev_is (ev_op (ev_var rfl) (ev_var rfl) (rv_eq (.d _) (.d _) (dep_l (Nat.zero_le 60)))) ?q1) (by rw [List.map_map]; rfl))) (rv_eq (.d _) (.d _) (dep_l (dep_map fun _ => Nat.zero_le 10)))) ?q2) n
  case q1 =>
    rw [eqv_int]
    refine congrArg (fun z => D.d (.bool z)) ?_
    rw [Bool.eq_iff_iff, decide_eq_true_eq, decide_eq_true_eq]
    omega
  case q2 => rw [eqv_list, eqv_bools]; simp
theorem s_law : Sem K (Φ_law A) N_law (t_law K A) := by
  rintro E ds R N' M' ⟨ns, rfl, rfl, hl, n⟩
  refine x_seq (x_asg (d := .d (.int (cellI ns 1 % 999983))) ?q1 ?_)
  case q1 => walk_at "ev"
  have c0 : 0 ≤ cellI ns 1 % 999983 := by omega
  generalize cellI ns 1 % 999983 = c at *
  refine x_seq ?_
  refine x_forI (xs := List.range 8) (enc := fun g : Nat => .int g) (fun i δ' R' => ∃ v, R' = [] ∧ δ' = [some (.s ns), some (.d (.int c)), v]) (ei_is (ei_rng1M ev_int ⟨by omega, by omega⟩) rfl) ⟨none, rfl, rfl⟩ ?_ ?_
  · rintro i j δ' R' hi ⟨v, rfl, rfl⟩
    refine ⟨_, eg_name, ?_⟩
    refine x_if (b := false) (et_not (b := true) (et_val (ev_callP (ds := [.d (.int (((cellI ns 0 + j) % 8).toNat : Nat)), .d (.int c)]) (ea_cons (ev_is (ev_op (x := .d (.int (cellI ns 0 + j))) (ev_op (x := .d (.int (cellI ns 0))) ?q2 (ev_var rfl) rv_plusI) ev_int (rv_mod (by decide))) ?q3) (ea_cons (ev_var rfl) ea_nil)) ⟨_, c, rfl, rfl, by omega, c0, rfl, rfl⟩))) (fun z => nomatch z) fun _ => x_nil ⟨_, rfl, rfl⟩
    case q2 => walk_at "ev"
    case q3 => rw [show ((((cellI ns 0 + j) % 8).toNat : Nat) : Int) = (cellI ns 0 + j) % 8 by omega]
  · rintro δ' R' ⟨v, rfl, rfl⟩
    exact x_ret ev_bl (n _)
end
def top (i : Nat) : Stmt := PySem.Challenge.pw_lockflight_k19_each_refusal_alone.main.body.getD i (.Pass ⟨0, 0, 0, 0⟩)
abbrev st_ask_levels : Stmt := top 13
theorem sc_ask_levels : FnScope N_ask_levels ["levels"] (defScope st_ask_levels) := ⟨rfl, rfl, rfl, by decide +kernel, rfl, by decide +kernel, by decide +kernel⟩
abbrev st_m_init : Stmt := inClass (top 14) 0
theorem sc_m_init : FnScope N_m_init ["self", "levels"] (defScope st_m_init) := ⟨rfl, rfl, rfl, by decide +kernel, rfl, by decide +kernel, by decide +kernel⟩
abbrev st_m_top : Stmt := inClass (top 14) 2
theorem sc_m_top : FnScope N_m_top ["self"] (defScope st_m_top) := ⟨rfl, rfl, rfl, by decide +kernel, rfl, by decide +kernel, by decide +kernel⟩
abbrev st_m_boats : Stmt := inClass (top 14) 3
theorem sc_m_boats : FnScope N_m_boats ["self"] (defScope st_m_boats) := ⟨rfl, rfl, rfl, by decide +kernel, rfl, by decide +kernel, by decide +kernel⟩
abbrev st_m_waiting : Stmt := inClass (top 14) 4
theorem sc_m_waiting : FnScope N_m_waiting ["self", "side"] (defScope st_m_waiting) := ⟨rfl, rfl, rfl, by decide +kernel, rfl, by decide +kernel, by decide +kernel⟩
abbrev st_m_place : Stmt := inClass (top 14) 7
theorem sc_m_place : FnScope N_m_place ["self", "boat"] (defScope st_m_place) := ⟨rfl, rfl, rfl, by decide +kernel, rfl, by decide +kernel, by decide +kernel⟩
abbrev st_m_come : Stmt := inClass (top 14) 10
theorem sc_m_come : FnScope N_m_come ["self", "side"] (defScope st_m_come) := ⟨rfl, rfl, rfl, by decide +kernel, rfl, by decide +kernel, by decide +kernel⟩
abbrev st_m_let : Stmt := inClass (top 14) 11
theorem sc_m_let : FnScope N_m_let ["self", "gate"] (defScope st_m_let) := ⟨rfl, rfl, rfl, by decide +kernel, rfl, by decide +kernel, by decide +kernel⟩
abbrev st_m_is_level : Stmt := inClass (top 14) 12
theorem sc_m_is_level : FnScope N_m_is_level ["self", "gate"] (defScope st_m_is_level) := ⟨rfl, rfl, rfl, by decide +kernel, rfl, by decide +kernel, by decide +kernel⟩
abbrev st_m_sail : Stmt := inClass (top 14) 13
theorem sc_m_sail : FnScope N_m_sail ["self", "boat"] (defScope st_m_sail) := ⟨rfl, rfl, rfl, by decide +kernel, rfl, by decide +kernel, by decide +kernel⟩
abbrev st_read_order : Stmt := top 17
theorem sc_read_order : FnScope N_read_order ["text"] (defScope st_read_order) := ⟨rfl, rfl, rfl, by decide +kernel, rfl, by decide +kernel, by decide +kernel⟩
abbrev st_law_cell_at : Stmt := top 19
theorem sc_law_cell_at : FnScope N_law_cell_at ["script", "k"] (defScope st_law_cell_at) := ⟨rfl, rfl, rfl, by decide +kernel, rfl, by decide +kernel, by decide +kernel⟩
abbrev st_law_boats : Stmt := top 20
theorem sc_law_boats : FnScope N_law_boats ["levels"] (defScope st_law_boats) := ⟨rfl, rfl, rfl, by decide +kernel, rfl, by decide +kernel, by decide +kernel⟩
abbrev st_law_refuses : Stmt := top 21
theorem sc_law_refuses : FnScope N_law_refuses ["which", "cell"] (defScope st_law_refuses) := ⟨rfl, rfl, rfl, by decide +kernel, rfl, by decide +kernel, by decide +kernel⟩
abbrev st_law_classes : Stmt := top 22
theorem sc_law_classes : FnScope N_law_classes ["e"] (defScope st_law_classes) := ⟨rfl, rfl, rfl, by decide +kernel, rfl, by decide +kernel, by decide +kernel⟩
abbrev st_law_caught : Stmt := top 23
theorem sc_law_caught : FnScope N_law_caught ["which", "cell"] (defScope st_law_caught) := ⟨rfl, rfl, rfl, by decide +kernel, rfl, by decide +kernel, by decide +kernel⟩
abbrev st_law : Stmt := top 24
theorem sc_law : FnScope N_law ["script"] (defScope st_law) := ⟨rfl, rfl, rfl, by decide +kernel, rfl, by decide +kernel, by decide +kernel⟩
structure Tx (K : PySem.W.Frag) (mg : Str → Option Value) (A : Ad) : Prop where
  b_len : mg "len" = none
  c_MOST_CHAMBERS : ∃ u, mg "MOST_CHAMBERS" = some u ∧ RelV (.int 8) u
  x_bf : PySem.W.excIn K A.bf [.type "ValueError", .type "Exception", .type "BaseException", .type "object"] "ValueError.__new__" = true
  g_bf : mg "BadFlight" = some (.ref A.bf)
  k_bf : PySem.W.keepIn K (.ref A.bf) = true
  s_bf : PySem.W.subIn K (.ref A.bf) (.type "BaseException") = some true
  t_bf : PySem.W.typeIn K (.ref A.bf) = some (.type "type")
  b_list : mg "list" = none
  b_sorted : mg "sorted" = none
  x_nb : PySem.W.excIn K A.nb [.type "ValueError", .type "Exception", .type "BaseException", .type "object"] "ValueError.__new__" = true
  g_nb : mg "NoBoat" = some (.ref A.nb)
  k_nb : PySem.W.keepIn K (.ref A.nb) = true
  s_nb : PySem.W.subIn K (.ref A.nb) (.type "BaseException") = some true
  t_nb : PySem.W.typeIn K (.ref A.nb) = some (.type "type")
  x_ng : PySem.W.excIn K A.ng [.type "ValueError", .type "Exception", .type "BaseException", .type "object"] "ValueError.__new__" = true
  g_ng : mg "NoGate" = some (.ref A.ng)
  k_ng : PySem.W.keepIn K (.ref A.ng) = true
  s_ng : PySem.W.subIn K (.ref A.ng) (.type "BaseException") = some true
  t_ng : PySem.W.typeIn K (.ref A.ng) = some (.type "type")
  x_nf : PySem.W.excIn K A.nf [.type "ValueError", .type "Exception", .type "BaseException", .type "object"] "ValueError.__new__" = true
  g_nf : mg "NoFall" = some (.ref A.nf)
  k_nf : PySem.W.keepIn K (.ref A.nf) = true
  s_nf : PySem.W.subIn K (.ref A.nf) (.type "BaseException") = some true
  t_nf : PySem.W.typeIn K (.ref A.nf) = some (.type "type")
  x_ns : PySem.W.excIn K A.ns [.type "ValueError", .type "Exception", .type "BaseException", .type "object"] "ValueError.__new__" = true
  g_ns : mg "NotFirst" = some (.ref A.ns)
  k_ns : PySem.W.keepIn K (.ref A.ns) = true
  s_ns : PySem.W.subIn K (.ref A.ns) (.type "BaseException") = some true
  t_ns : PySem.W.typeIn K (.ref A.ns) = some (.type "type")
  x_sh : PySem.W.excIn K A.sh [.type "ValueError", .type "Exception", .type "BaseException", .type "object"] "ValueError.__new__" = true
  g_sh : mg "Shut" = some (.ref A.sh)
  k_sh : PySem.W.keepIn K (.ref A.sh) = true
  s_sh : PySem.W.subIn K (.ref A.sh) (.type "BaseException") = some true
  t_sh : PySem.W.typeIn K (.ref A.sh) = some (.type "type")
  x_oc : PySem.W.excIn K A.oc [.type "ValueError", .type "Exception", .type "BaseException", .type "object"] "ValueError.__new__" = true
  g_oc : mg "Occupied" = some (.ref A.oc)
  k_oc : PySem.W.keepIn K (.ref A.oc) = true
  s_oc : PySem.W.subIn K (.ref A.oc) (.type "BaseException") = some true
  t_oc : PySem.W.typeIn K (.ref A.oc) = some (.type "type")
  c_MOST_BOATS : ∃ u, mg "MOST_BOATS" = some u ∧ RelV (.int 40) u
  x_bt : PySem.W.excIn K A.bt [.type "ValueError", .type "Exception", .type "BaseException", .type "object"] "ValueError.__new__" = true
  g_bt : mg "BadText" = some (.ref A.bt)
  k_bt : PySem.W.keepIn K (.ref A.bt) = true
  s_bt : PySem.W.subIn K (.ref A.bt) (.type "BaseException") = some true
  t_bt : PySem.W.typeIn K (.ref A.bt) = some (.type "type")
  b_range : mg "range" = none
  b_isinstance : mg "isinstance" = none
  g_le : mg "LockError" = some (.ref A.le)
  b_ValueError : mg "ValueError" = none
  cl : Cls K A.C
  fl : Fx K A
  i_bf_bf : PySem.W.kitOne K (.ref A.bf) (.ref A.bf) = some true
  i_bf_ng : PySem.W.kitOne K (.ref A.bf) (.ref A.ng) = some false
  i_bf_nf : PySem.W.kitOne K (.ref A.bf) (.ref A.nf) = some false
  i_bf_nb : PySem.W.kitOne K (.ref A.bf) (.ref A.nb) = some false
  i_bf_ns : PySem.W.kitOne K (.ref A.bf) (.ref A.ns) = some false
  i_bf_sh : PySem.W.kitOne K (.ref A.bf) (.ref A.sh) = some false
  i_bf_oc : PySem.W.kitOne K (.ref A.bf) (.ref A.oc) = some false
  i_bf_bt : PySem.W.kitOne K (.ref A.bf) (.ref A.bt) = some false
  i_ng_bf : PySem.W.kitOne K (.ref A.ng) (.ref A.bf) = some false
  i_ng_ng : PySem.W.kitOne K (.ref A.ng) (.ref A.ng) = some true
  i_ng_nf : PySem.W.kitOne K (.ref A.ng) (.ref A.nf) = some false
  i_ng_nb : PySem.W.kitOne K (.ref A.ng) (.ref A.nb) = some false
  i_ng_ns : PySem.W.kitOne K (.ref A.ng) (.ref A.ns) = some false
  i_ng_sh : PySem.W.kitOne K (.ref A.ng) (.ref A.sh) = some false
  i_ng_oc : PySem.W.kitOne K (.ref A.ng) (.ref A.oc) = some false
  i_ng_bt : PySem.W.kitOne K (.ref A.ng) (.ref A.bt) = some false
  i_nf_bf : PySem.W.kitOne K (.ref A.nf) (.ref A.bf) = some false
  i_nf_ng : PySem.W.kitOne K (.ref A.nf) (.ref A.ng) = some false
  i_nf_nf : PySem.W.kitOne K (.ref A.nf) (.ref A.nf) = some true
  i_nf_nb : PySem.W.kitOne K (.ref A.nf) (.ref A.nb) = some false
  i_nf_ns : PySem.W.kitOne K (.ref A.nf) (.ref A.ns) = some false
  i_nf_sh : PySem.W.kitOne K (.ref A.nf) (.ref A.sh) = some false
  i_nf_oc : PySem.W.kitOne K (.ref A.nf) (.ref A.oc) = some false
  i_nf_bt : PySem.W.kitOne K (.ref A.nf) (.ref A.bt) = some false
  i_nb_bf : PySem.W.kitOne K (.ref A.nb) (.ref A.bf) = some false
  i_nb_ng : PySem.W.kitOne K (.ref A.nb) (.ref A.ng) = some false
  i_nb_nf : PySem.W.kitOne K (.ref A.nb) (.ref A.nf) = some false
  i_nb_nb : PySem.W.kitOne K (.ref A.nb) (.ref A.nb) = some true
  i_nb_ns : PySem.W.kitOne K (.ref A.nb) (.ref A.ns) = some false
  i_nb_sh : PySem.W.kitOne K (.ref A.nb) (.ref A.sh) = some false
  i_nb_oc : PySem.W.kitOne K (.ref A.nb) (.ref A.oc) = some false
  i_nb_bt : PySem.W.kitOne K (.ref A.nb) (.ref A.bt) = some false
  i_ns_bf : PySem.W.kitOne K (.ref A.ns) (.ref A.bf) = some false
  i_ns_ng : PySem.W.kitOne K (.ref A.ns) (.ref A.ng) = some false
  i_ns_nf : PySem.W.kitOne K (.ref A.ns) (.ref A.nf) = some false
  i_ns_nb : PySem.W.kitOne K (.ref A.ns) (.ref A.nb) = some false
  i_ns_ns : PySem.W.kitOne K (.ref A.ns) (.ref A.ns) = some true
  i_ns_sh : PySem.W.kitOne K (.ref A.ns) (.ref A.sh) = some false
  i_ns_oc : PySem.W.kitOne K (.ref A.ns) (.ref A.oc) = some false
  i_ns_bt : PySem.W.kitOne K (.ref A.ns) (.ref A.bt) = some false
  i_sh_bf : PySem.W.kitOne K (.ref A.sh) (.ref A.bf) = some false
  i_sh_ng : PySem.W.kitOne K (.ref A.sh) (.ref A.ng) = some false
  i_sh_nf : PySem.W.kitOne K (.ref A.sh) (.ref A.nf) = some false
  i_sh_nb : PySem.W.kitOne K (.ref A.sh) (.ref A.nb) = some false
  i_sh_ns : PySem.W.kitOne K (.ref A.sh) (.ref A.ns) = some false
  i_sh_sh : PySem.W.kitOne K (.ref A.sh) (.ref A.sh) = some true
  i_sh_oc : PySem.W.kitOne K (.ref A.sh) (.ref A.oc) = some false
  i_sh_bt : PySem.W.kitOne K (.ref A.sh) (.ref A.bt) = some false
  i_oc_bf : PySem.W.kitOne K (.ref A.oc) (.ref A.bf) = some false
  i_oc_ng : PySem.W.kitOne K (.ref A.oc) (.ref A.ng) = some false
  i_oc_nf : PySem.W.kitOne K (.ref A.oc) (.ref A.nf) = some false
  i_oc_nb : PySem.W.kitOne K (.ref A.oc) (.ref A.nb) = some false
  i_oc_ns : PySem.W.kitOne K (.ref A.oc) (.ref A.ns) = some false
  i_oc_sh : PySem.W.kitOne K (.ref A.oc) (.ref A.sh) = some false
  i_oc_oc : PySem.W.kitOne K (.ref A.oc) (.ref A.oc) = some true
  i_oc_bt : PySem.W.kitOne K (.ref A.oc) (.ref A.bt) = some false
  i_bt_bf : PySem.W.kitOne K (.ref A.bt) (.ref A.bf) = some false
  i_bt_ng : PySem.W.kitOne K (.ref A.bt) (.ref A.ng) = some false
  i_bt_nf : PySem.W.kitOne K (.ref A.bt) (.ref A.nf) = some false
  i_bt_nb : PySem.W.kitOne K (.ref A.bt) (.ref A.nb) = some false
  i_bt_ns : PySem.W.kitOne K (.ref A.bt) (.ref A.ns) = some false
  i_bt_sh : PySem.W.kitOne K (.ref A.bt) (.ref A.sh) = some false
  i_bt_oc : PySem.W.kitOne K (.ref A.bt) (.ref A.oc) = some false
  i_bt_bt : PySem.W.kitOne K (.ref A.bt) (.ref A.bt) = some true
  i_bf_ValueError : PySem.W.kitOne K (.ref A.bf) (.type "ValueError") = some true
  i_ng_ValueError : PySem.W.kitOne K (.ref A.ng) (.type "ValueError") = some true
  i_nf_ValueError : PySem.W.kitOne K (.ref A.nf) (.type "ValueError") = some true
  i_nb_ValueError : PySem.W.kitOne K (.ref A.nb) (.type "ValueError") = some true
  i_ns_ValueError : PySem.W.kitOne K (.ref A.ns) (.type "ValueError") = some true
  i_sh_ValueError : PySem.W.kitOne K (.ref A.sh) (.type "ValueError") = some true
  i_oc_ValueError : PySem.W.kitOne K (.ref A.oc) (.type "ValueError") = some true
  i_bt_ValueError : PySem.W.kitOne K (.ref A.bt) (.type "ValueError") = some true
  m_bf_le : PySem.W.exmOne K (.ref A.bf) (.ref A.le) = some true
  m_ng_le : PySem.W.exmOne K (.ref A.ng) (.ref A.le) = some true
  m_nf_le : PySem.W.exmOne K (.ref A.nf) (.ref A.le) = some true
  m_nb_le : PySem.W.exmOne K (.ref A.nb) (.ref A.le) = some true
  m_ns_le : PySem.W.exmOne K (.ref A.ns) (.ref A.le) = some true
  m_sh_le : PySem.W.exmOne K (.ref A.sh) (.ref A.le) = some true
  m_oc_le : PySem.W.exmOne K (.ref A.oc) (.ref A.le) = some true
  m_bt_le : PySem.W.exmOne K (.ref A.bt) (.ref A.le) = some true
  e_bf : ExcC K A.bf
  e_ng : ExcC K A.ng
  e_nf : ExcC K A.nf
  e_nb : ExcC K A.nb
  e_ns : ExcC K A.ns
  e_sh : ExcC K A.sh
  e_oc : ExcC K A.oc
  e_bt : ExcC K A.bt
section
variable {P : Program} {w : World} {K : PySem.W.Frag} {mg : Str → Option Value} {base : Heap} {A : Ad}
theorem ok_ask_levels {f : Addr} {fd : FuncData} (F : Fun K "ask_levels" "ask_levels" st_ask_levels f fd) (T : Tx K mg A)  : FnOk P w K mg base (L2.CX P w) 2 f fd ["levels"] (spD K (Φ_ask_levels A)) :=
  cl_of (t_ask_levels K A) F sc_ask_levels (by intro ds R N M h; first | (obtain ⟨rfl, _⟩ := h; rfl) | (obtain ⟨_, rfl, _⟩ := h; rfl) | (obtain ⟨_, _, rfl, _⟩ := h; rfl) | (obtain ⟨_, _, _, rfl, _⟩ := h; rfl) | (obtain ⟨_, _, _, _, rfl, _⟩ := h; rfl) | (obtain ⟨_, _, _, _, _, rfl, _⟩ := h; rfl) | (obtain ⟨_, _, _, _, _, _, rfl, _⟩ := h; rfl) | (obtain ⟨_, _, _, _, _, _, _, rfl, _⟩ := h; rfl) | (obtain ⟨_, _, _, _, _, _, _, _, rfl, _⟩ := h; rfl) | (obtain ⟨_, _, _, _, _, _, _, _, _, rfl, _⟩ := h; rfl)) s_ask_levels fun cdv Ar outer s H E hr =>
  (pss_one (ps_if (pt_not (pt_chain op_le op_le pe_int (pe_callB call_len (by rfl) T.b_len (by decide +kernel) (pa_cons (pv 0) pa_nil)) (pe_gcn (by rfl) T.c_MOST_CHAMBERS))) (pss_one (ps_rz rfl (takes_of rfl rfl rfl rfl) (pmk_own PySem.F.excBase_ValueError T.x_bf T.g_bf T.k_bf (raises_own T.s_bf T.t_bf) (by exact rfl)))) pss_nil))
theorem ok_m_init {f : Addr} {fd : FuncData} (F : Fun K "__init__" "Flight.__init__" st_m_init f fd) (T : Tx K mg A) (q_ask_levels : Cl P w K mg base 2 "ask_levels" ["levels"] (spD K (Φ_ask_levels A))) : FnOk P w K mg base (L2.CX P w) 3 f fd ["self", "levels"] (spD K (Φ_m_init A)) :=
  cl_of (t_m_init K A) F sc_m_init (by intro ds R N M h; first | (obtain ⟨rfl, _⟩ := h; rfl) | (obtain ⟨_, rfl, _⟩ := h; rfl) | (obtain ⟨_, _, rfl, _⟩ := h; rfl) | (obtain ⟨_, _, _, rfl, _⟩ := h; rfl) | (obtain ⟨_, _, _, _, rfl, _⟩ := h; rfl) | (obtain ⟨_, _, _, _, _, rfl, _⟩ := h; rfl) | (obtain ⟨_, _, _, _, _, _, rfl, _⟩ := h; rfl) | (obtain ⟨_, _, _, _, _, _, _, rfl, _⟩ := h; rfl) | (obtain ⟨_, _, _, _, _, _, _, _, rfl, _⟩ := h; rfl) | (obtain ⟨_, _, _, _, _, _, _, _, _, rfl, _⟩ := h; rfl)) (s_m_init T.fl) fun cdv Ar outer s H E hr =>
  (pss_cons (ps_expr (pe_cl q_ask_levels hr (by decide) (by rfl) (pasX (takes_of rfl rfl rfl rfl)) (pa_cons (pv 1) pa_nil)))
  (pss_cons (ps_fld (pv 0) (pe_callTy call_list_of (by rfl) T.b_list (by decide +kernel) (pa_cons (pv 1) pa_nil)) rfl)
  (pss_cons (ps_fld (pv 0) (pe_lst pa_nil) rfl)
  (pss_cons (ps_fld (pv 0) pe_dnewK rfl)
  (pss_cons (ps_fld (pv 0) (pe_lst pa_nil) rfl)
  (pss_cons (ps_fld (pv 0) pe_int rfl)
  (pss_one (ps_fld (pv 0) pe_int rfl))))))))
theorem ok_m_top {f : Addr} {fd : FuncData} (F : Fun K "top" "Flight.top" st_m_top f fd) (T : Tx K mg A)  : FnOk P w K mg base (L2.CX P w) 2 f fd ["self"] (spD K (Φ_m_top A)) :=
  cl_of (t_m_top K A) F sc_m_top (by intro ds R N M h; first | (obtain ⟨rfl, _⟩ := h; rfl) | (obtain ⟨_, rfl, _⟩ := h; rfl) | (obtain ⟨_, _, rfl, _⟩ := h; rfl) | (obtain ⟨_, _, _, rfl, _⟩ := h; rfl) | (obtain ⟨_, _, _, _, rfl, _⟩ := h; rfl) | (obtain ⟨_, _, _, _, _, rfl, _⟩ := h; rfl) | (obtain ⟨_, _, _, _, _, _, rfl, _⟩ := h; rfl) | (obtain ⟨_, _, _, _, _, _, _, rfl, _⟩ := h; rfl) | (obtain ⟨_, _, _, _, _, _, _, _, rfl, _⟩ := h; rfl) | (obtain ⟨_, _, _, _, _, _, _, _, _, rfl, _⟩ := h; rfl)) (s_m_top T.fl) fun cdv Ar outer s H E hr =>
  (pss_one (ps_ret (pe_op op_plus (pe_callB call_len (by rfl) T.b_len (by decide +kernel) (pa_cons (pe_fld (pv 0) rfl) pa_nil)) pe_int)))
theorem ok_m_boats {f : Addr} {fd : FuncData} (F : Fun K "boats" "Flight.boats" st_m_boats f fd) (T : Tx K mg A) (q_m_top : Mt P w K mg base 2 A.C "top" ["self"] (spD K (Φ_m_top A))) : FnOk P w K mg base (L2.CX P w) 3 f fd ["self"] (spD K (Φ_m_boats A)) :=
  cl_of (t_m_boats K A) F sc_m_boats (by intro ds R N M h; first | (obtain ⟨rfl, _⟩ := h; rfl) | (obtain ⟨_, rfl, _⟩ := h; rfl) | (obtain ⟨_, _, rfl, _⟩ := h; rfl) | (obtain ⟨_, _, _, rfl, _⟩ := h; rfl) | (obtain ⟨_, _, _, _, rfl, _⟩ := h; rfl) | (obtain ⟨_, _, _, _, _, rfl, _⟩ := h; rfl) | (obtain ⟨_, _, _, _, _, _, rfl, _⟩ := h; rfl) | (obtain ⟨_, _, _, _, _, _, _, rfl, _⟩ := h; rfl) | (obtain ⟨_, _, _, _, _, _, _, _, rfl, _⟩ := h; rfl) | (obtain ⟨_, _, _, _, _, _, _, _, _, rfl, _⟩ := h; rfl)) (s_m_boats T.fl) fun cdv Ar outer s H E hr =>
  (pss_cons (ps_setLc (i := 1) (own := [("level", 3)]) (g := gName 3) rfl sc_m_boats.nd rfl rfl (sw_true rfl rfl rfl (by decide +kernel)) (pi_list (pe_fld (pv 0) rfl)) (blkOk_by (own := [("level", 3)]) (N := N_m_boats) (sc := defScope st_m_boats) (by decide +kernel)) (fun _ _ _ _ _ => pg_name (i := 3) sc_m_boats.nd rfl (Or.inl rfl)) (fun _ _ _ _ _ => pts_nil) (fun _ _ _ _ _ => pe_non))
  (pss_cons (ps_for (passes_of rfl) rfl (pi_list (pe_callTy (call_list_dK rfl) (by rfl) T.b_list (by decide +kernel) (pa_cons (pe_fld (pv 0) rfl) pa_nil))) (pg_name (i := 2) sc_m_boats.nd rfl (Or.inl rfl)) (pss_one (ps_if (pt_chain op_lt op_lt pe_int (pe_dget (hu_of hr) (pe_fld (pv 0) rfl) (pv 2) (fun _ _ => rfl)) (pe_mtS0 q_m_top hr (by decide) (pasX (takes_of rfl rfl rfl rfl)) (pv 0))) (pss_one (ps_asg (pv 2) (pg_sub (pv 1) (pe_op op_sub (pe_dget (hu_of hr) (pe_fld (pv 0) rfl) (pv 2) (fun _ _ => rfl)) pe_int) set_list))) pss_nil)))
  (pss_one (ps_ret (pv 1)))))
theorem ok_m_waiting {f : Addr} {fd : FuncData} (F : Fun K "waiting" "Flight.waiting" st_m_waiting f fd) (T : Tx K mg A) (q_m_top : Mt P w K mg base 2 A.C "top" ["self"] (spD K (Φ_m_top A))) : FnOk P w K mg base (L2.CX P w) 3 f fd ["self", "side"] (spD K (Φ_m_waiting A)) :=
  cl_of (t_m_waiting K A) F sc_m_waiting (by intro ds R N M h; first | (obtain ⟨rfl, _⟩ := h; rfl) | (obtain ⟨_, rfl, _⟩ := h; rfl) | (obtain ⟨_, _, rfl, _⟩ := h; rfl) | (obtain ⟨_, _, _, rfl, _⟩ := h; rfl) | (obtain ⟨_, _, _, _, rfl, _⟩ := h; rfl) | (obtain ⟨_, _, _, _, _, rfl, _⟩ := h; rfl) | (obtain ⟨_, _, _, _, _, _, rfl, _⟩ := h; rfl) | (obtain ⟨_, _, _, _, _, _, _, rfl, _⟩ := h; rfl) | (obtain ⟨_, _, _, _, _, _, _, _, rfl, _⟩ := h; rfl) | (obtain ⟨_, _, _, _, _, _, _, _, _, rfl, _⟩ := h; rfl)) (s_m_waiting T.fl) fun cdv Ar outer s H E hr =>
  (pss_cons (ps_set (i := 2) sc_m_waiting.nd rfl (Or.inr rfl) pe_int)
  (pss_cons (ps_if (pt_cmpR (op_eqP hr.units) (pv 1) pe_str (nomark _)) (pss_one (ps_set (i := 2) sc_m_waiting.nd rfl (Or.inr rfl) (pe_mtS0 q_m_top hr (by decide) (pasX (takes_of rfl rfl rfl rfl)) (pv 0)))) pss_nil)
  (pss_cons (ps_setLc (i := 3) (own := [("boat", 4)]) (g := gName 4) rfl sc_m_waiting.nd rfl rfl (sw_true rfl rfl rfl (by decide +kernel)) (pi_list (pe_callB cr_sortedI (by rfl) T.b_sorted (by decide +kernel) (pa_cons (pe_callTy (call_list_dK rfl) (by rfl) T.b_list (by decide +kernel) (pa_cons (pe_fld (pv 0) rfl) pa_nil)) pa_nil))) (blkOk_by (own := [("boat", 4)]) (N := N_m_waiting) (sc := defScope st_m_waiting) (by decide +kernel)) (fun _ _ _ _ _ => pg_name (i := 4) sc_m_waiting.nd rfl (Or.inl rfl)) (fun _ _ _ _ _ => (pts_one (pt_cmpR (op_eqP hr.units) (pe_dget (hu_of hr) (pe_fld (pv 0) rfl) (pv 4) (fun _ _ => rfl)) (pv 2) (nomark _)))) (fun _ _ _ _ _ => (pv 4)))
  (pss_one (ps_ret (pe_lc (own := [("boat", 4)]) (g := gName 4) rfl sc_m_waiting.nd (pi_list (pv 3)) (blkOk_by (own := [("boat", 4)]) (N := N_m_waiting) (sc := defScope st_m_waiting) (by decide +kernel)) (fun _ _ _ _ _ => pg_name (i := 4) sc_m_waiting.nd rfl (Or.inl rfl)) (fun _ _ _ _ _ => (pts_one (pt_cmpR (op_eqP hr.units) (pe_ix ix_seq (pe_fld (pv 0) rfl) (pv 4) (fun _ _ => rfl)) (pv 1) (nomark _)))) (fun _ _ _ _ _ => (pv 4))))))))
theorem ok_m_place {f : Addr} {fd : FuncData} (F : Fun K "place" "Flight.place" st_m_place f fd) (T : Tx K mg A)  : FnOk P w K mg base (L2.CX P w) 2 f fd ["self", "boat"] (spD K (Φ_m_place A)) :=
  cl_of (t_m_place K A) F sc_m_place (by intro ds R N M h; first | (obtain ⟨rfl, _⟩ := h; rfl) | (obtain ⟨_, rfl, _⟩ := h; rfl) | (obtain ⟨_, _, rfl, _⟩ := h; rfl) | (obtain ⟨_, _, _, rfl, _⟩ := h; rfl) | (obtain ⟨_, _, _, _, rfl, _⟩ := h; rfl) | (obtain ⟨_, _, _, _, _, rfl, _⟩ := h; rfl) | (obtain ⟨_, _, _, _, _, _, rfl, _⟩ := h; rfl) | (obtain ⟨_, _, _, _, _, _, _, rfl, _⟩ := h; rfl) | (obtain ⟨_, _, _, _, _, _, _, _, rfl, _⟩ := h; rfl) | (obtain ⟨_, _, _, _, _, _, _, _, _, rfl, _⟩ := h; rfl)) (s_m_place T.fl) fun cdv Ar outer s H E hr =>
  (pss_cons (ps_if (pt_cmp (pc_dnotin (hu_of hr) (pv 1) (pe_fld (pv 0) rfl))) (pss_one (ps_rz rfl (takes_of rfl rfl rfl rfl) (pmk_own PySem.F.excBase_ValueError T.x_nb T.g_nb T.k_nb (raises_own T.s_nb T.t_nb) (by exact rfl)))) pss_nil)
  (pss_one (ps_ret (pe_dget (hu_of hr) (pe_fld (pv 0) rfl) (pv 1) (fun _ _ => rfl)))))
theorem ok_m_come {f : Addr} {fd : FuncData} (F : Fun K "come" "Flight.come" st_m_come f fd) (T : Tx K mg A) (q_m_top : Mt P w K mg base 2 A.C "top" ["self"] (spD K (Φ_m_top A))) : FnOk P w K mg base (L2.CX P w) 3 f fd ["self", "side"] (spD K (Φ_m_come A)) :=
  cl_of (t_m_come K A) F sc_m_come (by intro ds R N M h; first | (obtain ⟨rfl, _⟩ := h; rfl) | (obtain ⟨_, rfl, _⟩ := h; rfl) | (obtain ⟨_, _, rfl, _⟩ := h; rfl) | (obtain ⟨_, _, _, rfl, _⟩ := h; rfl) | (obtain ⟨_, _, _, _, rfl, _⟩ := h; rfl) | (obtain ⟨_, _, _, _, _, rfl, _⟩ := h; rfl) | (obtain ⟨_, _, _, _, _, _, rfl, _⟩ := h; rfl) | (obtain ⟨_, _, _, _, _, _, _, rfl, _⟩ := h; rfl) | (obtain ⟨_, _, _, _, _, _, _, _, rfl, _⟩ := h; rfl) | (obtain ⟨_, _, _, _, _, _, _, _, _, rfl, _⟩ := h; rfl)) (s_m_come T.fl) fun cdv Ar outer s H E hr =>
  (pss_cons (ps_set (i := 2) sc_m_come.nd rfl (Or.inl rfl) (pe_callB call_len (by rfl) T.b_len (by decide +kernel) (pa_cons (pe_fld (pv 0) rfl) pa_nil)))
  (pss_cons (ps_expr (pe_bm PySem.F.plainAttrs_list PySem.F.slot_list_append PySem.F.type_list_append mt_append (pe_fld (pv 0) rfl) (pa_cons (pv 1) pa_nil)))
  (pss_cons (ps_dput (hu_of hr) (pe_fld (pv 0) rfl) (pv 2) pe_int rfl)
  (pss_cons (ps_if (pt_cmpR (op_eqP hr.units) (pv 1) pe_str (nomark _)) (pss_one (ps_dput (hu_of hr) (pe_fld (pv 0) rfl) (pv 2) (pe_mtS0 q_m_top hr (by decide) (pasX (takes_of rfl rfl rfl rfl)) (pv 0)) rfl)) pss_nil)
  (pss_one (ps_ret (pv 2)))))))
theorem ok_m_let {f : Addr} {fd : FuncData} (F : Fun K "let" "Flight.let" st_m_let f fd) (T : Tx K mg A)  : FnOk P w K mg base (L2.CX P w) 2 f fd ["self", "gate"] (spD K (Φ_m_let A)) :=
  cl_of (t_m_let K A) F sc_m_let (by intro ds R N M h; first | (obtain ⟨rfl, _⟩ := h; rfl) | (obtain ⟨_, rfl, _⟩ := h; rfl) | (obtain ⟨_, _, rfl, _⟩ := h; rfl) | (obtain ⟨_, _, _, rfl, _⟩ := h; rfl) | (obtain ⟨_, _, _, _, rfl, _⟩ := h; rfl) | (obtain ⟨_, _, _, _, _, rfl, _⟩ := h; rfl) | (obtain ⟨_, _, _, _, _, _, rfl, _⟩ := h; rfl) | (obtain ⟨_, _, _, _, _, _, _, rfl, _⟩ := h; rfl) | (obtain ⟨_, _, _, _, _, _, _, _, rfl, _⟩ := h; rfl) | (obtain ⟨_, _, _, _, _, _, _, _, _, rfl, _⟩ := h; rfl)) (s_m_let T.fl) fun cdv Ar outer s H E hr =>
  (pss_cons (ps_set (i := 2) sc_m_let.nd rfl (Or.inl rfl) (pe_callB call_len (by rfl) T.b_len (by decide +kernel) (pa_cons (pe_fld (pv 0) rfl) pa_nil)))
  (pss_cons (ps_if (pt_not (pt_chain op_le op_le pe_int (pv 1) (pv 2))) (pss_one (ps_rz rfl (takes_of rfl rfl rfl rfl) (pmk_own PySem.F.excBase_ValueError T.x_ng T.g_ng T.k_ng (raises_own T.s_ng T.t_ng) (by exact rfl)))) pss_nil)
  (pss_cons (ps_if (PW.pt (pw_or (PW.pt (pw_and (pt_cmpR op_lt (pv 1) (pv 2) (nomark _)) (pw_and1 (pt_not (pt_val (pe_ix ix_seq (pe_fld (pv 0) rfl) (pv 1) (fun _ _ => rfl))))))) (pw_or1 (PW.pt (pw_and (pt_cmpR op_gt (pv 1) pe_int (nomark _)) (pw_and1 (pt_val (pe_ix ix_seq (pe_fld (pv 0) rfl) (pe_op op_sub (pv 1) pe_int) (fun _ _ => rfl))))))))) (pss_one (ps_rz rfl (takes_of rfl rfl rfl rfl) (pmk_own PySem.F.excBase_ValueError T.x_nf T.g_nf T.k_nf (raises_own T.s_nf T.t_nf) (by exact rfl)))) pss_nil)
  (pss_cons (ps_if (pt_cmpR (op_eqP hr.units) (pv 1) (pv 2) (nomark _)) (pss_one (ps_fld (pv 0) (pe_op op_plus (pe_fld (pv 0) rfl) pe_int) rfl)) (pss_one (ps_asg pe_bl (pg_sub (pe_fld (pv 0) rfl) (pv 1) set_list))))
  (pss_cons (ps_if (pt_cmpR (op_eqP hr.units) (pv 1) pe_int (nomark _)) (pss_one (ps_fld (pv 0) (pe_op op_plus (pe_fld (pv 0) rfl) pe_int) rfl)) (pss_one (ps_asg pe_bl (pg_sub (pe_fld (pv 0) rfl) (pe_op op_sub (pv 1) pe_int) set_list))))
  (pss_one (ps_ret (pe_fld (pv 0) rfl))))))))
theorem ok_m_is_level {f : Addr} {fd : FuncData} (F : Fun K "is_level" "Flight.is_level" st_m_is_level f fd) (T : Tx K mg A)  : FnOk P w K mg base (L2.CX P w) 2 f fd ["self", "gate"] (spD K (Φ_m_is_level A)) :=
  cl_of (t_m_is_level K A) F sc_m_is_level (by intro ds R N M h; first | (obtain ⟨rfl, _⟩ := h; rfl) | (obtain ⟨_, rfl, _⟩ := h; rfl) | (obtain ⟨_, _, rfl, _⟩ := h; rfl) | (obtain ⟨_, _, _, rfl, _⟩ := h; rfl) | (obtain ⟨_, _, _, _, rfl, _⟩ := h; rfl) | (obtain ⟨_, _, _, _, _, rfl, _⟩ := h; rfl) | (obtain ⟨_, _, _, _, _, _, rfl, _⟩ := h; rfl) | (obtain ⟨_, _, _, _, _, _, _, rfl, _⟩ := h; rfl) | (obtain ⟨_, _, _, _, _, _, _, _, rfl, _⟩ := h; rfl) | (obtain ⟨_, _, _, _, _, _, _, _, _, rfl, _⟩ := h; rfl)) (s_m_is_level T.fl) fun cdv Ar outer s H E hr =>
  (pss_cons (ps_set (i := 2) sc_m_is_level.nd rfl (Or.inl rfl) (pe_callB call_len (by rfl) T.b_len (by decide +kernel) (pa_cons (pe_fld (pv 0) rfl) pa_nil)))
  (pss_one (ps_ret (pe_and (pe_or (pe_cmpR (op_eqP hr.units) (pv 1) pe_int (nomark _)) (pe_one (pe_ix ix_seq (pe_fld (pv 0) rfl) (pe_op op_sub (pv 1) pe_int) (fun _ _ => rfl)))) (pe_one (pe_or (pe_cmpR (op_eqP hr.units) (pv 1) (pv 2) (nomark _)) (pe_one (pe_not (pe_ix ix_seq (pe_fld (pv 0) rfl) (pv 1) (fun _ _ => rfl))))))))))
theorem ok_m_sail {f : Addr} {fd : FuncData} (F : Fun K "sail" "Flight.sail" st_m_sail f fd) (T : Tx K mg A) (q_m_place : Mt P w K mg base 2 A.C "place" ["self", "boat"] (spD K (Φ_m_place A))) (q_m_waiting : Mt P w K mg base 3 A.C "waiting" ["self", "side"] (spD K (Φ_m_waiting A))) (q_m_is_level : Mt P w K mg base 2 A.C "is_level" ["self", "gate"] (spD K (Φ_m_is_level A))) (q_m_top : Mt P w K mg base 2 A.C "top" ["self"] (spD K (Φ_m_top A))) (q_m_boats : Mt P w K mg base 3 A.C "boats" ["self"] (spD K (Φ_m_boats A))) : FnOk P w K mg base (L2.CX P w) 4 f fd ["self", "boat"] (spD K (Φ_m_sail A)) :=
  cl_of (t_m_sail K A) F sc_m_sail (by intro ds R N M h; first | (obtain ⟨rfl, _⟩ := h; rfl) | (obtain ⟨_, rfl, _⟩ := h; rfl) | (obtain ⟨_, _, rfl, _⟩ := h; rfl) | (obtain ⟨_, _, _, rfl, _⟩ := h; rfl) | (obtain ⟨_, _, _, _, rfl, _⟩ := h; rfl) | (obtain ⟨_, _, _, _, _, rfl, _⟩ := h; rfl) | (obtain ⟨_, _, _, _, _, _, rfl, _⟩ := h; rfl) | (obtain ⟨_, _, _, _, _, _, _, rfl, _⟩ := h; rfl) | (obtain ⟨_, _, _, _, _, _, _, _, rfl, _⟩ := h; rfl) | (obtain ⟨_, _, _, _, _, _, _, _, _, rfl, _⟩ := h; rfl)) (s_m_sail T.fl) fun cdv Ar outer s H E hr =>
  (pss_cons (ps_set (i := 2) sc_m_sail.nd rfl (Or.inl rfl) (pe_mtS q_m_place hr (by decide) (pasX (takes_of rfl rfl rfl rfl)) (pv 0) (pa_cons (pv 1) pa_nil)))
  (pss_cons (ps_set (i := 3) sc_m_sail.nd rfl (Or.inl rfl) (pe_ix ix_seq (pe_fld (pv 0) rfl) (pv 1) (fun _ _ => rfl)))
  (pss_cons (ps_set (i := 4) sc_m_sail.nd rfl (Or.inl rfl) (pe_mtS q_m_waiting hr (by decide) (pasX (takes_of rfl rfl rfl rfl)) (pv 0) (pa_cons (pv 3) pa_nil)))
  (pss_cons (ps_if (PW.pt (pw_and (pt_cmpR (op_inP hr.units) (pv 1) (pv 4) (by first | exact nomark _ | rfl | with_unfolding_all rfl)) (pw_and1 (pt_cmpR (op_neP hr.units) (pe_ix ix_seq (pv 4) pe_int (fun _ _ => rfl)) (pv 1) (nomark _))))) (pss_one (ps_rz rfl (takes_of rfl rfl rfl rfl) (pmk_own PySem.F.excBase_ValueError T.x_ns T.g_ns T.k_ns (raises_own T.s_ns T.t_ns) (by exact rfl)))) pss_nil)
  (pss_cons (ps_set (i := 5) sc_m_sail.nd rfl (Or.inl rfl) pe_int)
  (pss_cons (ps_set (i := 6) sc_m_sail.nd rfl (Or.inl rfl) (pv 2))
  (pss_cons (ps_if (pt_cmpR (op_eqP hr.units) (pv 3) pe_str (nomark _)) (pss_cons (ps_set (i := 5) sc_m_sail.nd rfl (Or.inl rfl) (pe_un un_neg' pe_int))
  (pss_one (ps_set (i := 6) sc_m_sail.nd rfl (Or.inl rfl) (pe_op op_sub (pv 2) pe_int)))) pss_nil)
  (pss_cons (ps_if (pt_not (pt_val (pe_mtS q_m_is_level hr (by decide) (pasX (takes_of rfl rfl rfl rfl)) (pv 0) (pa_cons (pv 6) pa_nil)))) (pss_one (ps_rz rfl (takes_of rfl rfl rfl rfl) (pmk_own PySem.F.excBase_ValueError T.x_sh T.g_sh T.k_sh (raises_own T.s_sh T.t_sh) (by exact rfl)))) pss_nil)
  (pss_cons (ps_set (i := 7) sc_m_sail.nd rfl (Or.inl rfl) (pe_op op_plus (pv 2) (pv 5)))
  (pss_cons (ps_if (PW.pt (pw_and (pt_chain op_lt op_lt pe_int (pv 7) (pe_mtS0 q_m_top hr (by decide) (pasX (takes_of rfl rfl rfl rfl)) (pv 0))) (pw_and1 (pt_cmpR op_notN' (pe_ix ix_seq (pe_mtS0 q_m_boats hr (by decide) (pasX (takes_of rfl rfl rfl rfl)) (pv 0)) (pe_op op_sub (pv 7) pe_int) (fun _ _ => rfl)) pe_non (nomark _))))) (pss_one (ps_rz rfl (takes_of rfl rfl rfl rfl) (pmk_own PySem.F.excBase_ValueError T.x_oc T.g_oc T.k_oc (raises_own T.s_oc T.t_oc) (by exact rfl)))) pss_nil)
  (pss_cons (ps_dput (hu_of hr) (pe_fld (pv 0) rfl) (pv 1) (pv 7) rfl)
  (pss_cons (ps_if (PW.pt (pw_or (pt_cmpR (op_eqP hr.units) (pv 7) pe_int (nomark _)) (pw_or1 (pt_cmpR (op_eqP hr.units) (pv 7) (pe_mtS0 q_m_top hr (by decide) (pasX (takes_of rfl rfl rfl rfl)) (pv 0)) (nomark _))))) (pss_cons (ps_expr (pe_dpop1 (pe_fld (pv 0) rfl) (pv 1) m1_of))
  (pss_one (ps_expr (pe_bm PySem.F.plainAttrs_list PySem.F.slot_list_append PySem.F.type_list_append mt_append (pe_fld (pv 0) rfl) (pa_cons (pv 1) pa_nil))))) pss_nil)
  (pss_one (ps_ret (pv 7)))))))))))))))
theorem ok_read_order {f : Addr} {fd : FuncData} (F : Fun K "read_order" "read_order" st_read_order f fd) (T : Tx K mg A)  : FnOk P w K mg base (L2.CX P w) 2 f fd ["text"] (spD K (Φ_read_order A)) :=
  cl_of (t_read_order K A) F sc_read_order (by intro ds R N M h; first | (obtain ⟨rfl, _⟩ := h; rfl) | (obtain ⟨_, rfl, _⟩ := h; rfl) | (obtain ⟨_, _, rfl, _⟩ := h; rfl) | (obtain ⟨_, _, _, rfl, _⟩ := h; rfl) | (obtain ⟨_, _, _, _, rfl, _⟩ := h; rfl) | (obtain ⟨_, _, _, _, _, rfl, _⟩ := h; rfl) | (obtain ⟨_, _, _, _, _, _, rfl, _⟩ := h; rfl) | (obtain ⟨_, _, _, _, _, _, _, rfl, _⟩ := h; rfl) | (obtain ⟨_, _, _, _, _, _, _, _, rfl, _⟩ := h; rfl) | (obtain ⟨_, _, _, _, _, _, _, _, _, rfl, _⟩ := h; rfl)) s_read_order fun cdv Ar outer s H E hr =>
  (pss_cons (ps_if (pt_cmpR op_gt (pe_callB call_len (by rfl) T.b_len (by decide +kernel) (pa_cons (pv 0) pa_nil)) (pe_gcn (by rfl) T.c_MOST_BOATS) (nomark _)) (pss_one (ps_rz rfl (takes_of rfl rfl rfl rfl) (pmk_own PySem.F.excBase_ValueError T.x_bt T.g_bt T.k_bt (raises_own T.s_bt T.t_bt) (by exact rfl)))) pss_nil)
  (pss_cons (ps_set (i := 1) sc_read_order.nd rfl (Or.inl rfl) (pe_lst pa_nil))
  (pss_cons (ps_for (passes_of rfl) rfl (pi_str (pv 0)) (pg_name (i := 2) sc_read_order.nd rfl (Or.inl rfl)) (pss_one (ps_if (pt_cmpR (op_eqP hr.units) (pv 2) pe_str (nomark _)) (pss_one (ps_expr (pe_bm PySem.F.plainAttrs_list PySem.F.slot_list_append PySem.F.type_list_append mt_append (pv 1) (pa_cons pe_str pa_nil)))) (pss_one (ps_if (pt_cmpR (op_eqP hr.units) (pv 2) pe_str (nomark _)) (pss_one (ps_expr (pe_bm PySem.F.plainAttrs_list PySem.F.slot_list_append PySem.F.type_list_append mt_append (pv 1) (pa_cons pe_str pa_nil)))) (pss_one (ps_rz rfl (takes_of rfl rfl rfl rfl) (pmk_own PySem.F.excBase_ValueError T.x_bt T.g_bt T.k_bt (raises_own T.s_bt T.t_bt) (by exact rfl)))))))))
  (pss_one (ps_ret (pv 1))))))
theorem ok_law_cell_at {f : Addr} {fd : FuncData} (F : Fun K "_law_cell_at" "_law_cell_at" st_law_cell_at f fd) (T : Tx K mg A)  : FnOk P w K mg base (L2.CX P w) 2 f fd ["script", "k"] (spD K (Φ_law_cell_at A)) :=
  cl_of (t_law_cell_at K A) F sc_law_cell_at (by intro ds R N M h; first | (obtain ⟨rfl, _⟩ := h; rfl) | (obtain ⟨_, rfl, _⟩ := h; rfl) | (obtain ⟨_, _, rfl, _⟩ := h; rfl) | (obtain ⟨_, _, _, rfl, _⟩ := h; rfl) | (obtain ⟨_, _, _, _, rfl, _⟩ := h; rfl) | (obtain ⟨_, _, _, _, _, rfl, _⟩ := h; rfl) | (obtain ⟨_, _, _, _, _, _, rfl, _⟩ := h; rfl) | (obtain ⟨_, _, _, _, _, _, _, rfl, _⟩ := h; rfl) | (obtain ⟨_, _, _, _, _, _, _, _, rfl, _⟩ := h; rfl) | (obtain ⟨_, _, _, _, _, _, _, _, _, rfl, _⟩ := h; rfl)) s_law_cell_at fun cdv Ar outer s H E hr =>
  (pss_cons (ps_if (pt_cmpR op_lt (pv 1) (pe_callB call_len (by rfl) T.b_len (by decide +kernel) (pa_cons (pv 0) pa_nil)) (nomark _)) (pss_one (ps_ret (pe_ix ix_seq (pv 0) (pv 1) (fun _ _ => rfl)))) pss_nil)
  (pss_one (ps_ret pe_int)))
theorem ok_law_boats {f : Addr} {fd : FuncData} (F : Fun K "_law_boats" "_law_boats" st_law_boats f fd) (T : Tx K mg A) (q_m_init : Mc P w K mg base 3 "Flight" A.C ["self", "levels"] (spD K (Φ_m_init A))) (q_m_come : Mt P w K mg base 3 A.C "come" ["self", "side"] (spD K (Φ_m_come A))) : FnOk P w K mg base (L2.CX P w) 5 f fd ["levels"] (spD K (Φ_law_boats A)) :=
  cl_of (t_law_boats K A) F sc_law_boats (by intro ds R N M h; first | (obtain ⟨rfl, _⟩ := h; rfl) | (obtain ⟨_, rfl, _⟩ := h; rfl) | (obtain ⟨_, _, rfl, _⟩ := h; rfl) | (obtain ⟨_, _, _, rfl, _⟩ := h; rfl) | (obtain ⟨_, _, _, _, rfl, _⟩ := h; rfl) | (obtain ⟨_, _, _, _, _, rfl, _⟩ := h; rfl) | (obtain ⟨_, _, _, _, _, _, rfl, _⟩ := h; rfl) | (obtain ⟨_, _, _, _, _, _, _, rfl, _⟩ := h; rfl) | (obtain ⟨_, _, _, _, _, _, _, _, rfl, _⟩ := h; rfl) | (obtain ⟨_, _, _, _, _, _, _, _, _, rfl, _⟩ := h; rfl)) s_law_boats fun cdv Ar outer s H E hr =>
  (pss_cons (ps_set (i := 1) sc_law_boats.nd rfl (Or.inl rfl) (pe_mkS q_m_init hr (by decide) (by rfl) (pasX (takes_of rfl rfl rfl rfl)) (pa_cons (pv 0) pa_nil)))
  (pss_cons (ps_expr (pe_mtS q_m_come hr (by decide) (pasX (takes_of rfl rfl rfl rfl)) (pv 1) (pa_cons pe_str pa_nil)))
  (pss_cons (ps_expr (pe_mtS q_m_come hr (by decide) (pasX (takes_of rfl rfl rfl rfl)) (pv 1) (pa_cons pe_str pa_nil)))
  (pss_one (ps_ret (pv 1))))))
theorem ok_law_refuses {f : Addr} {fd : FuncData} (F : Fun K "_law_refuses" "_law_refuses" st_law_refuses f fd) (T : Tx K mg A) (q_m_init : Mc P w K mg base 3 "Flight" A.C ["self", "levels"] (spD K (Φ_m_init A))) (q_m_let : Mt P w K mg base 2 A.C "let" ["self", "gate"] (spD K (Φ_m_let A))) (q_law_boats : Cl P w K mg base 5 "_law_boats" ["levels"] (spD K (Φ_law_boats A))) (q_m_sail : Mt P w K mg base 4 A.C "sail" ["self", "boat"] (spD K (Φ_m_sail A))) (q_read_order : Cl P w K mg base 2 "read_order" ["text"] (spD K (Φ_read_order A))) : FnOk P w K mg base (L2.CX P w) 6 f fd ["which", "cell"] (spD K (Φ_law_refuses A)) :=
  cl_of (t_law_refuses K A) F sc_law_refuses (by intro ds R N M h; first | (obtain ⟨rfl, _⟩ := h; rfl) | (obtain ⟨_, rfl, _⟩ := h; rfl) | (obtain ⟨_, _, rfl, _⟩ := h; rfl) | (obtain ⟨_, _, _, rfl, _⟩ := h; rfl) | (obtain ⟨_, _, _, _, rfl, _⟩ := h; rfl) | (obtain ⟨_, _, _, _, _, rfl, _⟩ := h; rfl) | (obtain ⟨_, _, _, _, _, _, rfl, _⟩ := h; rfl) | (obtain ⟨_, _, _, _, _, _, _, rfl, _⟩ := h; rfl) | (obtain ⟨_, _, _, _, _, _, _, _, rfl, _⟩ := h; rfl) | (obtain ⟨_, _, _, _, _, _, _, _, _, rfl, _⟩ := h; rfl)) s_law_refuses fun cdv Ar outer s H E hr =>
  (pss_cons (ps_if (pt_cmpR (op_eqP hr.units) (pv 0) pe_int (nomark _)) (pss_one (ps_expr (pe_mkS q_m_init hr (by decide) (by rfl) (pasX (takes_of rfl rfl rfl rfl)) (pa_cons (pe_lc (own := [("k", 3)]) (g := gName 3) rfl sc_law_refuses.nd (pi_range1 (by rfl) T.b_range (pa_cons (pe_op op_plus pe_int (pe_op op_mod (pv 1) pe_int)) pa_nil)) (blkOk_by (own := [("k", 3)]) (N := N_law_refuses) (sc := defScope st_law_refuses) (by decide +kernel)) (fun _ _ _ _ _ => pg_name (i := 3) sc_law_refuses.nd rfl (Or.inl rfl)) (fun _ _ _ _ _ => pts_nil) (fun _ _ _ _ _ => pe_bl)) pa_nil)))) pss_nil)
  (pss_cons (ps_if (pt_cmpR (op_eqP hr.units) (pv 0) pe_int (nomark _)) (pss_one (ps_expr (pe_mtS q_m_let hr (by decide) (pasX (takes_of rfl rfl rfl rfl)) (pe_mkS q_m_init hr (by decide) (by rfl) (pasX (takes_of rfl rfl rfl rfl)) (pa_cons (pe_lst (pa_cons pe_bl (pa_cons pe_bl pa_nil))) pa_nil)) (pa_cons (pe_op op_plus pe_int (pv 1)) pa_nil)))) pss_nil)
  (pss_cons (ps_if (pt_cmpR (op_eqP hr.units) (pv 0) pe_int (nomark _)) (pss_one (ps_expr (pe_mtS q_m_let hr (by decide) (pasX (takes_of rfl rfl rfl rfl)) (pe_mkS q_m_init hr (by decide) (by rfl) (pasX (takes_of rfl rfl rfl rfl)) (pa_cons (pe_lst (pa_cons pe_bl (pa_cons pe_bl pa_nil))) pa_nil)) (pa_cons pe_int pa_nil)))) pss_nil)
  (pss_cons (ps_if (pt_cmpR (op_eqP hr.units) (pv 0) pe_int (nomark _)) (pss_one (ps_expr (pe_mtS q_m_sail hr (by decide) (pasX (takes_of rfl rfl rfl rfl)) (pe_cl q_law_boats hr (by decide) (by rfl) (pasX (takes_of rfl rfl rfl rfl)) (pa_cons (pe_lst (pa_cons pe_bl pa_nil)) pa_nil)) (pa_cons (pe_op op_plus pe_int (pv 1)) pa_nil)))) pss_nil)
  (pss_cons (ps_if (pt_cmpR (op_eqP hr.units) (pv 0) pe_int (nomark _)) (pss_one (ps_expr (pe_mtS q_m_sail hr (by decide) (pasX (takes_of rfl rfl rfl rfl)) (pe_cl q_law_boats hr (by decide) (by rfl) (pasX (takes_of rfl rfl rfl rfl)) (pa_cons (pe_lst (pa_cons pe_bl pa_nil)) pa_nil)) (pa_cons pe_int pa_nil)))) pss_nil)
  (pss_cons (ps_if (pt_cmpR (op_eqP hr.units) (pv 0) pe_int (nomark _)) (pss_one (ps_expr (pe_mtS q_m_sail hr (by decide) (pasX (takes_of rfl rfl rfl rfl)) (pe_cl q_law_boats hr (by decide) (by rfl) (pasX (takes_of rfl rfl rfl rfl)) (pa_cons (pe_lst (pa_cons pe_bl pa_nil)) pa_nil)) (pa_cons pe_int pa_nil)))) pss_nil)
  (pss_cons (ps_if (pt_cmpR (op_eqP hr.units) (pv 0) pe_int (nomark _)) (pss_cons (ps_set (i := 2) sc_law_refuses.nd rfl (Or.inl rfl) (pe_cl q_law_boats hr (by decide) (by rfl) (pasX (takes_of rfl rfl rfl rfl)) (pa_cons (pe_lst (pa_cons pe_bl (pa_cons pe_bl pa_nil))) pa_nil)))
  (pss_cons (ps_expr (pe_mtS q_m_sail hr (by decide) (pasX (takes_of rfl rfl rfl rfl)) (pv 2) (pa_cons pe_int pa_nil)))
  (pss_one (ps_expr (pe_mtS q_m_sail hr (by decide) (pasX (takes_of rfl rfl rfl rfl)) (pv 2) (pa_cons pe_int pa_nil)))))) pss_nil)
  (pss_one (ps_if (pt_cmpR (op_eqP hr.units) (pv 0) pe_int (nomark _)) (pss_one (ps_expr (pe_cl q_read_order hr (by decide) (by rfl) (pasX (takes_of rfl rfl rfl rfl)) (pa_cons (pe_op op_repS pe_str (pe_op op_plus pe_int (pe_op op_mod (pv 1) pe_int))) pa_nil)))) pss_nil)))))))))
theorem ok_law_classes {f : Addr} {fd : FuncData} (F : Fun K "_law_classes" "_law_classes" st_law_classes f fd) (T : Tx K mg A) {a0 D0 : Addr} (eD : ExcC K D0) : FnP P w K mg base 2 f fd ["e"] (Zp a0 D0) (spD K (Φ_law_classes K A a0 D0)) :=
  clP_of (k := 1) (t_law_classes a0 D0 K A) F sc_law_classes (by intro ds R N M h; first | (obtain ⟨rfl, _⟩ := h; rfl) | (obtain ⟨_, rfl, _⟩ := h; rfl) | (obtain ⟨_, _, rfl, _⟩ := h; rfl) | (obtain ⟨_, _, _, rfl, _⟩ := h; rfl) | (obtain ⟨_, _, _, _, rfl, _⟩ := h; rfl) | (obtain ⟨_, _, _, _, _, rfl, _⟩ := h; rfl) | (obtain ⟨_, _, _, _, _, _, rfl, _⟩ := h; rfl) | (obtain ⟨_, _, _, _, _, _, _, rfl, _⟩ := h; rfl) | (obtain ⟨_, _, _, _, _, _, _, _, rfl, _⟩ := h; rfl) | (obtain ⟨_, _, _, _, _, _, _, _, _, rfl, _⟩ := h; rfl)) s_law_classes fun cdv Ar outer s H E oD hzD hfD =>
  (pss_cons (ps_set (i := 1) sc_law_classes.nd rfl (Or.inl rfl) (pe_lst (pa_cons (pe_callB (call_isP List.mem_cons_self eD hzD hfD) (by rfl) T.b_isinstance (by decide +kernel) (pa_cons (pv 0) (pa_cons (pe_glob (v := .ref A.bf) (by rfl) T.g_bf rfl) pa_nil))) (pa_cons (pe_callB (call_isP List.mem_cons_self eD hzD hfD) (by rfl) T.b_isinstance (by decide +kernel) (pa_cons (pv 0) (pa_cons (pe_glob (v := .ref A.ng) (by rfl) T.g_ng rfl) pa_nil))) (pa_cons (pe_callB (call_isP List.mem_cons_self eD hzD hfD) (by rfl) T.b_isinstance (by decide +kernel) (pa_cons (pv 0) (pa_cons (pe_glob (v := .ref A.nf) (by rfl) T.g_nf rfl) pa_nil))) (pa_cons (pe_callB (call_isP List.mem_cons_self eD hzD hfD) (by rfl) T.b_isinstance (by decide +kernel) (pa_cons (pv 0) (pa_cons (pe_glob (v := .ref A.nb) (by rfl) T.g_nb rfl) pa_nil))) pa_nil))))))
  (pss_one (ps_ret (pe_op op_plus (pv 1) (pe_lst (pa_cons (pe_callB (call_isP List.mem_cons_self eD hzD hfD) (by rfl) T.b_isinstance (by decide +kernel) (pa_cons (pv 0) (pa_cons (pe_glob (v := .ref A.ns) (by rfl) T.g_ns rfl) pa_nil))) (pa_cons (pe_callB (call_isP List.mem_cons_self eD hzD hfD) (by rfl) T.b_isinstance (by decide +kernel) (pa_cons (pv 0) (pa_cons (pe_glob (v := .ref A.sh) (by rfl) T.g_sh rfl) pa_nil))) (pa_cons (pe_callB (call_isP List.mem_cons_self eD hzD hfD) (by rfl) T.b_isinstance (by decide +kernel) (pa_cons (pv 0) (pa_cons (pe_glob (v := .ref A.oc) (by rfl) T.g_oc rfl) pa_nil))) (pa_cons (pe_callB (call_isP List.mem_cons_self eD hzD hfD) (by rfl) T.b_isinstance (by decide +kernel) (pa_cons (pv 0) (pa_cons (pe_glob (v := .ref A.bt) (by rfl) T.g_bt rfl) pa_nil))) pa_nil)))))))))
theorem ok_law_caught {f : Addr} {fd : FuncData} (F : Fun K "_law_caught" "_law_caught" st_law_caught f fd) (T : Tx K mg A) (q_law_refuses : Cl P w K mg base 6 "_law_refuses" ["which", "cell"] (spD K (Φ_law_refuses A))) (q_law_classes : ∀ a0 D0 : Addr, ExcC K D0 → ClP P w K mg base 2 "_law_classes" ["e"] (Zp a0 D0) (spD K (Φ_law_classes K A a0 D0))) : FnOk P w K mg base (L2.CX P w) 7 f fd ["which", "cell"] (spD K (Φ_law_caught A)) :=
  cl_of (t_law_caught K A) F sc_law_caught (by intro ds R N M h; first | (obtain ⟨rfl, _⟩ := h; rfl) | (obtain ⟨_, rfl, _⟩ := h; rfl) | (obtain ⟨_, _, rfl, _⟩ := h; rfl) | (obtain ⟨_, _, _, rfl, _⟩ := h; rfl) | (obtain ⟨_, _, _, _, rfl, _⟩ := h; rfl) | (obtain ⟨_, _, _, _, _, rfl, _⟩ := h; rfl) | (obtain ⟨_, _, _, _, _, _, rfl, _⟩ := h; rfl) | (obtain ⟨_, _, _, _, _, _, _, rfl, _⟩ := h; rfl) | (obtain ⟨_, _, _, _, _, _, _, _, rfl, _⟩ := h; rfl) | (obtain ⟨_, _, _, _, _, _, _, _, _, rfl, _⟩ := h; rfl)) (s_law_caught T.i_bf_bf T.i_bf_ng T.i_bf_nf T.i_bf_nb T.i_bf_ns T.i_bf_sh T.i_bf_oc T.i_bf_bt T.i_ng_bf T.i_ng_ng T.i_ng_nf T.i_ng_nb T.i_ng_ns T.i_ng_sh T.i_ng_oc T.i_ng_bt T.i_nf_bf T.i_nf_ng T.i_nf_nf T.i_nf_nb T.i_nf_ns T.i_nf_sh T.i_nf_oc T.i_nf_bt T.i_nb_bf T.i_nb_ng T.i_nb_nf T.i_nb_nb T.i_nb_ns T.i_nb_sh T.i_nb_oc T.i_nb_bt T.i_ns_bf T.i_ns_ng T.i_ns_nf T.i_ns_nb T.i_ns_ns T.i_ns_sh T.i_ns_oc T.i_ns_bt T.i_sh_bf T.i_sh_ng T.i_sh_nf T.i_sh_nb T.i_sh_ns T.i_sh_sh T.i_sh_oc T.i_sh_bt T.i_oc_bf T.i_oc_ng T.i_oc_nf T.i_oc_nb T.i_oc_ns T.i_oc_sh T.i_oc_oc T.i_oc_bt T.i_bt_bf T.i_bt_ng T.i_bt_nf T.i_bt_nb T.i_bt_ns T.i_bt_sh T.i_bt_oc T.i_bt_bt T.i_bf_ValueError T.i_ng_ValueError T.i_nf_ValueError T.i_nb_ValueError T.i_ns_ValueError T.i_sh_ValueError T.i_oc_ValueError T.i_bt_ValueError T.m_bf_le T.m_ng_le T.m_nf_le T.m_nb_le T.m_ns_le T.m_sh_le T.m_oc_le T.m_bt_le T.e_bf T.e_ng T.e_nf T.e_nb T.e_ns T.e_sh T.e_oc T.e_bt) fun cdv Ar outer s H E hr =>
  (pss_cons (ps_set (i := 2) sc_law_caught.nd rfl (Or.inl rfl) (pe_lst pa_nil))
  (pss_cons (ps_set (i := 3) sc_law_caught.nd rfl (Or.inl rfl) pe_bl)
  (pss_cons (ps_try_as (i := 4) (tb := fun W => (tDrop (tCallS (spD K (Φ_law_refuses A)) (WE W) (tCons (tVar 0) (tCons (tVar 1) tNil))))) (ts := (fun aE cE xE => tG ((∃ C, cE = .ref C ∧ ExcC K C) ∧ xE = none) (tSeq (tAsg (tCallS (spD K (Φ_law_classes K A aE (dOf cE))) (fun _ => E0) (tCons (tVar 4) tNil)) (gName 2))
  (tAsg (tCB (rIsE K (dOf cE) aE) (tCons (tVar 4) (tCons (tC (.ty "ValueError")) tNil))) (gName 3))))) (Wout := (fun cls d _ H => E cls d H)) rfl rfl sc_law_caught.nd rfl rfl ⟨by rfl, by decide, Or.inl T.g_le⟩ (takes_of rfl rfl rfl rfl)
    (fun W pn xe0 tk xe => (pss_one (ps_expr (pe_cl q_law_refuses hr (by decide) (by rfl) (pasT tk) (pa_cons (pv 0) (pa_cons (pv 1) pa_nil))))))
    (fun aE oE cE xE pnE hzE0 hfE => pss_g fun hpE => (fun hzE hcE => (pss_cons (ps_set (i := 2) sc_law_caught.nd rfl (Or.inl rfl) (pe_clP (q_law_classes aE _ hcE) List.mem_cons_self ⟨rfl, hzE, hfE⟩ (roomM (hr.mono (by decide))) (by rfl) pasN (pa_cons (pv 4) pa_nil)))
  (pss_one (ps_set (i := 3) sc_law_caught.nd rfl (Or.inl rfl) (pe_callB (call_isE hcE hzE hfE) (by rfl) T.b_isinstance (by decide +kernel) (pa_cons (pv 4) (pa_cons (pe_bltn (v := .ty "ValueError") (by rfl) T.b_ValueError (by decide +kernel) rfl) pa_nil))))))) (zc_of2 hpE hzE0) (ec_of2 hpE)))
  (pss_one (ps_ret (pe_and (pv 3) (pe_one (pe_cmpR (op_eqP hr.units) (pv 2) (pe_lc (own := [("k", 5)]) (g := gName 5) rfl sc_law_caught.nd (pi_range1 (by rfl) T.b_range (pa_cons pe_int pa_nil)) (blkOk_by (own := [("k", 5)]) (N := N_law_caught) (sc := defScope st_law_caught) (by decide +kernel)) (fun _ _ _ _ _ => pg_name (i := 5) sc_law_caught.nd rfl (Or.inl rfl)) (fun _ _ _ _ _ => pts_nil) (fun _ _ _ _ _ => (pe_cmpR (op_eqP hr.units) (pv 5) (pv 0) (nomark _)))) (nomark _)))))))))
theorem ok_law {f : Addr} {fd : FuncData} (F : Fun K "law" "law" st_law f fd) (T : Tx K mg A) (q_law_cell_at : Cl P w K mg base 2 "_law_cell_at" ["script", "k"] (spD K (Φ_law_cell_at A))) (q_law_caught : Cl P w K mg base 7 "_law_caught" ["which", "cell"] (spD K (Φ_law_caught A))) : FnOk P w K mg base (L2.CX P w) 8 f fd ["script"] (spD K (Φ_law A)) :=
  cl_of (t_law K A) F sc_law (by intro ds R N M h; first | (obtain ⟨rfl, _⟩ := h; rfl) | (obtain ⟨_, rfl, _⟩ := h; rfl) | (obtain ⟨_, _, rfl, _⟩ := h; rfl) | (obtain ⟨_, _, _, rfl, _⟩ := h; rfl) | (obtain ⟨_, _, _, _, rfl, _⟩ := h; rfl) | (obtain ⟨_, _, _, _, _, rfl, _⟩ := h; rfl) | (obtain ⟨_, _, _, _, _, _, rfl, _⟩ := h; rfl) | (obtain ⟨_, _, _, _, _, _, _, rfl, _⟩ := h; rfl) | (obtain ⟨_, _, _, _, _, _, _, _, rfl, _⟩ := h; rfl) | (obtain ⟨_, _, _, _, _, _, _, _, _, rfl, _⟩ := h; rfl)) s_law fun cdv Ar outer s H E hr =>
  (pss_cons (ps_set (i := 1) sc_law.nd rfl (Or.inl rfl) (pe_op op_mod (pe_cl q_law_cell_at hr (by decide) (by rfl) (pasX (takes_of rfl rfl rfl rfl)) (pa_cons (pv 0) (pa_cons pe_int pa_nil))) pe_int))
  (pss_cons (ps_for (passes_of rfl) rfl (pi_range1 (by rfl) T.b_range (pa_cons pe_int pa_nil)) (pg_name (i := 2) sc_law.nd rfl (Or.inl rfl)) (pss_one (ps_if (pt_not (pt_val (pe_cl q_law_caught hr (by decide) (by rfl) (pasX (takes_of rfl rfl rfl rfl)) (pa_cons (pe_op op_mod (pe_op op_plus (pe_cl q_law_cell_at hr (by decide) (by rfl) (pasX (takes_of rfl rfl rfl rfl)) (pa_cons (pv 0) (pa_cons pe_int pa_nil))) (pv 2)) pe_int) (pa_cons (pv 1) pa_nil))))) (pss_one (ps_ret pe_bl)) pss_nil)))
  (pss_one (ps_ret pe_bl))))
end
theorem all_mk {l : PySem.W.OpenLaw} {w : World} {K : PySem.W.Frag} {h : Heap} {mg : Str → Option Value} {fa : Addr} (X : K.In h) (G : h.Ns mainGlobals mg) (hfa : mg "law" = some (.ref fa))
    {t_MOST_CHAMBERS : Tok} {t_MOST_BOATS : Tok} {cC : Addr} {c_bf : Addr} {c_nb : Addr} {c_ng : Addr} {c_nf : Addr} {c_ns : Addr} {c_sh : Addr} {c_oc : Addr} {c_bt : Addr} {c_le : Addr}
    {f0 : Addr} {od0 an0 : Option Addr} {sl0 : Array (Option Value)} {oc0 kV0 dc0 pm0 cd0 ct0 : Value}
    {f1 : Addr} {od1 an1 : Option Addr} {sl1 : Array (Option Value)} {oc1 kV1 dc1 pm1 cd1 ct1 : Value}
    {f2 : Addr} {od2 an2 : Option Addr} {sl2 : Array (Option Value)} {oc2 kV2 dc2 pm2 cd2 ct2 : Value}
    {f3 : Addr} {od3 an3 : Option Addr} {sl3 : Array (Option Value)} {oc3 kV3 dc3 pm3 cd3 ct3 : Value}
    {f4 : Addr} {od4 an4 : Option Addr} {sl4 : Array (Option Value)} {oc4 kV4 dc4 pm4 cd4 ct4 : Value}
    {f5 : Addr} {od5 an5 : Option Addr} {sl5 : Array (Option Value)} {oc5 kV5 dc5 pm5 cd5 ct5 : Value}
    {f6 : Addr} {od6 an6 : Option Addr} {sl6 : Array (Option Value)} {oc6 kV6 dc6 pm6 cd6 ct6 : Value}
    {f7 : Addr} {od7 an7 : Option Addr} {sl7 : Array (Option Value)} {oc7 kV7 dc7 pm7 cd7 ct7 : Value}
    {f8 : Addr} {od8 an8 : Option Addr} {sl8 : Array (Option Value)} {oc8 kV8 dc8 pm8 cd8 ct8 : Value}
    {f9 : Addr} {od9 an9 : Option Addr} {sl9 : Array (Option Value)} {oc9 kV9 dc9 pm9 cd9 ct9 : Value}
    {f10 : Addr} {od10 an10 : Option Addr} {sl10 : Array (Option Value)} {oc10 kV10 dc10 pm10 cd10 ct10 : Value}
    {f11 : Addr} {od11 an11 : Option Addr} {sl11 : Array (Option Value)} {oc11 kV11 dc11 pm11 cd11 ct11 : Value}
    {f12 : Addr} {od12 an12 : Option Addr} {sl12 : Array (Option Value)} {oc12 kV12 dc12 pm12 cd12 ct12 : Value}
    {f13 : Addr} {od13 an13 : Option Addr} {sl13 : Array (Option Value)} {oc13 kV13 dc13 pm13 cd13 ct13 : Value}
    {f14 : Addr} {od14 an14 : Option Addr} {sl14 : Array (Option Value)} {oc14 kV14 dc14 pm14 cd14 ct14 : Value}
    {f15 : Addr} {od15 an15 : Option Addr} {sl15 : Array (Option Value)} {oc15 kV15 dc15 pm15 cd15 ct15 : Value}
    {f16 : Addr} {od16 an16 : Option Addr} {sl16 : Array (Option Value)} {oc16 kV16 dc16 pm16 cd16 ct16 : Value}
    (x_aC : PySem.W.nsIn K mainGlobals "Flight" = some (some (.ref cC)))
    (x_b_len : PySem.W.nsIn K mainGlobals "len" = some none)
    (x_c_MOST_CHAMBERS : PySem.W.nsIn K mainGlobals "MOST_CHAMBERS" = some (some (.int 8 t_MOST_CHAMBERS)))
    (x_g_bf : PySem.W.nsIn K mainGlobals "BadFlight" = some (some (.ref c_bf)))
    (x_x_bf : PySem.W.excIn K c_bf [.type "ValueError", .type "Exception", .type "BaseException", .type "object"] "ValueError.__new__" = true)
    (x_k_bf : PySem.W.keepIn K (.ref c_bf) = true)
    (x_s_bf : PySem.W.subIn K (.ref c_bf) (.type "BaseException") = some true)
    (x_t_bf : PySem.W.typeIn K (.ref c_bf) = some (.type "type"))
    (x_b_list : PySem.W.nsIn K mainGlobals "list" = some none)
    (x_b_sorted : PySem.W.nsIn K mainGlobals "sorted" = some none)
    (x_g_nb : PySem.W.nsIn K mainGlobals "NoBoat" = some (some (.ref c_nb)))
    (x_x_nb : PySem.W.excIn K c_nb [.type "ValueError", .type "Exception", .type "BaseException", .type "object"] "ValueError.__new__" = true)
    (x_k_nb : PySem.W.keepIn K (.ref c_nb) = true)
    (x_s_nb : PySem.W.subIn K (.ref c_nb) (.type "BaseException") = some true)
    (x_t_nb : PySem.W.typeIn K (.ref c_nb) = some (.type "type"))
    (x_g_ng : PySem.W.nsIn K mainGlobals "NoGate" = some (some (.ref c_ng)))
    (x_x_ng : PySem.W.excIn K c_ng [.type "ValueError", .type "Exception", .type "BaseException", .type "object"] "ValueError.__new__" = true)
    (x_k_ng : PySem.W.keepIn K (.ref c_ng) = true)
    (x_s_ng : PySem.W.subIn K (.ref c_ng) (.type "BaseException") = some true)
    (x_t_ng : PySem.W.typeIn K (.ref c_ng) = some (.type "type"))
    (x_g_nf : PySem.W.nsIn K mainGlobals "NoFall" = some (some (.ref c_nf)))
    (x_x_nf : PySem.W.excIn K c_nf [.type "ValueError", .type "Exception", .type "BaseException", .type "object"] "ValueError.__new__" = true)
    (x_k_nf : PySem.W.keepIn K (.ref c_nf) = true)
    (x_s_nf : PySem.W.subIn K (.ref c_nf) (.type "BaseException") = some true)
    (x_t_nf : PySem.W.typeIn K (.ref c_nf) = some (.type "type"))
    (x_g_ns : PySem.W.nsIn K mainGlobals "NotFirst" = some (some (.ref c_ns)))
    (x_x_ns : PySem.W.excIn K c_ns [.type "ValueError", .type "Exception", .type "BaseException", .type "object"] "ValueError.__new__" = true)
    (x_k_ns : PySem.W.keepIn K (.ref c_ns) = true)
    (x_s_ns : PySem.W.subIn K (.ref c_ns) (.type "BaseException") = some true)
    (x_t_ns : PySem.W.typeIn K (.ref c_ns) = some (.type "type"))
    (x_g_sh : PySem.W.nsIn K mainGlobals "Shut" = some (some (.ref c_sh)))
    (x_x_sh : PySem.W.excIn K c_sh [.type "ValueError", .type "Exception", .type "BaseException", .type "object"] "ValueError.__new__" = true)
    (x_k_sh : PySem.W.keepIn K (.ref c_sh) = true)
    (x_s_sh : PySem.W.subIn K (.ref c_sh) (.type "BaseException") = some true)
    (x_t_sh : PySem.W.typeIn K (.ref c_sh) = some (.type "type"))
    (x_g_oc : PySem.W.nsIn K mainGlobals "Occupied" = some (some (.ref c_oc)))
    (x_x_oc : PySem.W.excIn K c_oc [.type "ValueError", .type "Exception", .type "BaseException", .type "object"] "ValueError.__new__" = true)
    (x_k_oc : PySem.W.keepIn K (.ref c_oc) = true)
    (x_s_oc : PySem.W.subIn K (.ref c_oc) (.type "BaseException") = some true)
    (x_t_oc : PySem.W.typeIn K (.ref c_oc) = some (.type "type"))
    (x_c_MOST_BOATS : PySem.W.nsIn K mainGlobals "MOST_BOATS" = some (some (.int 40 t_MOST_BOATS)))
    (x_g_bt : PySem.W.nsIn K mainGlobals "BadText" = some (some (.ref c_bt)))
    (x_x_bt : PySem.W.excIn K c_bt [.type "ValueError", .type "Exception", .type "BaseException", .type "object"] "ValueError.__new__" = true)
    (x_k_bt : PySem.W.keepIn K (.ref c_bt) = true)
    (x_s_bt : PySem.W.subIn K (.ref c_bt) (.type "BaseException") = some true)
    (x_t_bt : PySem.W.typeIn K (.ref c_bt) = some (.type "type"))
    (x_b_range : PySem.W.nsIn K mainGlobals "range" = some none)
    (x_b_isinstance : PySem.W.nsIn K mainGlobals "isinstance" = some none)
    (x_g_le : PySem.W.nsIn K mainGlobals "LockError" = some (some (.ref c_le)))
    (x_b_ValueError : PySem.W.nsIn K mainGlobals "ValueError" = some none)
    (x_pg : PySem.W.plainGet K cC Str.empty = true)
    (x_hd : PySem.W.hasDictIn K cC = true)
    (x_po : PySem.W.plainOver K cC = true)
    (x_sa : PySem.W.findIn K (.ref cC) "__setattr__" = some (some (.builtin "object.__setattr__")))
    (x_n_high : PySem.W.findIn K (.ref cC) "high" = some none)
    (x_n_sides : PySem.W.findIn K (.ref cC) "sides" = some none)
    (x_n_places : PySem.W.findIn K (.ref cC) "places" = some none)
    (x_n_done : PySem.W.findIn K (.ref cC) "done" = some none)
    (x_n_taken : PySem.W.findIn K (.ref cC) "taken" = some none)
    (x_n_given : PySem.W.findIn K (.ref cC) "given" = some none)
    (x_m_bf_bf : PySem.W.subIn K (.ref c_bf) (.ref c_bf) = some true)
    (x_h_bf : PySem.W.hasDictIn K c_bf = true)
    (x_m_bf_ng : PySem.W.subIn K (.ref c_bf) (.ref c_ng) = some false)
    (x_h_ng : PySem.W.hasDictIn K c_ng = true)
    (x_m_bf_nf : PySem.W.subIn K (.ref c_bf) (.ref c_nf) = some false)
    (x_h_nf : PySem.W.hasDictIn K c_nf = true)
    (x_m_bf_nb : PySem.W.subIn K (.ref c_bf) (.ref c_nb) = some false)
    (x_h_nb : PySem.W.hasDictIn K c_nb = true)
    (x_m_bf_ns : PySem.W.subIn K (.ref c_bf) (.ref c_ns) = some false)
    (x_h_ns : PySem.W.hasDictIn K c_ns = true)
    (x_m_bf_sh : PySem.W.subIn K (.ref c_bf) (.ref c_sh) = some false)
    (x_h_sh : PySem.W.hasDictIn K c_sh = true)
    (x_m_bf_oc : PySem.W.subIn K (.ref c_bf) (.ref c_oc) = some false)
    (x_h_oc : PySem.W.hasDictIn K c_oc = true)
    (x_m_bf_bt : PySem.W.subIn K (.ref c_bf) (.ref c_bt) = some false)
    (x_h_bt : PySem.W.hasDictIn K c_bt = true)
    (x_m_ng_bf : PySem.W.subIn K (.ref c_ng) (.ref c_bf) = some false)
    (x_m_ng_ng : PySem.W.subIn K (.ref c_ng) (.ref c_ng) = some true)
    (x_m_ng_nf : PySem.W.subIn K (.ref c_ng) (.ref c_nf) = some false)
    (x_m_ng_nb : PySem.W.subIn K (.ref c_ng) (.ref c_nb) = some false)
    (x_m_ng_ns : PySem.W.subIn K (.ref c_ng) (.ref c_ns) = some false)
    (x_m_ng_sh : PySem.W.subIn K (.ref c_ng) (.ref c_sh) = some false)
    (x_m_ng_oc : PySem.W.subIn K (.ref c_ng) (.ref c_oc) = some false)
    (x_m_ng_bt : PySem.W.subIn K (.ref c_ng) (.ref c_bt) = some false)
    (x_m_nf_bf : PySem.W.subIn K (.ref c_nf) (.ref c_bf) = some false)
    (x_m_nf_nf : PySem.W.subIn K (.ref c_nf) (.ref c_nf) = some true)
    (x_m_nf_ng : PySem.W.subIn K (.ref c_nf) (.ref c_ng) = some false)
    (x_m_nf_nb : PySem.W.subIn K (.ref c_nf) (.ref c_nb) = some false)
    (x_m_nf_ns : PySem.W.subIn K (.ref c_nf) (.ref c_ns) = some false)
    (x_m_nf_sh : PySem.W.subIn K (.ref c_nf) (.ref c_sh) = some false)
    (x_m_nf_oc : PySem.W.subIn K (.ref c_nf) (.ref c_oc) = some false)
    (x_m_nf_bt : PySem.W.subIn K (.ref c_nf) (.ref c_bt) = some false)
    (x_m_nb_bf : PySem.W.subIn K (.ref c_nb) (.ref c_bf) = some false)
    (x_m_nb_nb : PySem.W.subIn K (.ref c_nb) (.ref c_nb) = some true)
    (x_m_nb_ng : PySem.W.subIn K (.ref c_nb) (.ref c_ng) = some false)
    (x_m_nb_nf : PySem.W.subIn K (.ref c_nb) (.ref c_nf) = some false)
    (x_m_nb_ns : PySem.W.subIn K (.ref c_nb) (.ref c_ns) = some false)
    (x_m_nb_sh : PySem.W.subIn K (.ref c_nb) (.ref c_sh) = some false)
    (x_m_nb_oc : PySem.W.subIn K (.ref c_nb) (.ref c_oc) = some false)
    (x_m_nb_bt : PySem.W.subIn K (.ref c_nb) (.ref c_bt) = some false)
    (x_m_ns_bf : PySem.W.subIn K (.ref c_ns) (.ref c_bf) = some false)
    (x_m_ns_ns : PySem.W.subIn K (.ref c_ns) (.ref c_ns) = some true)
    (x_m_ns_ng : PySem.W.subIn K (.ref c_ns) (.ref c_ng) = some false)
    (x_m_ns_nf : PySem.W.subIn K (.ref c_ns) (.ref c_nf) = some false)
    (x_m_ns_nb : PySem.W.subIn K (.ref c_ns) (.ref c_nb) = some false)
    (x_m_ns_sh : PySem.W.subIn K (.ref c_ns) (.ref c_sh) = some false)
    (x_m_ns_oc : PySem.W.subIn K (.ref c_ns) (.ref c_oc) = some false)
    (x_m_ns_bt : PySem.W.subIn K (.ref c_ns) (.ref c_bt) = some false)
    (x_m_sh_bf : PySem.W.subIn K (.ref c_sh) (.ref c_bf) = some false)
    (x_m_sh_sh : PySem.W.subIn K (.ref c_sh) (.ref c_sh) = some true)
    (x_m_sh_ng : PySem.W.subIn K (.ref c_sh) (.ref c_ng) = some false)
    (x_m_sh_nf : PySem.W.subIn K (.ref c_sh) (.ref c_nf) = some false)
    (x_m_sh_nb : PySem.W.subIn K (.ref c_sh) (.ref c_nb) = some false)
    (x_m_sh_ns : PySem.W.subIn K (.ref c_sh) (.ref c_ns) = some false)
    (x_m_sh_oc : PySem.W.subIn K (.ref c_sh) (.ref c_oc) = some false)
    (x_m_sh_bt : PySem.W.subIn K (.ref c_sh) (.ref c_bt) = some false)
    (x_m_oc_bf : PySem.W.subIn K (.ref c_oc) (.ref c_bf) = some false)
    (x_m_oc_oc : PySem.W.subIn K (.ref c_oc) (.ref c_oc) = some true)
    (x_m_oc_ng : PySem.W.subIn K (.ref c_oc) (.ref c_ng) = some false)
    (x_m_oc_nf : PySem.W.subIn K (.ref c_oc) (.ref c_nf) = some false)
    (x_m_oc_nb : PySem.W.subIn K (.ref c_oc) (.ref c_nb) = some false)
    (x_m_oc_ns : PySem.W.subIn K (.ref c_oc) (.ref c_ns) = some false)
    (x_m_oc_sh : PySem.W.subIn K (.ref c_oc) (.ref c_sh) = some false)
    (x_m_oc_bt : PySem.W.subIn K (.ref c_oc) (.ref c_bt) = some false)
    (x_m_bt_bf : PySem.W.subIn K (.ref c_bt) (.ref c_bf) = some false)
    (x_m_bt_bt : PySem.W.subIn K (.ref c_bt) (.ref c_bt) = some true)
    (x_m_bt_ng : PySem.W.subIn K (.ref c_bt) (.ref c_ng) = some false)
    (x_m_bt_nf : PySem.W.subIn K (.ref c_bt) (.ref c_nf) = some false)
    (x_m_bt_nb : PySem.W.subIn K (.ref c_bt) (.ref c_nb) = some false)
    (x_m_bt_ns : PySem.W.subIn K (.ref c_bt) (.ref c_ns) = some false)
    (x_m_bt_sh : PySem.W.subIn K (.ref c_bt) (.ref c_sh) = some false)
    (x_m_bt_oc : PySem.W.subIn K (.ref c_bt) (.ref c_oc) = some false)
    (x_i_bf_ValueError : PySem.W.subIn K (.ref c_bf) (.type "ValueError") = some true)
    (x_i_ng_ValueError : PySem.W.subIn K (.ref c_ng) (.type "ValueError") = some true)
    (x_i_nf_ValueError : PySem.W.subIn K (.ref c_nf) (.type "ValueError") = some true)
    (x_i_nb_ValueError : PySem.W.subIn K (.ref c_nb) (.type "ValueError") = some true)
    (x_i_ns_ValueError : PySem.W.subIn K (.ref c_ns) (.type "ValueError") = some true)
    (x_i_sh_ValueError : PySem.W.subIn K (.ref c_sh) (.type "ValueError") = some true)
    (x_i_oc_ValueError : PySem.W.subIn K (.ref c_oc) (.type "ValueError") = some true)
    (x_i_bt_ValueError : PySem.W.subIn K (.ref c_bt) (.type "ValueError") = some true)
    (x_m_bf_le : PySem.W.subIn K (.ref c_bf) (.ref c_le) = some true)
    (x_s_le : PySem.W.subIn K (.ref c_le) (.type "BaseException") = some true)
    (x_h_le : PySem.W.hasDictIn K c_le = true)
    (x_t_le : PySem.W.typeIn K (.ref c_le) = some (.type "type"))
    (x_m_ng_le : PySem.W.subIn K (.ref c_ng) (.ref c_le) = some true)
    (x_m_nf_le : PySem.W.subIn K (.ref c_nf) (.ref c_le) = some true)
    (x_m_nb_le : PySem.W.subIn K (.ref c_nb) (.ref c_le) = some true)
    (x_m_ns_le : PySem.W.subIn K (.ref c_ns) (.ref c_le) = some true)
    (x_m_sh_le : PySem.W.subIn K (.ref c_sh) (.ref c_le) = some true)
    (x_m_oc_le : PySem.W.subIn K (.ref c_oc) (.ref c_le) = some true)
    (x_m_bt_le : PySem.W.subIn K (.ref c_bt) (.ref c_le) = some true)
    (x_e0_bf : PySem.W.findIn K (.ref c_bf) "__getattribute__" = some (some (.builtin "BaseException.__getattribute__")))
    (x_e1_bf : PySem.W.findIn K (.ref c_bf) "__getattr__" = some none)
    (x_e4_bf : PySem.W.findIn K (.ref c_bf) "__class__" = some (some (.builtin "object.__class__")))
    (x_en : PySem.W.specialIn K (.builtin "object.__class__") "__get__" = some (some (.builtin "getset_descriptor.__get__")))
    (x_et : PySem.W.takesIn K (.builtin "object.__class__") = some true)
    (x_e7_bf : PySem.W.mroIn K c_bf (.type "object") = some true)
    (x_e0_ng : PySem.W.findIn K (.ref c_ng) "__getattribute__" = some (some (.builtin "BaseException.__getattribute__")))
    (x_e1_ng : PySem.W.findIn K (.ref c_ng) "__getattr__" = some none)
    (x_e4_ng : PySem.W.findIn K (.ref c_ng) "__class__" = some (some (.builtin "object.__class__")))
    (x_e7_ng : PySem.W.mroIn K c_ng (.type "object") = some true)
    (x_e0_nf : PySem.W.findIn K (.ref c_nf) "__getattribute__" = some (some (.builtin "BaseException.__getattribute__")))
    (x_e1_nf : PySem.W.findIn K (.ref c_nf) "__getattr__" = some none)
    (x_e4_nf : PySem.W.findIn K (.ref c_nf) "__class__" = some (some (.builtin "object.__class__")))
    (x_e7_nf : PySem.W.mroIn K c_nf (.type "object") = some true)
    (x_e0_nb : PySem.W.findIn K (.ref c_nb) "__getattribute__" = some (some (.builtin "BaseException.__getattribute__")))
    (x_e1_nb : PySem.W.findIn K (.ref c_nb) "__getattr__" = some none)
    (x_e4_nb : PySem.W.findIn K (.ref c_nb) "__class__" = some (some (.builtin "object.__class__")))
    (x_e7_nb : PySem.W.mroIn K c_nb (.type "object") = some true)
    (x_e0_ns : PySem.W.findIn K (.ref c_ns) "__getattribute__" = some (some (.builtin "BaseException.__getattribute__")))
    (x_e1_ns : PySem.W.findIn K (.ref c_ns) "__getattr__" = some none)
    (x_e4_ns : PySem.W.findIn K (.ref c_ns) "__class__" = some (some (.builtin "object.__class__")))
    (x_e7_ns : PySem.W.mroIn K c_ns (.type "object") = some true)
    (x_e0_sh : PySem.W.findIn K (.ref c_sh) "__getattribute__" = some (some (.builtin "BaseException.__getattribute__")))
    (x_e1_sh : PySem.W.findIn K (.ref c_sh) "__getattr__" = some none)
    (x_e4_sh : PySem.W.findIn K (.ref c_sh) "__class__" = some (some (.builtin "object.__class__")))
    (x_e7_sh : PySem.W.mroIn K c_sh (.type "object") = some true)
    (x_e0_oc : PySem.W.findIn K (.ref c_oc) "__getattribute__" = some (some (.builtin "BaseException.__getattribute__")))
    (x_e1_oc : PySem.W.findIn K (.ref c_oc) "__getattr__" = some none)
    (x_e4_oc : PySem.W.findIn K (.ref c_oc) "__class__" = some (some (.builtin "object.__class__")))
    (x_e7_oc : PySem.W.mroIn K c_oc (.type "object") = some true)
    (x_e0_bt : PySem.W.findIn K (.ref c_bt) "__getattribute__" = some (some (.builtin "BaseException.__getattribute__")))
    (x_e1_bt : PySem.W.findIn K (.ref c_bt) "__getattr__" = some none)
    (x_e4_bt : PySem.W.findIn K (.ref c_bt) "__class__" = some (some (.builtin "object.__class__")))
    (x_e7_bt : PySem.W.mroIn K c_bt (.type "object") = some true)
    (x_mk : PySem.W.makesIn K cC = true)
    (x_kc : PySem.W.keepIn K (.ref cC) = true)
    (a0 : PySem.W.nsIn K mainGlobals "ask_levels" = some (some (.ref f0)))
    (l0 : K.lookup f0 = some ⟨oc0, od0, .func (PySem.W.fnOf "ask_levels" "ask_levels" (defArgs st_ask_levels) (defBody st_ask_levels) (defScope st_ask_levels) .none kV0 dc0 pm0 an0 cd0 ct0), sl0⟩)
    (c0 : PySem.W.codeIn K cd0 "ask_levels" = true)
    (k0 : PySem.W.keepIn K (.ref f0) = true)
    (a1 : PySem.W.findIn K (.ref cC) "__init__" = some (some (.ref f1)))
    (i1 : PySem.W.isFn K (.ref f1) = true)
    (l1 : K.lookup f1 = some ⟨oc1, od1, .func (PySem.W.fnOf "__init__" "Flight.__init__" (defArgs st_m_init) (defBody st_m_init) (defScope st_m_init) .none kV1 dc1 pm1 an1 cd1 ct1), sl1⟩)
    (c1 : PySem.W.codeIn K cd1 "Flight.__init__" = true)
    (k1 : PySem.W.keepIn K (.ref f1) = true)
    (a2 : PySem.W.findIn K (.ref cC) "top" = some (some (.ref f2)))
    (i2 : PySem.W.isFn K (.ref f2) = true)
    (l2 : K.lookup f2 = some ⟨oc2, od2, .func (PySem.W.fnOf "top" "Flight.top" (defArgs st_m_top) (defBody st_m_top) (defScope st_m_top) .none kV2 dc2 pm2 an2 cd2 ct2), sl2⟩)
    (c2 : PySem.W.codeIn K cd2 "Flight.top" = true)
    (k2 : PySem.W.keepIn K (.ref f2) = true)
    (a3 : PySem.W.findIn K (.ref cC) "boats" = some (some (.ref f3)))
    (i3 : PySem.W.isFn K (.ref f3) = true)
    (l3 : K.lookup f3 = some ⟨oc3, od3, .func (PySem.W.fnOf "boats" "Flight.boats" (defArgs st_m_boats) (defBody st_m_boats) (defScope st_m_boats) .none kV3 dc3 pm3 an3 cd3 ct3), sl3⟩)
    (c3 : PySem.W.codeIn K cd3 "Flight.boats" = true)
    (k3 : PySem.W.keepIn K (.ref f3) = true)
    (a4 : PySem.W.findIn K (.ref cC) "waiting" = some (some (.ref f4)))
    (i4 : PySem.W.isFn K (.ref f4) = true)
    (l4 : K.lookup f4 = some ⟨oc4, od4, .func (PySem.W.fnOf "waiting" "Flight.waiting" (defArgs st_m_waiting) (defBody st_m_waiting) (defScope st_m_waiting) .none kV4 dc4 pm4 an4 cd4 ct4), sl4⟩)
    (c4 : PySem.W.codeIn K cd4 "Flight.waiting" = true)
    (k4 : PySem.W.keepIn K (.ref f4) = true)
    (a5 : PySem.W.findIn K (.ref cC) "place" = some (some (.ref f5)))
    (i5 : PySem.W.isFn K (.ref f5) = true)
    (l5 : K.lookup f5 = some ⟨oc5, od5, .func (PySem.W.fnOf "place" "Flight.place" (defArgs st_m_place) (defBody st_m_place) (defScope st_m_place) .none kV5 dc5 pm5 an5 cd5 ct5), sl5⟩)
    (c5 : PySem.W.codeIn K cd5 "Flight.place" = true)
    (k5 : PySem.W.keepIn K (.ref f5) = true)
    (a6 : PySem.W.findIn K (.ref cC) "come" = some (some (.ref f6)))
    (i6 : PySem.W.isFn K (.ref f6) = true)
    (l6 : K.lookup f6 = some ⟨oc6, od6, .func (PySem.W.fnOf "come" "Flight.come" (defArgs st_m_come) (defBody st_m_come) (defScope st_m_come) .none kV6 dc6 pm6 an6 cd6 ct6), sl6⟩)
    (c6 : PySem.W.codeIn K cd6 "Flight.come" = true)
    (k6 : PySem.W.keepIn K (.ref f6) = true)
    (a7 : PySem.W.findIn K (.ref cC) "let" = some (some (.ref f7)))
    (i7 : PySem.W.isFn K (.ref f7) = true)
    (l7 : K.lookup f7 = some ⟨oc7, od7, .func (PySem.W.fnOf "let" "Flight.let" (defArgs st_m_let) (defBody st_m_let) (defScope st_m_let) .none kV7 dc7 pm7 an7 cd7 ct7), sl7⟩)
    (c7 : PySem.W.codeIn K cd7 "Flight.let" = true)
    (k7 : PySem.W.keepIn K (.ref f7) = true)
    (a8 : PySem.W.findIn K (.ref cC) "is_level" = some (some (.ref f8)))
    (i8 : PySem.W.isFn K (.ref f8) = true)
    (l8 : K.lookup f8 = some ⟨oc8, od8, .func (PySem.W.fnOf "is_level" "Flight.is_level" (defArgs st_m_is_level) (defBody st_m_is_level) (defScope st_m_is_level) .none kV8 dc8 pm8 an8 cd8 ct8), sl8⟩)
    (c8 : PySem.W.codeIn K cd8 "Flight.is_level" = true)
    (k8 : PySem.W.keepIn K (.ref f8) = true)
    (a9 : PySem.W.findIn K (.ref cC) "sail" = some (some (.ref f9)))
    (i9 : PySem.W.isFn K (.ref f9) = true)
    (l9 : K.lookup f9 = some ⟨oc9, od9, .func (PySem.W.fnOf "sail" "Flight.sail" (defArgs st_m_sail) (defBody st_m_sail) (defScope st_m_sail) .none kV9 dc9 pm9 an9 cd9 ct9), sl9⟩)
    (c9 : PySem.W.codeIn K cd9 "Flight.sail" = true)
    (k9 : PySem.W.keepIn K (.ref f9) = true)
    (a10 : PySem.W.nsIn K mainGlobals "read_order" = some (some (.ref f10)))
    (l10 : K.lookup f10 = some ⟨oc10, od10, .func (PySem.W.fnOf "read_order" "read_order" (defArgs st_read_order) (defBody st_read_order) (defScope st_read_order) .none kV10 dc10 pm10 an10 cd10 ct10), sl10⟩)
    (c10 : PySem.W.codeIn K cd10 "read_order" = true)
    (k10 : PySem.W.keepIn K (.ref f10) = true)
    (a11 : PySem.W.nsIn K mainGlobals "_law_cell_at" = some (some (.ref f11)))
    (l11 : K.lookup f11 = some ⟨oc11, od11, .func (PySem.W.fnOf "_law_cell_at" "_law_cell_at" (defArgs st_law_cell_at) (defBody st_law_cell_at) (defScope st_law_cell_at) .none kV11 dc11 pm11 an11 cd11 ct11), sl11⟩)
    (c11 : PySem.W.codeIn K cd11 "_law_cell_at" = true)
    (k11 : PySem.W.keepIn K (.ref f11) = true)
    (a12 : PySem.W.nsIn K mainGlobals "_law_boats" = some (some (.ref f12)))
    (l12 : K.lookup f12 = some ⟨oc12, od12, .func (PySem.W.fnOf "_law_boats" "_law_boats" (defArgs st_law_boats) (defBody st_law_boats) (defScope st_law_boats) .none kV12 dc12 pm12 an12 cd12 ct12), sl12⟩)
    (c12 : PySem.W.codeIn K cd12 "_law_boats" = true)
    (k12 : PySem.W.keepIn K (.ref f12) = true)
    (a13 : PySem.W.nsIn K mainGlobals "_law_refuses" = some (some (.ref f13)))
    (l13 : K.lookup f13 = some ⟨oc13, od13, .func (PySem.W.fnOf "_law_refuses" "_law_refuses" (defArgs st_law_refuses) (defBody st_law_refuses) (defScope st_law_refuses) .none kV13 dc13 pm13 an13 cd13 ct13), sl13⟩)
    (c13 : PySem.W.codeIn K cd13 "_law_refuses" = true)
    (k13 : PySem.W.keepIn K (.ref f13) = true)
    (a14 : PySem.W.nsIn K mainGlobals "_law_classes" = some (some (.ref f14)))
    (l14 : K.lookup f14 = some ⟨oc14, od14, .func (PySem.W.fnOf "_law_classes" "_law_classes" (defArgs st_law_classes) (defBody st_law_classes) (defScope st_law_classes) .none kV14 dc14 pm14 an14 cd14 ct14), sl14⟩)
    (c14 : PySem.W.codeIn K cd14 "_law_classes" = true)
    (k14 : PySem.W.keepIn K (.ref f14) = true)
    (a15 : PySem.W.nsIn K mainGlobals "_law_caught" = some (some (.ref f15)))
    (l15 : K.lookup f15 = some ⟨oc15, od15, .func (PySem.W.fnOf "_law_caught" "_law_caught" (defArgs st_law_caught) (defBody st_law_caught) (defScope st_law_caught) .none kV15 dc15 pm15 an15 cd15 ct15), sl15⟩)
    (c15 : PySem.W.codeIn K cd15 "_law_caught" = true)
    (k15 : PySem.W.keepIn K (.ref f15) = true)
    (a16 : PySem.W.nsIn K mainGlobals "law" = some (some (.ref f16)))
    (l16 : K.lookup f16 = some ⟨oc16, od16, .func (PySem.W.fnOf "law" "law" (defArgs st_law) (defBody st_law) (defScope st_law) .none kV16 dc16 pm16 an16 cd16 ct16), sl16⟩)
    (c16 : PySem.W.codeIn K cd16 "law" = true)
    (k16 : PySem.W.keepIn K (.ref f16) = true) :
    ∃ fd : FuncData, (∀ (s : Shared) (v : Value), BindsTo s fd ⟨[v], []⟩ [("script", v)]) ∧ ∀ base : Heap, K.In base → base.Ns mainGlobals mg → FnOk l.prog w K mg base (L2.CX l.prog w) 8 fa fd ["script"] (spD K Φ_top) := by
  have e := hfa.symm.trans (PySem.W.mg_of X G a16)
  cases e
  have T : Tx K mg (⟨cC, c_bf, c_ng, c_nf, c_nb, c_ns, c_sh, c_oc, c_bt, c_le⟩ : Ad) := {b_len := PySem.W.mg_none_of X G x_b_len, c_MOST_CHAMBERS := ⟨_, PySem.W.mg_of X G x_c_MOST_CHAMBERS, _, rfl⟩, x_bf := x_x_bf, g_bf := PySem.W.mg_of X G x_g_bf, k_bf := x_k_bf, s_bf := x_s_bf, t_bf := x_t_bf, b_list := PySem.W.mg_none_of X G x_b_list, b_sorted := PySem.W.mg_none_of X G x_b_sorted, x_nb := x_x_nb, g_nb := PySem.W.mg_of X G x_g_nb, k_nb := x_k_nb, s_nb := x_s_nb, t_nb := x_t_nb, x_ng := x_x_ng, g_ng := PySem.W.mg_of X G x_g_ng, k_ng := x_k_ng, s_ng := x_s_ng, t_ng := x_t_ng, x_nf := x_x_nf, g_nf := PySem.W.mg_of X G x_g_nf, k_nf := x_k_nf, s_nf := x_s_nf, t_nf := x_t_nf, x_ns := x_x_ns, g_ns := PySem.W.mg_of X G x_g_ns, k_ns := x_k_ns, s_ns := x_s_ns, t_ns := x_t_ns, x_sh := x_x_sh, g_sh := PySem.W.mg_of X G x_g_sh, k_sh := x_k_sh, s_sh := x_s_sh, t_sh := x_t_sh, x_oc := x_x_oc, g_oc := PySem.W.mg_of X G x_g_oc, k_oc := x_k_oc, s_oc := x_s_oc, t_oc := x_t_oc, c_MOST_BOATS := ⟨_, PySem.W.mg_of X G x_c_MOST_BOATS, _, rfl⟩, x_bt := x_x_bt, g_bt := PySem.W.mg_of X G x_g_bt, k_bt := x_k_bt, s_bt := x_s_bt, t_bt := x_t_bt, b_range := PySem.W.mg_none_of X G x_b_range, b_isinstance := PySem.W.mg_none_of X G x_b_isinstance, g_le := PySem.W.mg_of X G x_g_le, b_ValueError := PySem.W.mg_none_of X G x_b_ValueError, cl := ⟨x_pg, x_hd, x_po, x_sa⟩, fl := ⟨⟨x_pg, x_hd, x_po, x_sa⟩, x_n_high, x_n_sides, x_n_places, x_n_done, x_n_taken, x_n_given⟩, i_bf_bf := kit_ref x_h_bf x_t_bf x_m_bf_bf x_m_bf_bf, i_bf_ng := kit_ref x_h_ng x_t_ng x_m_bf_ng x_m_bf_bf, i_bf_nf := kit_ref x_h_nf x_t_nf x_m_bf_nf x_m_bf_bf, i_bf_nb := kit_ref x_h_nb x_t_nb x_m_bf_nb x_m_bf_bf, i_bf_ns := kit_ref x_h_ns x_t_ns x_m_bf_ns x_m_bf_bf, i_bf_sh := kit_ref x_h_sh x_t_sh x_m_bf_sh x_m_bf_bf, i_bf_oc := kit_ref x_h_oc x_t_oc x_m_bf_oc x_m_bf_bf, i_bf_bt := kit_ref x_h_bt x_t_bt x_m_bf_bt x_m_bf_bf, i_ng_bf := kit_ref x_h_bf x_t_bf x_m_ng_bf x_m_ng_ng, i_ng_ng := kit_ref x_h_ng x_t_ng x_m_ng_ng x_m_ng_ng, i_ng_nf := kit_ref x_h_nf x_t_nf x_m_ng_nf x_m_ng_ng, i_ng_nb := kit_ref x_h_nb x_t_nb x_m_ng_nb x_m_ng_ng, i_ng_ns := kit_ref x_h_ns x_t_ns x_m_ng_ns x_m_ng_ng, i_ng_sh := kit_ref x_h_sh x_t_sh x_m_ng_sh x_m_ng_ng, i_ng_oc := kit_ref x_h_oc x_t_oc x_m_ng_oc x_m_ng_ng, i_ng_bt := kit_ref x_h_bt x_t_bt x_m_ng_bt x_m_ng_ng, i_nf_bf := kit_ref x_h_bf x_t_bf x_m_nf_bf x_m_nf_nf, i_nf_ng := kit_ref x_h_ng x_t_ng x_m_nf_ng x_m_nf_nf, i_nf_nf := kit_ref x_h_nf x_t_nf x_m_nf_nf x_m_nf_nf, i_nf_nb := kit_ref x_h_nb x_t_nb x_m_nf_nb x_m_nf_nf, i_nf_ns := kit_ref x_h_ns x_t_ns x_m_nf_ns x_m_nf_nf, i_nf_sh := kit_ref x_h_sh x_t_sh x_m_nf_sh x_m_nf_nf, i_nf_oc := kit_ref x_h_oc x_t_oc x_m_nf_oc x_m_nf_nf, i_nf_bt := kit_ref x_h_bt x_t_bt x_m_nf_bt x_m_nf_nf, i_nb_bf := kit_ref x_h_bf x_t_bf x_m_nb_bf x_m_nb_nb, i_nb_ng := kit_ref x_h_ng x_t_ng x_m_nb_ng x_m_nb_nb, i_nb_nf := kit_ref x_h_nf x_t_nf x_m_nb_nf x_m_nb_nb, i_nb_nb := kit_ref x_h_nb x_t_nb x_m_nb_nb x_m_nb_nb, i_nb_ns := kit_ref x_h_ns x_t_ns x_m_nb_ns x_m_nb_nb, i_nb_sh := kit_ref x_h_sh x_t_sh x_m_nb_sh x_m_nb_nb, i_nb_oc := kit_ref x_h_oc x_t_oc x_m_nb_oc x_m_nb_nb, i_nb_bt := kit_ref x_h_bt x_t_bt x_m_nb_bt x_m_nb_nb, i_ns_bf := kit_ref x_h_bf x_t_bf x_m_ns_bf x_m_ns_ns, i_ns_ng := kit_ref x_h_ng x_t_ng x_m_ns_ng x_m_ns_ns, i_ns_nf := kit_ref x_h_nf x_t_nf x_m_ns_nf x_m_ns_ns, i_ns_nb := kit_ref x_h_nb x_t_nb x_m_ns_nb x_m_ns_ns, i_ns_ns := kit_ref x_h_ns x_t_ns x_m_ns_ns x_m_ns_ns, i_ns_sh := kit_ref x_h_sh x_t_sh x_m_ns_sh x_m_ns_ns, i_ns_oc := kit_ref x_h_oc x_t_oc x_m_ns_oc x_m_ns_ns, i_ns_bt := kit_ref x_h_bt x_t_bt x_m_ns_bt x_m_ns_ns, i_sh_bf := kit_ref x_h_bf x_t_bf x_m_sh_bf x_m_sh_sh, i_sh_ng := kit_ref x_h_ng x_t_ng x_m_sh_ng x_m_sh_sh, i_sh_nf := kit_ref x_h_nf x_t_nf x_m_sh_nf x_m_sh_sh, i_sh_nb := kit_ref x_h_nb x_t_nb x_m_sh_nb x_m_sh_sh, i_sh_ns := kit_ref x_h_ns x_t_ns x_m_sh_ns x_m_sh_sh, i_sh_sh := kit_ref x_h_sh x_t_sh x_m_sh_sh x_m_sh_sh, i_sh_oc := kit_ref x_h_oc x_t_oc x_m_sh_oc x_m_sh_sh, i_sh_bt := kit_ref x_h_bt x_t_bt x_m_sh_bt x_m_sh_sh, i_oc_bf := kit_ref x_h_bf x_t_bf x_m_oc_bf x_m_oc_oc, i_oc_ng := kit_ref x_h_ng x_t_ng x_m_oc_ng x_m_oc_oc, i_oc_nf := kit_ref x_h_nf x_t_nf x_m_oc_nf x_m_oc_oc, i_oc_nb := kit_ref x_h_nb x_t_nb x_m_oc_nb x_m_oc_oc, i_oc_ns := kit_ref x_h_ns x_t_ns x_m_oc_ns x_m_oc_oc, i_oc_sh := kit_ref x_h_sh x_t_sh x_m_oc_sh x_m_oc_oc, i_oc_oc := kit_ref x_h_oc x_t_oc x_m_oc_oc x_m_oc_oc, i_oc_bt := kit_ref x_h_bt x_t_bt x_m_oc_bt x_m_oc_oc, i_bt_bf := kit_ref x_h_bf x_t_bf x_m_bt_bf x_m_bt_bt, i_bt_ng := kit_ref x_h_ng x_t_ng x_m_bt_ng x_m_bt_bt, i_bt_nf := kit_ref x_h_nf x_t_nf x_m_bt_nf x_m_bt_bt, i_bt_nb := kit_ref x_h_nb x_t_nb x_m_bt_nb x_m_bt_bt, i_bt_ns := kit_ref x_h_ns x_t_ns x_m_bt_ns x_m_bt_bt, i_bt_sh := kit_ref x_h_sh x_t_sh x_m_bt_sh x_m_bt_bt, i_bt_oc := kit_ref x_h_oc x_t_oc x_m_bt_oc x_m_bt_bt, i_bt_bt := kit_ref x_h_bt x_t_bt x_m_bt_bt x_m_bt_bt, i_bf_ValueError := kit_tyE x_i_bf_ValueError, i_ng_ValueError := kit_tyE x_i_ng_ValueError, i_nf_ValueError := kit_tyE x_i_nf_ValueError, i_nb_ValueError := kit_tyE x_i_nb_ValueError, i_ns_ValueError := kit_tyE x_i_ns_ValueError, i_sh_ValueError := kit_tyE x_i_sh_ValueError, i_oc_ValueError := kit_tyE x_i_oc_ValueError, i_bt_ValueError := kit_tyE x_i_bt_ValueError, m_bf_le := PySem.W.exm_ref x_s_le x_h_le x_t_le x_m_bf_le, m_ng_le := PySem.W.exm_ref x_s_le x_h_le x_t_le x_m_ng_le, m_nf_le := PySem.W.exm_ref x_s_le x_h_le x_t_le x_m_nf_le, m_nb_le := PySem.W.exm_ref x_s_le x_h_le x_t_le x_m_nb_le, m_ns_le := PySem.W.exm_ref x_s_le x_h_le x_t_le x_m_ns_le, m_sh_le := PySem.W.exm_ref x_s_le x_h_le x_t_le x_m_sh_le, m_oc_le := PySem.W.exm_ref x_s_le x_h_le x_t_le x_m_oc_le, m_bt_le := PySem.W.exm_ref x_s_le x_h_le x_t_le x_m_bt_le, e_bf := ⟨x_e0_bf, x_e1_bf, x_s_bf, x_h_bf, x_e4_bf, x_en, x_et, x_e7_bf⟩, e_ng := ⟨x_e0_ng, x_e1_ng, x_s_ng, x_h_ng, x_e4_ng, x_en, x_et, x_e7_ng⟩, e_nf := ⟨x_e0_nf, x_e1_nf, x_s_nf, x_h_nf, x_e4_nf, x_en, x_et, x_e7_nf⟩, e_nb := ⟨x_e0_nb, x_e1_nb, x_s_nb, x_h_nb, x_e4_nb, x_en, x_et, x_e7_nb⟩, e_ns := ⟨x_e0_ns, x_e1_ns, x_s_ns, x_h_ns, x_e4_ns, x_en, x_et, x_e7_ns⟩, e_sh := ⟨x_e0_sh, x_e1_sh, x_s_sh, x_h_sh, x_e4_sh, x_en, x_et, x_e7_sh⟩, e_oc := ⟨x_e0_oc, x_e1_oc, x_s_oc, x_h_oc, x_e4_oc, x_en, x_et, x_e7_oc⟩, e_bt := ⟨x_e0_bt, x_e1_bt, x_s_bt, x_h_bt, x_e4_bt, x_en, x_et, x_e7_bt⟩}
  have F0 := fun_mk (st := st_ask_levels) l0 c0 k0
  have b0 := F0.binds (ps := ["levels"]) fun _ _ _ _ _ _ us hl => match us, hl with | [_], _ => rfl
  have F1 := fun_mk (st := st_m_init) l1 c1 k1
  have b1 := F1.binds (ps := ["self", "levels"]) fun _ _ _ _ _ _ us hl => match us, hl with | [_, _], _ => rfl
  have F2 := fun_mk (st := st_m_top) l2 c2 k2
  have b2 := F2.binds (ps := ["self"]) fun _ _ _ _ _ _ us hl => match us, hl with | [_], _ => rfl
  have F3 := fun_mk (st := st_m_boats) l3 c3 k3
  have b3 := F3.binds (ps := ["self"]) fun _ _ _ _ _ _ us hl => match us, hl with | [_], _ => rfl
  have F4 := fun_mk (st := st_m_waiting) l4 c4 k4
  have b4 := F4.binds (ps := ["self", "side"]) fun _ _ _ _ _ _ us hl => match us, hl with | [_, _], _ => rfl
  have F5 := fun_mk (st := st_m_place) l5 c5 k5
  have b5 := F5.binds (ps := ["self", "boat"]) fun _ _ _ _ _ _ us hl => match us, hl with | [_, _], _ => rfl
  have F6 := fun_mk (st := st_m_come) l6 c6 k6
  have b6 := F6.binds (ps := ["self", "side"]) fun _ _ _ _ _ _ us hl => match us, hl with | [_, _], _ => rfl
  have F7 := fun_mk (st := st_m_let) l7 c7 k7
  have b7 := F7.binds (ps := ["self", "gate"]) fun _ _ _ _ _ _ us hl => match us, hl with | [_, _], _ => rfl
  have F8 := fun_mk (st := st_m_is_level) l8 c8 k8
  have b8 := F8.binds (ps := ["self", "gate"]) fun _ _ _ _ _ _ us hl => match us, hl with | [_, _], _ => rfl
  have F9 := fun_mk (st := st_m_sail) l9 c9 k9
  have b9 := F9.binds (ps := ["self", "boat"]) fun _ _ _ _ _ _ us hl => match us, hl with | [_, _], _ => rfl
  have F10 := fun_mk (st := st_read_order) l10 c10 k10
  have b10 := F10.binds (ps := ["text"]) fun _ _ _ _ _ _ us hl => match us, hl with | [_], _ => rfl
  have F11 := fun_mk (st := st_law_cell_at) l11 c11 k11
  have b11 := F11.binds (ps := ["script", "k"]) fun _ _ _ _ _ _ us hl => match us, hl with | [_, _], _ => rfl
  have F12 := fun_mk (st := st_law_boats) l12 c12 k12
  have b12 := F12.binds (ps := ["levels"]) fun _ _ _ _ _ _ us hl => match us, hl with | [_], _ => rfl
  have F13 := fun_mk (st := st_law_refuses) l13 c13 k13
  have b13 := F13.binds (ps := ["which", "cell"]) fun _ _ _ _ _ _ us hl => match us, hl with | [_, _], _ => rfl
  have F14 := fun_mk (st := st_law_classes) l14 c14 k14
  have b14 := F14.binds (ps := ["e"]) fun _ _ _ _ _ _ us hl => match us, hl with | [_], _ => rfl
  have F15 := fun_mk (st := st_law_caught) l15 c15 k15
  have b15 := F15.binds (ps := ["which", "cell"]) fun _ _ _ _ _ _ us hl => match us, hl with | [_, _], _ => rfl
  have F16 := fun_mk (st := st_law) l16 c16 k16
  refine ⟨PySem.W.fnOf "law" "law" (defArgs st_law) (defBody st_law) (defScope st_law) .none kV16 dc16 pm16 an16 cd16 ct16, fun s v => .of_eq rfl, fun base _ _ => ?_⟩
  have q_ask_levels : Cl l.prog w K mg base 2 "ask_levels" ["levels"] (spD K (Φ_ask_levels (⟨cC, c_bf, c_ng, c_nf, c_nb, c_ns, c_sh, c_oc, c_bt, c_le⟩ : Ad))) := ⟨f0, _, ok_ask_levels (P := l.prog) (w := w) (base := base) F0 T , PySem.W.mg_of X G a0, k0, b0⟩
  have q_m_init : Mc l.prog w K mg base 3 "Flight" cC ["self", "levels"] (spD K (Φ_m_init (⟨cC, c_bf, c_ng, c_nf, c_nb, c_ns, c_sh, c_oc, c_bt, c_le⟩ : Ad))) := ⟨f1, _, ok_m_init (P := l.prog) (w := w) (base := base) F1 T q_ask_levels, ⟨x_mk, a1, i1, x_kc⟩, PySem.W.mg_of X G x_aC, b1⟩
  have q_m_top : Mt l.prog w K mg base 2 cC "top" ["self"] (spD K (Φ_m_top (⟨cC, c_bf, c_ng, c_nf, c_nb, c_ns, c_sh, c_oc, c_bt, c_le⟩ : Ad))) := ⟨f2, _, ok_m_top (P := l.prog) (w := w) (base := base) F2 T , T.cl, ⟨a2, i2, k2⟩, b2⟩
  have q_m_boats : Mt l.prog w K mg base 3 cC "boats" ["self"] (spD K (Φ_m_boats (⟨cC, c_bf, c_ng, c_nf, c_nb, c_ns, c_sh, c_oc, c_bt, c_le⟩ : Ad))) := ⟨f3, _, ok_m_boats (P := l.prog) (w := w) (base := base) F3 T q_m_top, T.cl, ⟨a3, i3, k3⟩, b3⟩
  have q_m_waiting : Mt l.prog w K mg base 3 cC "waiting" ["self", "side"] (spD K (Φ_m_waiting (⟨cC, c_bf, c_ng, c_nf, c_nb, c_ns, c_sh, c_oc, c_bt, c_le⟩ : Ad))) := ⟨f4, _, ok_m_waiting (P := l.prog) (w := w) (base := base) F4 T q_m_top, T.cl, ⟨a4, i4, k4⟩, b4⟩
  have q_m_place : Mt l.prog w K mg base 2 cC "place" ["self", "boat"] (spD K (Φ_m_place (⟨cC, c_bf, c_ng, c_nf, c_nb, c_ns, c_sh, c_oc, c_bt, c_le⟩ : Ad))) := ⟨f5, _, ok_m_place (P := l.prog) (w := w) (base := base) F5 T , T.cl, ⟨a5, i5, k5⟩, b5⟩
  have q_m_come : Mt l.prog w K mg base 3 cC "come" ["self", "side"] (spD K (Φ_m_come (⟨cC, c_bf, c_ng, c_nf, c_nb, c_ns, c_sh, c_oc, c_bt, c_le⟩ : Ad))) := ⟨f6, _, ok_m_come (P := l.prog) (w := w) (base := base) F6 T q_m_top, T.cl, ⟨a6, i6, k6⟩, b6⟩
  have q_m_let : Mt l.prog w K mg base 2 cC "let" ["self", "gate"] (spD K (Φ_m_let (⟨cC, c_bf, c_ng, c_nf, c_nb, c_ns, c_sh, c_oc, c_bt, c_le⟩ : Ad))) := ⟨f7, _, ok_m_let (P := l.prog) (w := w) (base := base) F7 T , T.cl, ⟨a7, i7, k7⟩, b7⟩
  have q_m_is_level : Mt l.prog w K mg base 2 cC "is_level" ["self", "gate"] (spD K (Φ_m_is_level (⟨cC, c_bf, c_ng, c_nf, c_nb, c_ns, c_sh, c_oc, c_bt, c_le⟩ : Ad))) := ⟨f8, _, ok_m_is_level (P := l.prog) (w := w) (base := base) F8 T , T.cl, ⟨a8, i8, k8⟩, b8⟩
  have q_m_sail : Mt l.prog w K mg base 4 cC "sail" ["self", "boat"] (spD K (Φ_m_sail (⟨cC, c_bf, c_ng, c_nf, c_nb, c_ns, c_sh, c_oc, c_bt, c_le⟩ : Ad))) := ⟨f9, _, ok_m_sail (P := l.prog) (w := w) (base := base) F9 T q_m_place q_m_waiting q_m_is_level q_m_top q_m_boats, T.cl, ⟨a9, i9, k9⟩, b9⟩
  have q_read_order : Cl l.prog w K mg base 2 "read_order" ["text"] (spD K (Φ_read_order (⟨cC, c_bf, c_ng, c_nf, c_nb, c_ns, c_sh, c_oc, c_bt, c_le⟩ : Ad))) := ⟨f10, _, ok_read_order (P := l.prog) (w := w) (base := base) F10 T , PySem.W.mg_of X G a10, k10, b10⟩
  have q_law_cell_at : Cl l.prog w K mg base 2 "_law_cell_at" ["script", "k"] (spD K (Φ_law_cell_at (⟨cC, c_bf, c_ng, c_nf, c_nb, c_ns, c_sh, c_oc, c_bt, c_le⟩ : Ad))) := ⟨f11, _, ok_law_cell_at (P := l.prog) (w := w) (base := base) F11 T , PySem.W.mg_of X G a11, k11, b11⟩
  have q_law_boats : Cl l.prog w K mg base 5 "_law_boats" ["levels"] (spD K (Φ_law_boats (⟨cC, c_bf, c_ng, c_nf, c_nb, c_ns, c_sh, c_oc, c_bt, c_le⟩ : Ad))) := ⟨f12, _, ok_law_boats (P := l.prog) (w := w) (base := base) F12 T q_m_init q_m_come, PySem.W.mg_of X G a12, k12, b12⟩
  have q_law_refuses : Cl l.prog w K mg base 6 "_law_refuses" ["which", "cell"] (spD K (Φ_law_refuses (⟨cC, c_bf, c_ng, c_nf, c_nb, c_ns, c_sh, c_oc, c_bt, c_le⟩ : Ad))) := ⟨f13, _, ok_law_refuses (P := l.prog) (w := w) (base := base) F13 T q_m_init q_m_let q_law_boats q_m_sail q_read_order, PySem.W.mg_of X G a13, k13, b13⟩
  have q_law_classes : ∀ a0 D0 : Addr, ExcC K D0 → ClP l.prog w K mg base 2 "_law_classes" ["e"] (Zp a0 D0) (spD K (Φ_law_classes K (⟨cC, c_bf, c_ng, c_nf, c_nb, c_ns, c_sh, c_oc, c_bt, c_le⟩ : Ad) a0 D0)) := fun a0 D0 eD => ⟨f14, _, ok_law_classes (P := l.prog) (w := w) (base := base) F14 T eD, PySem.W.mg_of X G a14, k14, b14⟩
  have q_law_caught : Cl l.prog w K mg base 7 "_law_caught" ["which", "cell"] (spD K (Φ_law_caught (⟨cC, c_bf, c_ng, c_nf, c_nb, c_ns, c_sh, c_oc, c_bt, c_le⟩ : Ad))) := ⟨f15, _, ok_law_caught (P := l.prog) (w := w) (base := base) F15 T q_law_refuses q_law_classes, PySem.W.mg_of X G a15, k15, b15⟩
  exact ok_law (P := l.prog) (w := w) (base := base) F16 T q_law_cell_at q_law_caught
end Fl
open PySem PySem.W PyProof.Rows
set_option maxRecDepth 100000 in
set_option maxHeartbeats 0 in
theorem PySem.Challenge.cw_lockflight_k19_each_refusal_alone_holds : PySem.Challenge.rw_lockflight_k19_each_refusal_alone.Holds := by
  w_on; o_law; k_head; (case hw => w_witness2)
  k_fill
  refine Fl.walk_fl (l := PySem.Challenge.rw_lockflight_k19_each_refusal_alone) (k := 8) rfl rfl ⟨rfl, by decide, by decide⟩ (fun w h Y => PySem.W.kIn_of Y) ?F
  case F =>
    intro w mg fa h KX Gm hmg
    refine' Fl.all_mk KX Gm hmg ?z_x_aC ?z_x_b_len ?z_x_c_MOST_CHAMBERS ?z_x_g_bf ?z_x_x_bf ?z_x_k_bf ?z_x_s_bf ?z_x_t_bf ?z_x_b_list ?z_x_b_sorted ?z_x_g_nb ?z_x_x_nb ?z_x_k_nb ?z_x_s_nb ?z_x_t_nb ?z_x_g_ng ?z_x_x_ng ?z_x_k_ng ?z_x_s_ng ?z_x_t_ng ?z_x_g_nf ?z_x_x_nf ?z_x_k_nf ?z_x_s_nf ?z_x_t_nf ?z_x_g_ns ?z_x_x_ns ?z_x_k_ns ?z_x_s_ns ?z_x_t_ns ?z_x_g_sh ?z_x_x_sh ?z_x_k_sh ?z_x_s_sh ?z_x_t_sh ?z_x_g_oc ?z_x_x_oc ?z_x_k_oc ?z_x_s_oc ?z_x_t_oc ?z_x_c_MOST_BOATS ?z_x_g_bt ?z_x_x_bt ?z_x_k_bt ?z_x_s_bt ?z_x_t_bt ?z_x_b_range ?z_x_b_isinstance ?z_x_g_le ?z_x_b_ValueError ?z_x_pg ?z_x_hd ?z_x_po ?z_x_sa ?z_x_n_high ?z_x_n_sides ?z_x_n_places ?z_x_n_done ?z_x_n_taken ?z_x_n_given ?z_x_m_bf_bf ?z_x_h_bf ?z_x_m_bf_ng ?z_x_h_ng ?z_x_m_bf_nf ?z_x_h_nf ?z_x_m_bf_nb ?z_x_h_nb ?z_x_m_bf_ns ?z_x_h_ns ?z_x_m_bf_sh ?z_x_h_sh ?z_x_m_bf_oc ?z_x_h_oc ?z_x_m_bf_bt ?z_x_h_bt ?z_x_m_ng_bf ?z_x_m_ng_ng ?z_x_m_ng_nf ?z_x_m_ng_nb ?z_x_m_ng_ns ?z_x_m_ng_sh ?z_x_m_ng_oc ?z_x_m_ng_bt ?z_x_m_nf_bf ?z_x_m_nf_nf ?z_x_m_nf_ng ?z_x_m_nf_nb ?z_x_m_nf_ns ?z_x_m_nf_sh ?z_x_m_nf_oc ?z_x_m_nf_bt ?z_x_m_nb_bf ?z_x_m_nb_nb ?z_x_m_nb_ng ?z_x_m_nb_nf ?z_x_m_nb_ns ?z_x_m_nb_sh ?z_x_m_nb_oc ?z_x_m_nb_bt ?z_x_m_ns_bf ?z_x_m_ns_ns ?z_x_m_ns_ng ?z_x_m_ns_nf ?z_x_m_ns_nb ?z_x_m_ns_sh ?z_x_m_ns_oc ?z_x_m_ns_bt ?z_x_m_sh_bf ?z_x_m_sh_sh ?z_x_m_sh_ng ?z_x_m_sh_nf ?z_x_m_sh_nb ?z_x_m_sh_ns ?z_x_m_sh_oc ?z_x_m_sh_bt ?z_x_m_oc_bf ?z_x_m_oc_oc ?z_x_m_oc_ng ?z_x_m_oc_nf ?z_x_m_oc_nb ?z_x_m_oc_ns ?z_x_m_oc_sh ?z_x_m_oc_bt ?z_x_m_bt_bf ?z_x_m_bt_bt ?z_x_m_bt_ng ?z_x_m_bt_nf ?z_x_m_bt_nb ?z_x_m_bt_ns ?z_x_m_bt_sh ?z_x_m_bt_oc ?z_x_i_bf_ValueError ?z_x_i_ng_ValueError ?z_x_i_nf_ValueError ?z_x_i_nb_ValueError ?z_x_i_ns_ValueError ?z_x_i_sh_ValueError ?z_x_i_oc_ValueError ?z_x_i_bt_ValueError ?z_x_m_bf_le ?z_x_s_le ?z_x_h_le ?z_x_t_le ?z_x_m_ng_le ?z_x_m_nf_le ?z_x_m_nb_le ?z_x_m_ns_le ?z_x_m_sh_le ?z_x_m_oc_le ?z_x_m_bt_le ?z_x_e0_bf ?z_x_e1_bf ?z_x_e4_bf ?z_x_en ?z_x_et ?z_x_e7_bf ?z_x_e0_ng ?z_x_e1_ng ?z_x_e4_ng ?z_x_e7_ng ?z_x_e0_nf ?z_x_e1_nf ?z_x_e4_nf ?z_x_e7_nf ?z_x_e0_nb ?z_x_e1_nb ?z_x_e4_nb ?z_x_e7_nb ?z_x_e0_ns ?z_x_e1_ns ?z_x_e4_ns ?z_x_e7_ns ?z_x_e0_sh ?z_x_e1_sh ?z_x_e4_sh ?z_x_e7_sh ?z_x_e0_oc ?z_x_e1_oc ?z_x_e4_oc ?z_x_e7_oc ?z_x_e0_bt ?z_x_e1_bt ?z_x_e4_bt ?z_x_e7_bt ?z_x_mk ?z_x_kc ?z_a0 ?z_l0 ?z_c0 ?z_k0 ?z_a1 ?z_i1 ?z_l1 ?z_c1 ?z_k1 ?z_a2 ?z_i2 ?z_l2 ?z_c2 ?z_k2 ?z_a3 ?z_i3 ?z_l3 ?z_c3 ?z_k3 ?z_a4 ?z_i4 ?z_l4 ?z_c4 ?z_k4 ?z_a5 ?z_i5 ?z_l5 ?z_c5 ?z_k5 ?z_a6 ?z_i6 ?z_l6 ?z_c6 ?z_k6 ?z_a7 ?z_i7 ?z_l7 ?z_c7 ?z_k7 ?z_a8 ?z_i8 ?z_l8 ?z_c8 ?z_k8 ?z_a9 ?z_i9 ?z_l9 ?z_c9 ?z_k9 ?z_a10 ?z_l10 ?z_c10 ?z_k10 ?z_a11 ?z_l11 ?z_c11 ?z_k11 ?z_a12 ?z_l12 ?z_c12 ?z_k12 ?z_a13 ?z_l13 ?z_c13 ?z_k13 ?z_a14 ?z_l14 ?z_c14 ?z_k14 ?z_a15 ?z_l15 ?z_c15 ?z_k15 ?z_a16 ?z_l16 ?z_c16 ?z_k16
    (case z_x_aC => k_is)
    (case z_x_b_len => k_is)
    (case z_x_c_MOST_CHAMBERS => k_is)
    (case z_x_g_bf => k_is)
    (case z_x_x_bf => k_exc)
    (case z_x_k_bf => k_is)
    (case z_x_s_bf => k_is)
    (case z_x_t_bf => k_is)
    (case z_x_b_list => k_is)
    (case z_x_b_sorted => k_is)
    (case z_x_g_nb => k_is)
    (case z_x_x_nb => k_exc)
    (case z_x_k_nb => k_is)
    (case z_x_s_nb => k_is)
    (case z_x_t_nb => k_is)
    (case z_x_g_ng => k_is)
    (case z_x_x_ng => k_exc)
    (case z_x_k_ng => k_is)
    (case z_x_s_ng => k_is)
    (case z_x_t_ng => k_is)
    (case z_x_g_nf => k_is)
    (case z_x_x_nf => k_exc)
    (case z_x_k_nf => k_is)
    (case z_x_s_nf => k_is)
    (case z_x_t_nf => k_is)
    (case z_x_g_ns => k_is)
    (case z_x_x_ns => k_exc)
    (case z_x_k_ns => k_is)
    (case z_x_s_ns => k_is)
    (case z_x_t_ns => k_is)
    (case z_x_g_sh => k_is)
    (case z_x_x_sh => k_exc)
    (case z_x_k_sh => k_is)
    (case z_x_s_sh => k_is)
    (case z_x_t_sh => k_is)
    (case z_x_g_oc => k_is)
    (case z_x_x_oc => k_exc)
    (case z_x_k_oc => k_is)
    (case z_x_s_oc => k_is)
    (case z_x_t_oc => k_is)
    (case z_x_c_MOST_BOATS => k_is)
    (case z_x_g_bt => k_is)
    (case z_x_x_bt => k_exc)
    (case z_x_k_bt => k_is)
    (case z_x_s_bt => k_is)
    (case z_x_t_bt => k_is)
    (case z_x_b_range => k_is)
    (case z_x_b_isinstance => k_is)
    (case z_x_g_le => k_is)
    (case z_x_b_ValueError => k_is)
    (case z_x_pg => k_is)
    (case z_x_hd => k_is)
    (case z_x_po => k_is)
    (case z_x_sa => k_is)
    (case z_x_n_high => k_is)
    (case z_x_n_sides => k_is)
    (case z_x_n_places => k_is)
    (case z_x_n_done => k_is)
    (case z_x_n_taken => k_is)
    (case z_x_n_given => k_is)
    (case z_x_m_bf_bf => k_is)
    (case z_x_h_bf => k_is)
    (case z_x_m_bf_ng => k_is)
    (case z_x_h_ng => k_is)
    (case z_x_m_bf_nf => k_is)
    (case z_x_h_nf => k_is)
    (case z_x_m_bf_nb => k_is)
    (case z_x_h_nb => k_is)
    (case z_x_m_bf_ns => k_is)
    (case z_x_h_ns => k_is)
    (case z_x_m_bf_sh => k_is)
    (case z_x_h_sh => k_is)
    (case z_x_m_bf_oc => k_is)
    (case z_x_h_oc => k_is)
    (case z_x_m_bf_bt => k_is)
    (case z_x_h_bt => k_is)
    (case z_x_m_ng_bf => k_is)
    (case z_x_m_ng_ng => k_is)
    (case z_x_m_ng_nf => k_is)
    (case z_x_m_ng_nb => k_is)
    (case z_x_m_ng_ns => k_is)
    (case z_x_m_ng_sh => k_is)
    (case z_x_m_ng_oc => k_is)
    (case z_x_m_ng_bt => k_is)
    (case z_x_m_nf_bf => k_is)
    (case z_x_m_nf_nf => k_is)
    (case z_x_m_nf_ng => k_is)
    (case z_x_m_nf_nb => k_is)
    (case z_x_m_nf_ns => k_is)
    (case z_x_m_nf_sh => k_is)
    (case z_x_m_nf_oc => k_is)
    (case z_x_m_nf_bt => k_is)
    (case z_x_m_nb_bf => k_is)
    (case z_x_m_nb_nb => k_is)
    (case z_x_m_nb_ng => k_is)
    (case z_x_m_nb_nf => k_is)
    (case z_x_m_nb_ns => k_is)
    (case z_x_m_nb_sh => k_is)
    (case z_x_m_nb_oc => k_is)
    (case z_x_m_nb_bt => k_is)
    (case z_x_m_ns_bf => k_is)
    (case z_x_m_ns_ns => k_is)
    (case z_x_m_ns_ng => k_is)
    (case z_x_m_ns_nf => k_is)
    (case z_x_m_ns_nb => k_is)
    (case z_x_m_ns_sh => k_is)
    (case z_x_m_ns_oc => k_is)
    (case z_x_m_ns_bt => k_is)
    (case z_x_m_sh_bf => k_is)
    (case z_x_m_sh_sh => k_is)
    (case z_x_m_sh_ng => k_is)
    (case z_x_m_sh_nf => k_is)
    (case z_x_m_sh_nb => k_is)
    (case z_x_m_sh_ns => k_is)
    (case z_x_m_sh_oc => k_is)
    (case z_x_m_sh_bt => k_is)
    (case z_x_m_oc_bf => k_is)
    (case z_x_m_oc_oc => k_is)
    (case z_x_m_oc_ng => k_is)
    (case z_x_m_oc_nf => k_is)
    (case z_x_m_oc_nb => k_is)
    (case z_x_m_oc_ns => k_is)
    (case z_x_m_oc_sh => k_is)
    (case z_x_m_oc_bt => k_is)
    (case z_x_m_bt_bf => k_is)
    (case z_x_m_bt_bt => k_is)
    (case z_x_m_bt_ng => k_is)
    (case z_x_m_bt_nf => k_is)
    (case z_x_m_bt_nb => k_is)
    (case z_x_m_bt_ns => k_is)
    (case z_x_m_bt_sh => k_is)
    (case z_x_m_bt_oc => k_is)
    (case z_x_i_bf_ValueError => k_is)
    (case z_x_i_ng_ValueError => k_is)
    (case z_x_i_nf_ValueError => k_is)
    (case z_x_i_nb_ValueError => k_is)
    (case z_x_i_ns_ValueError => k_is)
    (case z_x_i_sh_ValueError => k_is)
    (case z_x_i_oc_ValueError => k_is)
    (case z_x_i_bt_ValueError => k_is)
    (case z_x_m_bf_le => k_is)
    (case z_x_s_le => k_is)
    (case z_x_h_le => k_is)
    (case z_x_t_le => k_is)
    (case z_x_m_ng_le => k_is)
    (case z_x_m_nf_le => k_is)
    (case z_x_m_nb_le => k_is)
    (case z_x_m_ns_le => k_is)
    (case z_x_m_sh_le => k_is)
    (case z_x_m_oc_le => k_is)
    (case z_x_m_bt_le => k_is)
    (case z_x_e0_bf => k_is)
    (case z_x_e1_bf => k_is)
    (case z_x_e4_bf => k_is)
    (case z_x_en => k_is)
    (case z_x_et => k_is)
    (case z_x_e7_bf => k_is)
    (case z_x_e0_ng => k_is)
    (case z_x_e1_ng => k_is)
    (case z_x_e4_ng => k_is)
    (case z_x_e7_ng => k_is)
    (case z_x_e0_nf => k_is)
    (case z_x_e1_nf => k_is)
    (case z_x_e4_nf => k_is)
    (case z_x_e7_nf => k_is)
    (case z_x_e0_nb => k_is)
    (case z_x_e1_nb => k_is)
    (case z_x_e4_nb => k_is)
    (case z_x_e7_nb => k_is)
    (case z_x_e0_ns => k_is)
    (case z_x_e1_ns => k_is)
    (case z_x_e4_ns => k_is)
    (case z_x_e7_ns => k_is)
    (case z_x_e0_sh => k_is)
    (case z_x_e1_sh => k_is)
    (case z_x_e4_sh => k_is)
    (case z_x_e7_sh => k_is)
    (case z_x_e0_oc => k_is)
    (case z_x_e1_oc => k_is)
    (case z_x_e4_oc => k_is)
    (case z_x_e7_oc => k_is)
    (case z_x_e0_bt => k_is)
    (case z_x_e1_bt => k_is)
    (case z_x_e4_bt => k_is)
    (case z_x_e7_bt => k_is)
    (case z_x_mk => k_is)
    (case z_x_kc => k_is)
    (case z_a0 => k_is)
    (case z_l0 => k_is)
    (case z_c0 => k_is)
    (case z_k0 => k_is)
    (case z_a1 => k_is)
    (case z_i1 => k_is)
    (case z_l1 => k_is)
    (case z_c1 => k_is)
    (case z_k1 => k_is)
    (case z_a2 => k_is)
    (case z_i2 => k_is)
    (case z_l2 => k_is)
    (case z_c2 => k_is)
    (case z_k2 => k_is)
    (case z_a3 => k_is)
    (case z_i3 => k_is)
    (case z_l3 => k_is)
    (case z_c3 => k_is)
    (case z_k3 => k_is)
    (case z_a4 => k_is)
    (case z_i4 => k_is)
    (case z_l4 => k_is)
    (case z_c4 => k_is)
    (case z_k4 => k_is)
    (case z_a5 => k_is)
    (case z_i5 => k_is)
    (case z_l5 => k_is)
    (case z_c5 => k_is)
    (case z_k5 => k_is)
    (case z_a6 => k_is)
    (case z_i6 => k_is)
    (case z_l6 => k_is)
    (case z_c6 => k_is)
    (case z_k6 => k_is)
    (case z_a7 => k_is)
    (case z_i7 => k_is)
    (case z_l7 => k_is)
    (case z_c7 => k_is)
    (case z_k7 => k_is)
    (case z_a8 => k_is)
    (case z_i8 => k_is)
    (case z_l8 => k_is)
    (case z_c8 => k_is)
    (case z_k8 => k_is)
    (case z_a9 => k_is)
    (case z_i9 => k_is)
    (case z_l9 => k_is)
    (case z_c9 => k_is)
    (case z_k9 => k_is)
    (case z_a10 => k_is)
    (case z_l10 => k_is)
    (case z_c10 => k_is)
    (case z_k10 => k_is)
    (case z_a11 => k_is)
    (case z_l11 => k_is)
    (case z_c11 => k_is)
    (case z_k11 => k_is)
    (case z_a12 => k_is)
    (case z_l12 => k_is)
    (case z_c12 => k_is)
    (case z_k12 => k_is)
    (case z_a13 => k_is)
    (case z_l13 => k_is)
    (case z_c13 => k_is)
    (case z_k13 => k_is)
    (case z_a14 => k_is)
    (case z_l14 => k_is)
    (case z_c14 => k_is)
    (case z_k14 => k_is)
    (case z_a15 => k_is)
    (case z_l15 => k_is)
    (case z_c15 => k_is)
    (case z_k15 => k_is)
    (case z_a16 => k_is)
    (case z_l16 => k_is)
    (case z_c16 => k_is)
    (case z_k16 => k_is)
