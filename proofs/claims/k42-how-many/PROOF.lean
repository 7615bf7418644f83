import PyProof.Rows.All
import Wide.All
import OpenK.AllK
import Wide.FinOn
import HandS.ForMost
import HandS.ForExc
import HandS.Deep
import HandS.Flow
import HandS.Defaults
import KE.DataEq
import KE.DataFind
import KE.DataMinMax
import KE.SortData
import KE.DataCmp
import HandS.More
import HandS.Strs
import HandS.ExcIs
import HandS.TryOnly
import KE.KStateDown
import Lean
import HandS.Head0
import HandS.Head1
import HandS.Head2
import HandS.HeadEnd
import HandS.HeadHook1
import HandS.HeadHook2
import PySem.Challenge.RW_allrooms_k42_whole_how_many
set_option Elab.async false
set_option linter.all false
set_option maxRecDepth 100000
set_option maxHeartbeats 4000000
namespace G8
open PySem L2
abbrev Dt := PyData
abbrev Fg := PySem.W.Frag
mutual
inductive Rp (K : Fg) (G : Hp) : V → Dt → Prop
  | non : Rp K G .non .none
  | bl (b : Bool) : Rp K G (.bl b) (.bool b)
  | int (i : Int) : Rp K G (.int i) (.int i)
  | str (x : Str) : Rp K G (.str x) (.str x)
  | lst {a : Addr} {xs : List V} {ds : List Dt} : G a = some (.lst xs) → Rps K G xs ds → Rp K G (.ref a) (.list ds)
  | tup {a : Addr} {xs : List V} {ds : List Dt} : SqT K G a xs → Rps K G xs ds → Rp K G (.ref a) (.tuple ds)
inductive Rps (K : Fg) (G : Hp) : List V → List Dt → Prop
  | nil : Rps K G [] []
  | cons {v : V} {d : Dt} {vs : List V} {ds : List Dt} : Rp K G v d → Rps K G vs ds → Rps K G (v :: vs) (d :: ds)
end
theorem same_sqT {K : Fg} {H H' : Hp} {a : Addr} {xs : List V} (e : Same H H') (h : SqT K H a xs) : SqT K H' a xs := by
  rcases h with (h | ⟨o, h⟩) | h
  · exact .inl (.inl (e _ _ h))
  · exact .inl (.inr ⟨o, e _ _ h⟩)
  · exact .inr h
section
variable {K : Fg} {G G' : Hp}
mutual
theorem Rp.mono (e : Same G G') : ∀ (d : Dt) (v : V), Rp K G v d → Rp K G' v d
  | .none, _, h => by cases h; exact .non
  | .bool b, _, h => by cases h; exact .bl b
  | .int i, _, h => by cases h; exact .int i
  | .str x, _, h => by cases h; exact .str x
  | .list ds, _, h => by
    cases h with
    | lst h1 h2 => exact .lst (e _ _ h1) (Rps.mono e ds _ h2)
  | .tuple ds, _, h => by
    cases h with
    | tup h1 h2 => exact .tup (same_sqT e h1) (Rps.mono e ds _ h2)
  | .dict _, _, h => by cases h
theorem Rps.mono (e : Same G G') : ∀ (ds : List Dt) (vs : List V), Rps K G vs ds → Rps K G' vs ds
  | [], _, h => by cases h; exact .nil
  | d :: ds, _, h => by
    cases h with
    | cons h1 h2 => exact .cons (Rp.mono e d _ h1) (Rps.mono e ds _ h2)
end
mutual
theorem Rp.dp : ∀ (d : Dt) (v : V), Rp K G v d → Dp K G v d
  | .none, _, h => by cases h; exact .non
  | .bool b, _, h => by cases h; exact .bl b
  | .int i, _, h => by cases h; exact .int i
  | .str x, _, h => by cases h; exact .str x
  | .list ds, _, h => by
    cases h with
    | lst h1 h2 => exact .lst (SqL.of h1) (Rps.dp ds _ h2)
  | .tuple ds, _, h => by
    cases h with
    | tup h1 h2 => exact .tup h1 (Rps.dp ds _ h2)
  | .dict _, _, h => by cases h
theorem Rps.dp : ∀ (ds : List Dt) (vs : List V), Rps K G vs ds → DpAll K G vs ds
  | [], _, h => by cases h; exact .nil
  | d :: ds, _, h => by
    cases h with
    | cons h1 h2 => exact .cons (Rp.dp d _ h1) (Rps.dp ds _ h2)
end
theorem Rps.length : ∀ {vs : List V} {ds : List Dt}, Rps K G vs ds → vs.length = ds.length
  | _, [], h => by cases h; rfl
  | _, d :: ds, h => by
    cases h with
    | cons h1 h2 => rw [List.length_cons, List.length_cons, h2.length]
theorem Rps.get : ∀ {vs : List V} {ds : List Dt} {i : Nat} {d : Dt}, Rps K G vs ds → ds[i]? = some d → ∃ v, vs[i]? = some v ∧ Rp K G v d
  | _, [], _, _, _, e => by simp at e
  | _, d :: ds, 0, x, h, e => by
    cases h with
    | cons h1 h2 =>
      simp at e
      subst e
      exact ⟨_, rfl, h1⟩
  | _, d :: ds, i + 1, x, h, e => by
    cases h with
    | cons h1 h2 =>
      obtain ⟨v, q, r⟩ := Rps.get (i := i) (d := x) h2 (by simpa using e)
      exact ⟨v, by simpa using q, r⟩
theorem Rps.getV {vs : List V} {ds : List Dt} {i : Nat} {v : V} (h : Rps K G vs ds) (e : vs[i]? = some v) : ∃ d, ds[i]? = some d ∧ Rp K G v d := by
  have hi : i < vs.length := (List.getElem?_eq_some_iff.mp e).1
  rw [h.length] at hi
  obtain ⟨u, q, r⟩ := h.get (List.getElem?_eq_getElem hi)
  rw [e] at q
  cases q
  exact ⟨_, List.getElem?_eq_getElem hi, r⟩
theorem Rps.append : ∀ {vs ws : List V} {ds es : List Dt}, Rps K G vs ds → Rps K G ws es → Rps K G (vs ++ ws) (ds ++ es)
  | _, _, [], _, h, g => by cases h; exact g
  | _, _, d :: ds, _, h, g => by
    cases h with
    | cons h1 h2 => exact .cons h1 (h2.append g)
theorem Rps.set {v : V} {d : Dt} (r : Rp K G v d) : ∀ {vs : List V} {ds : List Dt} (i : Nat), Rps K G vs ds → Rps K G (vs.set i v) (ds.set i d)
  | _, [], _, h => by cases h; exact .nil
  | _, _ :: _, 0, h => by
    cases h with
    | cons h1 h2 => exact .cons r h2
  | _, _ :: _, i + 1, h => by
    cases h with
    | cons h1 h2 => exact .cons h1 (Rps.set r i h2)
theorem Rps.take : ∀ {vs : List V} {ds : List Dt} (n : Nat), Rps K G vs ds → Rps K G (vs.take n) (ds.take n)
  | _, [], n, h => by cases h; rw [List.take_nil, List.take_nil]; exact .nil
  | _, _ :: _, 0, h => by rw [List.take_zero, List.take_zero]; exact .nil
  | _, _ :: _, n + 1, h => by
    cases h with
    | cons h1 h2 => exact .cons h1 (Rps.take n h2)
theorem Rps.drop : ∀ {vs : List V} {ds : List Dt} (n : Nat), Rps K G vs ds → Rps K G (vs.drop n) (ds.drop n)
  | _, [], n, h => by cases h; rw [List.drop_nil, List.drop_nil]; exact .nil
  | _, _ :: _, 0, h => h
  | _, _ :: _, n + 1, h => by
    cases h with
    | cons h1 h2 => exact Rps.drop n h2
theorem Rps.erase : ∀ {vs : List V} {ds : List Dt} (n : Nat), Rps K G vs ds → Rps K G (vs.eraseIdx n) (ds.eraseIdx n)
  | _, [], n, h => by cases h; exact .nil
  | _, _ :: _, 0, h => by
    cases h with
    | cons h1 h2 => exact h2
  | _, _ :: _, n + 1, h => by
    cases h with
    | cons h1 h2 => exact .cons h1 (Rps.erase n h2)
theorem Rps.rev {vs : List V} {ds : List Dt} (h : Rps K G vs ds) : Rps K G vs.reverse ds.reverse := by
  induction ds generalizing vs with
  | nil => cases h; exact .nil
  | cons d ds ih =>
    cases h with
    | cons h1 h2 =>
      rw [List.reverse_cons, List.reverse_cons]
      exact (ih h2).append (.cons h1 .nil)
theorem Rps.rep {vs : List V} {ds : List Dt} (h : Rps K G vs ds) : ∀ k : Nat, Rps K G (List.replicate k vs).flatten (List.replicate k ds).flatten
  | 0 => .nil
  | k + 1 => by
    rw [List.replicate_succ, List.replicate_succ, List.flatten_cons, List.flatten_cons]
    exact h.append (Rps.rep h k)
theorem Rps.one {v : V} {d : Dt} (r : Rp K G v d) : Rps K G [v] [d] := .cons r .nil
theorem Rps.ints : ∀ {ns : List Int} {vs : List V}, Rps K G vs (ns.map PyData.int) → vs = ns.map V.int
  | [], _, h => by cases h; rfl
  | n :: ns, _, h => by
    cases h with
    | cons h1 h2 =>
      cases h1
      rw [Rps.ints h2]
      rfl
theorem Rps.of_ints : ∀ ns : List Int, Rps K G (ns.map V.int) (ns.map PyData.int)
  | [] => .nil
  | n :: ns => .cons (.int n) (Rps.of_ints ns)
theorem Rps.bools : ∀ {bs : List Bool} {vs : List V}, Rps K G vs (bs.map PyData.bool) → vs = bs.map V.bl
  | [], _, h => by cases h; rfl
  | n :: ns, _, h => by
    cases h with
    | cons h1 h2 =>
      cases h1
      rw [Rps.bools h2]
      rfl
theorem Rps.strs : ∀ {bs : List Str} {vs : List V}, Rps K G vs (bs.map PyData.str) → vs = bs.map V.str
  | [], _, h => by cases h; rfl
  | n :: ns, _, h => by
    cases h with
    | cons h1 h2 =>
      cases h1
      rw [Rps.strs h2]
      rfl
end
end G8
namespace G8
open PySem L2
/-! slots, outcomes, the invariant -/
inductive Sv where
  | d (x : Dt)
  | ls (r : Bool) (xs : List Dt)
  | dk (r : Bool) (kvs : List (Key × Dt))
  | dt (r : Bool) (kvs : List (List Key × Dt))
  | ex (k : Nat)
  | scr (ns : List Int)
def Sv.own : Sv → Bool
  | .ls _ _ => true
  | .dk _ _ => true
  | .dt _ _ => true
  | _ => false
def Sv.isRef : Sv → Bool
  | .ls r _ => r
  | .dk r _ => r
  | .dt r _ => r
  | _ => false
def Sv.mark (r : Bool) : Sv → Sv
  | .ls _ xs => .ls r xs
  | .dk _ xs => .dk r xs
  | .dt _ xs => .dt r xs
  | s => s
theorem own_mark (r : Bool) (s : Sv) : (s.mark r).own = s.own := by cases s <;> rfl
theorem ref_mark {r : Bool} {s : Sv} (h : s.own = true) : (s.mark r).isRef = r := by
  cases s <;> first | rfl | cases h
theorem own_of_ref {s : Sv} (h : s.isRef = true) : s.own = true := by
  cases s <;> first | rfl | cases h
abbrev Ev := List (Option Sv)
inductive Out (α : Type) where
  | ok (a : α) (ρ : Ev)
  | err (k : Nat) (ρ : Ev)
  | bad
abbrev M (α : Type) := Ev → Out α
/-- what an operand is: data, or the name in a slot -/
inductive Av where
  | d (x : Dt)
  | s (i : Nat)
/-- what a list expression gives: data, or a new list -/
inductive Rv where
  | d (x : Dt)
  | l (xs : List Dt)
  | k (kvs : List (Key × Dt))
  | t (kvs : List (List Key × Dt))
inductive Fl where
  | nx | bk | ct
  | rt (r : Rv)
def exO (C a : Addr) : HO := .ext fun h => ∃ (oe : Obj) (vs : Array Value), h.get? a = some oe ∧ Zc (.ref C) none oe ∧ oe.data = .fields vs
def RpK {κ : Type} (K : Fg) (G : Hp) : List (κ × V) → List (κ × Dt) → Prop := Paired fun p q => p.1 = q.1 ∧ Rp K G p.2 q.2
def RS (K : Fg) (C : Nat → Addr) (G H : Hp) (v : V) : Sv → Prop
  | .d x => Rp K G v x
  | .ls _ xs => ∃ p vs, v = .ref p ∧ H p = some (.lst vs) ∧ G p = none ∧ Rps K G vs xs
  | .dk _ kvs => ∃ p vs, v = .ref p ∧ H p = some (.dK vs) ∧ G p = none ∧ RpK K G vs kvs
  | .dt _ kvs => ∃ p vs, v = .ref p ∧ H p = some (.dT vs) ∧ G p = none ∧ RpK K G vs kvs
  | .ex k => ∃ a, v = .ref a ∧ G a = some (exO (C k) a)
  | .scr ns => ∃ a, v = .ref a ∧ SqL K G a (ns.map V.int)
structure Bs where
  K : Fg
  C : Nat → Addr
structure Fc where
  G0 : Hp
  H0 : Hp
  refs : List (Nat × Addr × Bool)
/-- all that is lent is marked so: a def's own body -/
def Fc.Fn (c : Fc) : Prop := ∀ i p f, (i, p, f) ∈ c.refs → f = true
structure SIG (b : Bs) (c : Fc) (G : Hp) (ρ : Ev) (σ : St) (H : Hp) : Prop where
  len : ρ.length = σ.length
  g0 : Same c.G0 G
  gh : Same G H
  fr : ∀ a o, c.H0 a = some o → (∀ i f, (i, a, f) ∉ c.refs) → H a = some o
  gn : ∀ a o, G a = some o → c.G0 a = some o ∨ c.H0 a = none
  sl : ∀ (i : Nat) (sv : Sv), ρ[i]? = some (some sv) → ∃ v, σ[i]? = some (some v) ∧ RS b.K b.C G H v sv
  sp : ∀ (i j : Nat) (si sj : Sv) (p : Addr), ρ[i]? = some (some si) → ρ[j]? = some (some sj) → si.own = true → sj.own = true → σ[i]? = some (some (.ref p)) → σ[j]? = some (some (.ref p)) → i = j
  nw : ∀ (i : Nat) (si : Sv) (p : Addr), ρ[i]? = some (some si) → si.own = true → σ[i]? = some (some (.ref p)) → c.H0 p = none ∨ ∃ f, (i, p, f) ∈ c.refs
  rf : ∀ (i : Nat) (p : Addr) (f : Bool), (i, p, f) ∈ c.refs → σ[i]? = some (some (.ref p)) ∧ ∃ sv, ρ[i]? = some (some sv) ∧ sv.own = true ∧ sv.isRef = f
theorem RS.at {K : Fg} {C : Nat → Addr} {G H : Hp} {v : V} {sv : Sv} (h : RS K C G H v sv) (ho : sv.own = true) : ∃ p o, v = .ref p ∧ H p = some o ∧ G p = none := by
  cases sv with
  | ls r xs => obtain ⟨p, vs, e, h1, h2, _⟩ := h; exact ⟨p, _, e, h1, h2⟩
  | dk r xs => obtain ⟨p, vs, e, h1, h2, _⟩ := h; exact ⟨p, _, e, h1, h2⟩
  | dt r xs => obtain ⟨p, vs, e, h1, h2, _⟩ := h; exact ⟨p, _, e, h1, h2⟩
  | _ => cases ho
theorem RpK.mono {κ : Type} {K : Fg} {G G' : Hp} {vs : List (κ × V)} {ds : List (κ × Dt)} (e : Same G G') (h : RpK K G vs ds) : RpK K G' vs ds :=
  Paired.mapP h fun _ _ z => ⟨z.1, Rp.mono e _ _ z.2⟩
/-- a slot stays over a greater ground, where its own object is kept -/
theorem RS.keep {K : Fg} {C : Nat → Addr} {G G' H H' : Hp} {v : V} {sv : Sv} (h : RS K C G H v sv) (e : Same G G') (k : ∀ p o, sv.own = true → v = .ref p → H p = some o → H' p = some o ∧ G' p = none) : RS K C G' H' v sv := by
  cases sv with
  | d x => exact Rp.mono e _ _ h
  | ls r xs => obtain ⟨p, vs, q, h1, h2, h3⟩ := h; exact ⟨p, vs, q, (k p _ rfl q h1).1, (k p _ rfl q h1).2, Rps.mono e _ _ h3⟩
  | dk r xs => obtain ⟨p, vs, q, h1, h2, h3⟩ := h; exact ⟨p, vs, q, (k p _ rfl q h1).1, (k p _ rfl q h1).2, h3.mono e⟩
  | dt r xs => obtain ⟨p, vs, q, h1, h2, h3⟩ := h; exact ⟨p, vs, q, (k p _ rfl q h1).1, (k p _ rfl q h1).2, h3.mono e⟩
  | ex k => obtain ⟨a, q, h1⟩ := h; exact ⟨a, q, e _ _ h1⟩
  | scr ns => obtain ⟨a, q, h1⟩ := h; exact ⟨a, q, e.seq h1⟩
theorem RS.mark {K : Fg} {C : Nat → Addr} {G H : Hp} {v : V} {sv : Sv} (h : RS K C G H v sv) (r : Bool) : RS K C G H v (sv.mark r) := by
  cases sv <;> exact h
section
variable {b : Bs} {c : Fc} {G H : Hp} {ρ : Ev} {σ : St}
/-- a new object of no slot, laid into the heap alone -/
theorem SIG.alloc (S : SIG b c G ρ σ H) {p : Addr} {o : HO} (hp : H p = none) : SIG b c G ρ σ (upd H p o) := by
  have k : ∀ a u, H a = some u → upd H p o a = some u := fun a u e => by rw [upd_ne (ne_of_none e hp)]; exact e
  refine ⟨S.len, S.g0, fun a u e => k a u (S.gh a u e), fun a u e n => k a u (S.fr a u e n), S.gn, fun i sv e => ?_, S.sp, S.nw, S.rf⟩
  obtain ⟨v, hv, r⟩ := S.sl i sv e
  exact ⟨v, hv, r.keep (Same.refl G) fun q u ho ev hq => ⟨k q u hq, by obtain ⟨q', _, e', _, g'⟩ := r.at ho; rw [ev] at e'; cases e'; exact g'⟩⟩
/-- the address p is no slot's own -/
def NoOwn (ρ : Ev) (σ : St) (p : Addr) : Prop := ∀ (i : Nat) (sv : Sv), ρ[i]? = some (some sv) → sv.own = true → σ[i]? ≠ some (some (.ref p))
theorem SIG.noOwn (S : SIG b c G ρ σ H) {p : Addr} (hp : H p = none) : NoOwn ρ σ p := fun i sv e ho q => by
  obtain ⟨v, hv, r⟩ := S.sl i sv e
  obtain ⟨q', u, e', h', _⟩ := r.at ho
  rw [hv, e'] at q
  cases q
  rw [hp] at h'
  cases h'
theorem SIG.fresh0 (S : SIG b c G ρ σ H) {p : Addr} (hp : H p = none) : c.H0 p = none := by
  cases q : c.H0 p with
  | none => rfl
  | some o =>
    by_cases hr : ∃ i f, (i, p, f) ∈ c.refs
    · obtain ⟨i, f, hi⟩ := hr
      obtain ⟨h1, sv, h2, h3, _⟩ := S.rf i p f hi
      exact absurd h1 (S.noOwn hp i sv h2 h3)
    · have := S.fr p o q fun i f hi => hr ⟨i, f, hi⟩
      rw [hp] at this
      cases this
/-- an object of the heap that is no slot's own comes to the ground -/
theorem SIG.freeze (S : SIG b c G ρ σ H) {p : Addr} {o : HO} (hp : H p = some o) (hg : G p = none) (h0 : c.H0 p = none) (no : NoOwn ρ σ p) : Same G (upd G p o) ∧ SIG b c (upd G p o) ρ σ H := by
  have s1 : Same G (upd G p o) := fun a u e => by rw [upd_ne (ne_of_none e hg)]; exact e
  refine ⟨s1, S.len, S.g0.trans s1, fun a u e => ?_, S.fr, fun a u e => ?_, fun i sv e => ?_, S.sp, S.nw, S.rf⟩
  · by_cases ha : a = p
    · subst ha
      rw [upd_same] at e
      cases e
      exact hp
    · rw [upd_ne ha] at e
      exact S.gh a u e
  · by_cases ha : a = p
    · subst ha
      exact .inr h0
    · rw [upd_ne ha] at e
      exact S.gn a u e
  · obtain ⟨v, hv, r⟩ := S.sl i sv e
    refine ⟨v, hv, r.keep s1 fun q u ho ev hq => ⟨hq, ?_⟩⟩
    have hne : q ≠ p := fun z => no i sv e ho (by rw [hv, ev, z])
    obtain ⟨q', _, e', _, g'⟩ := r.at ho
    rw [ev] at e'
    cases e'
    rw [upd_ne hne]
    exact g'
/-- a new frozen object -/
theorem SIG.lay (S : SIG b c G ρ σ H) {p : Addr} {o : HO} (hp : H p = none) : Same G (upd G p o) ∧ SIG b c (upd G p o) ρ σ (upd H p o) := by
  have hg : G p = none := S.gh.free hp
  have n := S.noOwn hp
  exact (S.alloc (o := o) hp).freeze upd_same hg (S.fresh0 hp) n
theorem getElem?_set_eq' {α : Type} (l : List α) (i j : Nat) (x : α) : (l.set i x)[j]? = if i = j then (if i < l.length then some x else none) else l[j]? := by
  rw [List.getElem?_set]
/-- the slot i may be stored to -/
def Open (c : Fc) (ρ : Ev) (i : Nat) : Prop := ∀ s, ρ[i]? = some (some s) → s.own = false ∨ (c.Fn ∧ s.isRef = false)
theorem SIG.noRef (S : SIG b c G ρ σ H) {i : Nat} (hr : Open c ρ i) : ∀ p f, (i, p, f) ∉ c.refs := fun p f hp => by
  obtain ⟨_, s, h1, h2, h3⟩ := S.rf i p f hp
  rcases hr s h1 with z | ⟨z, y⟩
  · rw [h2] at z; cases z
  · rw [h3, z i p f hp] at y; cases y
/-- a slot is set -/
theorem SIG.set (S : SIG b c G ρ σ H) {i : Nat} {v : V} {sv : Sv} (r : RS b.K b.C G H v sv) (hr : Open c ρ i)
    (ho : ∀ p, v = .ref p → sv.own = true → NoOwn ρ σ p ∧ c.H0 p = none) : SIG b c G (ρ.set i (some sv)) (σ.set i (some v)) H := by
  have nr : ∀ p f, (i, p, f) ∉ c.refs := S.noRef hr
  refine ⟨by rw [List.length_set, List.length_set]; exact S.len, S.g0, S.gh, S.fr, S.gn, fun j s e => ?_, fun j k sj sk p e1 e2 o1 o2 a1 a2 => ?_, fun j s p e o1 a1 => ?_, fun j p f hj => ?_⟩
  · by_cases hj : i = j
    · subst hj
      rw [getElem?_set_eq', if_pos rfl] at e
      split at e
      · rename_i hl
        cases e
        exact ⟨v, by rw [getElem?_set_eq', if_pos rfl, if_pos (by rw [← S.len]; exact hl)], r⟩
      · cases e
    · rw [List.getElem?_set_ne hj] at e
      obtain ⟨u, hu, q⟩ := S.sl j s e
      exact ⟨u, by rw [List.getElem?_set_ne hj]; exact hu, q⟩
  · by_cases hj : i = j
    · by_cases hk : i = k
      · rw [← hj, ← hk]
      · subst hj
        rw [getElem?_set_eq', if_pos rfl] at e1 a1
        rw [List.getElem?_set_ne hk] at e2 a2
        split at e1
        · cases e1
          split at a1
          · cases a1
            exact absurd a2 ((ho p rfl o1).1 k sk e2 o2)
          · cases a1
        · cases e1
    · by_cases hk : i = k
      · subst hk
        rw [getElem?_set_eq', if_pos rfl] at e2 a2
        rw [List.getElem?_set_ne hj] at e1 a1
        split at e2
        · cases e2
          split at a2
          · cases a2
            exact absurd a1 ((ho p rfl o2).1 j sj e1 o1)
          · cases a2
        · cases e2
      · rw [List.getElem?_set_ne hj] at e1 a1
        rw [List.getElem?_set_ne hk] at e2 a2
        exact S.sp j k sj sk p e1 e2 o1 o2 a1 a2
  · by_cases hj : i = j
    · subst hj
      rw [getElem?_set_eq', if_pos rfl] at e a1
      split at e
      · cases e
        split at a1
        · cases a1
          exact .inl (ho p rfl o1).2
        · cases a1
      · cases e
    · rw [List.getElem?_set_ne hj] at e a1
      exact S.nw j s p e o1 a1
  · have hj' : i ≠ j := fun z => nr p f (z ▸ hj)
    obtain ⟨h1, s, h2, h3⟩ := S.rf j p f hj
    exact ⟨by rw [List.getElem?_set_ne hj']; exact h1, s, by rw [List.getElem?_set_ne hj']; exact h2, h3⟩
/-- a slot is forgotten -/
theorem SIG.drop (S : SIG b c G ρ σ H) {i : Nat} (hr : Open c ρ i) (w : Option V) : SIG b c G (ρ.set i none) (σ.set i w) H := by
  have nr : ∀ p f, (i, p, f) ∉ c.refs := S.noRef hr
  have ne : ∀ {j s}, (ρ.set i none)[j]? = some (some s) → i ≠ j := fun {j s} e z => by
    subst z
    rw [getElem?_set_eq', if_pos rfl] at e
    split at e <;> cases e
  refine ⟨by rw [List.length_set, List.length_set]; exact S.len, S.g0, S.gh, S.fr, S.gn, fun j s e => ?_, fun j k sj sk p e1 e2 o1 o2 a1 a2 => ?_, fun j s p e o1 a1 => ?_, fun j p f hj => ?_⟩
  · have hj := ne e
    rw [List.getElem?_set_ne hj] at e
    obtain ⟨u, hu, q⟩ := S.sl j s e
    exact ⟨u, by rw [List.getElem?_set_ne hj]; exact hu, q⟩
  · have hj := ne e1
    have hk := ne e2
    rw [List.getElem?_set_ne hj] at e1 a1
    rw [List.getElem?_set_ne hk] at e2 a2
    exact S.sp j k sj sk p e1 e2 o1 o2 a1 a2
  · have hj := ne e
    rw [List.getElem?_set_ne hj] at e a1
    exact S.nw j s p e o1 a1
  · have hj' : i ≠ j := fun z => nr p f (z ▸ hj)
    obtain ⟨h1, s, h2, h3⟩ := S.rf j p f hj
    exact ⟨by rw [List.getElem?_set_ne hj']; exact h1, s, by rw [List.getElem?_set_ne hj']; exact h2, h3⟩
/-- a slot's own object is changed -/
theorem SIG.mut (S : SIG b c G ρ σ H) {i : Nat} {p : Addr} {o : HO} {sv sv' : Sv} (e : ρ[i]? = some (some sv)) (ho : sv.own = true) (hp : σ[i]? = some (some (.ref p))) (hr : sv'.isRef = sv.isRef) (ho' : sv'.own = true)
    (r : RS b.K b.C G (upd H p o) (.ref p) sv') : SIG b c G (ρ.set i (some sv')) σ (upd H p o) := by
  have hil : i < ρ.length := (List.getElem?_eq_some_iff.mp e).1
  have gp : G p = none := by
    obtain ⟨v, hv, q⟩ := S.sl i sv e
    obtain ⟨p', _, e', _, g'⟩ := q.at ho
    rw [hp] at hv
    cases hv
    cases e'
    exact g'
  have get : ∀ {j s}, (ρ.set i (some sv'))[j]? = some (some s) → (j = i ∧ s = sv') ∨ (i ≠ j ∧ ρ[j]? = some (some s)) := fun {j s} q => by
    by_cases hj : i = j
    · subst hj
      rw [getElem?_set_eq', if_pos rfl, if_pos hil] at q
      cases q
      exact .inl ⟨rfl, rfl⟩
    · rw [List.getElem?_set_ne hj] at q
      exact .inr ⟨hj, q⟩
  refine ⟨by rw [List.length_set]; exact S.len, S.g0, fun a u q => ?_, fun a u q n => ?_, S.gn, fun j s q => ?_, fun j k sj sk a q1 q2 o1 o2 a1 a2 => ?_, fun j s a q o1 a1 => ?_, fun j a f hj => ?_⟩
  · rw [upd_ne (ne_of_none q gp)]
    exact S.gh a u q
  · have hne : a ≠ p := fun z => by
      subst z
      rcases S.nw i sv a e ho hp with z | z
      · rw [q] at z
        cases z
      · obtain ⟨f, z⟩ := z
        exact n i f z
    rw [upd_ne hne]
    exact S.fr a u q n
  · rcases get q with ⟨rfl, rfl⟩ | ⟨hj, q⟩
    · exact ⟨.ref p, hp, r⟩
    · obtain ⟨v, hv, z⟩ := S.sl j s q
      refine ⟨v, hv, z.keep (Same.refl G) fun a u oo ev ha => ?_⟩
      have hne : a ≠ p := fun y => hj (S.sp i j sv s p e q ho oo hp (by rw [hv, ev, y]))
      obtain ⟨q', _, e', _, g'⟩ := z.at oo
      rw [ev] at e'
      cases e'
      exact ⟨by rw [upd_ne hne]; exact ha, g'⟩
  · rcases get q1 with ⟨z1, w1⟩ | ⟨hj, y1⟩
    · rcases get q2 with ⟨z2, w2⟩ | ⟨hk, y2⟩
      · rw [z1, z2]
      · rw [z1] at a1 ⊢
        exact S.sp i k sv sk a e y2 ho o2 a1 a2
    · rcases get q2 with ⟨z2, w2⟩ | ⟨hk, y2⟩
      · rw [z2] at a2 ⊢
        exact S.sp j i sj sv a y1 e o1 ho a1 a2
      · exact S.sp j k sj sk a y1 y2 o1 o2 a1 a2
  · rcases get q with ⟨rfl, rfl⟩ | ⟨hj, q⟩
    · exact S.nw _ sv a e ho a1
    · exact S.nw j s a q o1 a1
  · obtain ⟨h1, s, h2, h3⟩ := S.rf j a f hj
    by_cases z : i = j
    · subst z
      rw [e] at h2
      cases h2
      exact ⟨h1, sv', by rw [getElem?_set_eq', if_pos rfl, if_pos hil], ho', by rw [hr]; exact h3.2⟩
    · exact ⟨h1, s, by rw [List.getElem?_set_ne z]; exact h2, h3⟩
/-- a slot's own list comes to the ground -/
theorem SIG.share (S : SIG b c G ρ σ H) (hb : c.Fn) {i : Nat} {xs : List Dt} (e : ρ[i]? = some (some (.ls false xs))) : ∃ G', Same G G' ∧ SIG b c G' (ρ.set i (some (.d (.list xs)))) σ H := by
  obtain ⟨v, hv, p, vs, rfl, hp, gp, rs⟩ := S.sl i _ e
  have op : Open c ρ i := fun s q => by rw [e] at q; cases q; exact .inr ⟨hb, rfl⟩
  have h0 : c.H0 p = none := by
    rcases S.nw i _ p e rfl hv with z | z
    · exact z
    · obtain ⟨f, z⟩ := z
      exact absurd z (S.noRef op p f)
  have D := S.drop (i := i) op (some (.ref p))
  have es : σ.set i (some (.ref p)) = σ := by
    apply List.ext_getElem?
    intro j
    by_cases hj : i = j
    · subst hj
      rw [getElem?_set_eq', if_pos rfl, if_pos (List.getElem?_eq_some_iff.mp hv).1, hv]
    · rw [List.getElem?_set_ne hj]
  rw [es] at D
  have no : NoOwn (ρ.set i none) σ p := fun j s q o1 a1 => by
    have hj : i ≠ j := fun z => by
      subst z
      rw [getElem?_set_eq', if_pos rfl] at q
      split at q <;> cases q
    rw [List.getElem?_set_ne hj] at q
    exact hj (S.sp i j _ s p e q rfl o1 hv a1)
  obtain ⟨s1, D2⟩ := D.freeze hp gp h0 no
  refine ⟨_, s1, ?_⟩
  have D3 := D2.set (i := i) (v := .ref p) (sv := .d (.list xs)) (.lst upd_same (Rps.mono s1 _ _ rs)) (fun s q => by
    rw [getElem?_set_eq', if_pos rfl] at q
    split at q <;> cases q) (fun q _ z => by cases z)
  rw [List.set_set, es] at D3
  exact D3
end
end G8
namespace G8
open PySem L2
/-! judgements -/
def bindM {α β : Type} (f : M α) (g : α → M β) : M β := fun ρ => match f ρ with
  | .ok a ρ' => g a ρ'
  | .err k ρ' => .err k ρ'
  | .bad => .bad
def retM {α : Type} (a : α) : M α := fun ρ => .ok a ρ
def badM {α : Type} : M α := fun _ => .bad
def optM {α : Type} (g : Ev → Option α) : M α := fun ρ => match g ρ with
  | some a => .ok a ρ
  | none => .bad
def slotD : Option (Option Sv) → Option Dt
  | some (some (.d x)) => some x
  | some (some (.ls _ xs)) => some (.list xs)
  | _ => none
def slotZ : Option (Option Sv) → Option Dt
  | some (some (.d x)) => some x
  | _ => none
def res (ρ : Ev) : Av → Option Dt
  | .d x => some x
  | .s i => slotD ρ[i]?
def fzv (ρ : Ev) : Av → Option Dt
  | .d x => some x
  | .s i => slotZ ρ[i]?
def RA (K : Fg) (G : Hp) (σ : St) (v : V) : Av → Prop
  | .d x => Rp K G v x
  | .s i => σ[i]? = some (some v)
theorem RA.mono {K : Fg} {G G' : Hp} {σ : St} {v : V} {a : Av} (e : Same G G') (h : RA K G σ v a) : RA K G' σ v a := by
  cases a with
  | d x => exact Rp.mono e _ _ h
  | s i => exact h
/-- readable: frozen, or a list of the heap whose items are -/
def RO (K : Fg) (G H : Hp) (v : V) (x : Dt) : Prop := Rp K G v x ∨ ∃ p vs xs, v = .ref p ∧ x = .list xs ∧ H p = some (.lst vs) ∧ Rps K G vs xs
theorem RO.dp {K : Fg} {G H : Hp} {v : V} {x : Dt} (e : Same G H) (h : RO K G H v x) : Dp K H v x := by
  rcases h with h | ⟨p, vs, xs, rfl, rfl, h1, h2⟩
  · exact Rp.dp _ _ (Rp.mono e _ _ h)
  · exact .lst (SqL.of h1) (Rps.dp _ _ (Rps.mono e _ _ h2))
theorem RO.list {K : Fg} {G H : Hp} {v : V} {xs : List Dt} (e : Same G H) (h : RO K G H v (.list xs)) : ∃ p vs, v = .ref p ∧ H p = some (.lst vs) ∧ Rps K G vs xs := by
  rcases h with h | ⟨p, vs, ys, rfl, q, h1, h2⟩
  · cases h with
    | lst h1 h2 => exact ⟨_, _, rfl, e _ _ h1, h2⟩
  · cases q
    exact ⟨p, vs, rfl, h1, h2⟩
theorem RO.tup {K : Fg} {G H : Hp} {v : V} {xs : List Dt} (h : RO K G H v (.tuple xs)) : ∃ p vs, v = .ref p ∧ SqT K G p vs ∧ Rps K G vs xs := by
  rcases h with h | ⟨p, vs, ys, rfl, q, h1, h2⟩
  · cases h with
    | tup h1 h2 => exact ⟨_, _, rfl, h1, h2⟩
  · cases q
theorem RO.int {K : Fg} {G H : Hp} {v : V} {i : Int} (h : RO K G H v (.int i)) : v = .int i := by
  rcases h with h | ⟨p, vs, ys, rfl, q, h1, h2⟩
  · cases h; rfl
  · cases q
theorem RO.bool {K : Fg} {G H : Hp} {v : V} {i : Bool} (h : RO K G H v (.bool i)) : v = .bl i := by
  rcases h with h | ⟨p, vs, ys, rfl, q, h1, h2⟩
  · cases h; rfl
  · cases q
theorem RO.str {K : Fg} {G H : Hp} {v : V} {i : Str} (h : RO K G H v (.str i)) : v = .str i := by
  rcases h with h | ⟨p, vs, ys, rfl, q, h1, h2⟩
  · cases h; rfl
  · cases q
theorem RO.none {K : Fg} {G H : Hp} {v : V} (h : RO K G H v .none) : v = .non := by
  rcases h with h | ⟨p, vs, ys, rfl, q, h1, h2⟩
  · cases h; rfl
  · cases q
theorem RA.res {b : Bs} {c : Fc} {G H : Hp} {ρ : Ev} {σ : St} {v : V} {a : Av} {x : Dt} (S : SIG b c G ρ σ H) (h : RA b.K G σ v a) (e : res ρ a = some x) : RO b.K G H v x := by
  cases a with
  | d y => cases e; exact .inl h
  | s i =>
    have e : slotD ρ[i]? = some x := e
    unfold slotD at e
    split at e
    · rename_i y q
      cases e
      obtain ⟨u, hu, r⟩ := S.sl i _ q
      rw [show σ[i]? = some (some v) from h] at hu
      cases hu
      exact .inl r
    · rename_i b ys q
      cases e
      obtain ⟨u, hu, p, vs, r1, r2, r3, r4⟩ := S.sl i _ q
      rw [show σ[i]? = some (some v) from h] at hu
      cases hu
      exact .inr ⟨p, vs, ys, r1, rfl, r2, r4⟩
    · cases e
theorem RA.fz {b : Bs} {c : Fc} {G H : Hp} {ρ : Ev} {σ : St} {v : V} {a : Av} {x : Dt} (S : SIG b c G ρ σ H) (h : RA b.K G σ v a) (e : fzv ρ a = some x) : Rp b.K G v x := by
  cases a with
  | d y => cases e; exact h
  | s i =>
    have e : slotZ ρ[i]? = some x := e
    unfold slotZ at e
    split at e
    · rename_i y q
      cases e
      obtain ⟨u, hu, r⟩ := S.sl i _ q
      rw [show σ[i]? = some (some v) from h] at hu
      cases hu
      exact r
    · cases e
def Post {α : Type} (b : Bs) (c : Fc) (W : WX) (G : Hp) (σ : St) (P : α → Ev → Hp → Hp → Prop) : Out α → Prop
  | .ok a ρ => ∀ H' G', Same G G' → SIG b c G' ρ σ H' → P a ρ G' H'
  | .err k ρ => ∀ H' G', Same G G' → SIG b c G' ρ σ H' → W (.ref (b.C k)) none σ H'
  | .bad => False
section
variable {α β : Type} {b : Bs} {c : Fc} {W : WX} {G G' H : Hp} {σ : St} {ρ : Ev} {P P' : α → Ev → Hp → Hp → Prop}
theorem Post.mono {o : Out α} (e : Same G G') (h : Post b c W G σ P o) : Post b c W G' σ P o := by
  cases o with
  | ok a ρ => exact fun H1 G1 e1 S1 => h H1 G1 (e.trans e1) S1
  | err k ρ => exact fun H1 G1 e1 S1 => h H1 G1 (e.trans e1) S1
  | bad => exact h
theorem Post.imp {o : Out α} (h : Post b c W G σ P o) (w : ∀ a ρ1 G1 H1, Same G G1 → SIG b c G1 ρ1 σ H1 → P a ρ1 G1 H1 → P' a ρ1 G1 H1) : Post b c W G σ P' o := by
  cases o with
  | ok a ρ => exact fun H1 G1 e1 S1 => w a ρ G1 H1 e1 S1 (h H1 G1 e1 S1)
  | err k ρ => exact h
  | bad => exact h
theorem Post.bind {f : M β} {g : β → M α} (h : Post b c W G σ P (bindM f g ρ)) : Post b c W G σ (fun z ρ1 G1 _ => Post b c W G1 σ P (g z ρ1)) (f ρ) := by
  unfold bindM at h
  cases e : f ρ with
  | ok z ρ1 =>
    rw [e] at h
    exact fun H1 G1 e1 S1 => Post.mono e1 h
  | err k ρ1 =>
    rw [e] at h
    exact h
  | bad =>
    rw [e] at h
    exact h
theorem Post.opt {g : Ev → Option α} (h : Post b c W G σ P (optM g ρ)) (S : SIG b c G ρ σ H) : ∃ a, g ρ = some a ∧ P a ρ G H := by
  unfold optM at h
  cases e : g ρ with
  | some a =>
    rw [e] at h
    exact ⟨a, rfl, h H G (Same.refl G) S⟩
  | none =>
    rw [e] at h
    exact h.elim
theorem Post.ret {a : α} (h : Post b c W G σ P (retM a ρ)) (S : SIG b c G ρ σ H) : P a ρ G H := h H G (Same.refl G) S
end
/-- what a new list, a new dict, or data is -/
def Rv.new : Rv → Bool
  | .d _ => false
  | _ => true
def RN (b : Bs) (c : Fc) (G H : Hp) (v : V) : Rv → Prop
  | .d x => Rp b.K G v x
  | .l xs => ∃ p vs, v = .ref p ∧ H p = some (.lst vs) ∧ G p = none ∧ Rps b.K G vs xs ∧ c.H0 p = none
  | .k kvs => ∃ p vs, v = .ref p ∧ H p = some (.dK vs) ∧ G p = none ∧ RpK b.K G vs kvs ∧ c.H0 p = none
  | .t kvs => ∃ p vs, v = .ref p ∧ H p = some (.dT vs) ∧ G p = none ∧ RpK b.K G vs kvs ∧ c.H0 p = none
def Apart (ρ : Ev) (σ : St) (v : V) (r : Rv) : Prop := ∀ p, v = .ref p → r.new = true → NoOwn ρ σ p
def tE (b : Bs) (W : WX) (f : M Av) : TE := fun σ H Q => ∃ c G ρ, SIG b c G ρ σ H ∧ Post b c W G σ (fun a _ G' H' => ∀ v, RA b.K G' σ v a → Q v H') (f ρ)
def tV (b : Bs) (W : WX) (f : M Rv) : TE := fun σ H Q => ∃ c G ρ, SIG b c G ρ σ H ∧ Post b c W G σ (fun r ρ' G' H' => ∀ v, RN b c G' H' v r → Apart ρ' σ v r → Q v H') (f ρ)
def tT (b : Bs) (W : WX) (f : M Bool) : TT := fun σ H Q => ∃ c G ρ, SIG b c G ρ σ H ∧ Post b c W G σ (fun b _ _ H' => Q b H') (f ρ)
def Ras (K : Fg) (G : Hp) (σ : St) : List V → List Av → Prop := Paired (RA K G σ)
def tL (b : Bs) (W : WX) (f : M (List Av)) : TA := fun σ H Q => ∃ c G ρ, SIG b c G ρ σ H ∧ Post b c W G σ (fun as _ G' H' => ∀ vs, Ras b.K G' σ vs as → Q vs H') (f ρ)
def PostS (b : Bs) (c : Fc) (W : WX) (G : Hp) (D : Ends) : Out Fl → Prop
  | .ok .nx ρ => ∀ σ H' G', Same G G' → SIG b c G' ρ σ H' → D.nx σ H'
  | .ok .bk ρ => ∀ σ H' G', Same G G' → SIG b c G' ρ σ H' → D.bk σ H'
  | .ok .ct ρ => ∀ σ H' G', Same G G' → SIG b c G' ρ σ H' → D.ct σ H'
  | .ok (.rt r) ρ => ∀ v σ H' G', Same G G' → SIG b c G' ρ σ H' → RN b c G' H' v r → D.rt v H'
  | .err k ρ => ∀ σ H' G', Same G G' → SIG b c G' ρ σ H' → W (.ref (b.C k)) none σ H'
  | .bad => False
def tS (b : Bs) (W : WX) (f : M Fl) : TS := fun D σ H => ∃ c G ρ, c.Fn ∧ SIG b c G ρ σ H ∧ PostS b c W G D (f ρ)
theorem PostS.mono {b : Bs} {c : Fc} {W : WX} {G G' : Hp} {D : Ends} {o : Out Fl} (e : Same G G') (h : PostS b c W G D o) : PostS b c W G' D o := by
  cases o with
  | ok a ρ =>
    cases a with
    | nx => exact fun σ H1 G1 e1 S1 => h σ H1 G1 (e.trans e1) S1
    | bk => exact fun σ H1 G1 e1 S1 => h σ H1 G1 (e.trans e1) S1
    | ct => exact fun σ H1 G1 e1 S1 => h σ H1 G1 (e.trans e1) S1
    | rt r => exact fun v σ H1 G1 e1 S1 => h v σ H1 G1 (e.trans e1) S1
  | err k ρ => exact fun σ H1 G1 e1 S1 => h σ H1 G1 (e.trans e1) S1
  | bad => exact h
section
variable {X : Cx} {e : Expr}
theorem weakE {t t' : TE} (h : PE X e t) (w : ∀ σ H Q, t' σ H Q → t σ H Q) : PE X e t' := ⟨fun pins s σ H Q I q => h.run pins s σ H Q I (w σ H Q q)⟩
theorem weakT {t t' : TT} (h : PT X e t) (w : ∀ σ H Q, t' σ H Q → t σ H Q) : PT X e t' := ⟨fun pins s σ H Q I q => h.run pins s σ H Q I (w σ H Q q)⟩
theorem weakW {t t' : TT} (h : PW X e t) (w : ∀ σ H Q, t' σ H Q → t σ H Q) : PW X e t' := ⟨fun wh pins s σ H Q I q => h.run wh pins s σ H Q I (w σ H Q q)⟩
theorem weakA {es : List Expr} {t t' : TA} (h : PA X es t) (w : ∀ σ H Q, t' σ H Q → t σ H Q) : PA X es t' := ⟨fun p pins s σ H Q I q => h.run p pins s σ H Q I (w σ H Q q)⟩
theorem weakS {st : Stmt} {t t' : TS} (h : PS X st t) (w : ∀ D σ H, t' D σ H → t D σ H) : PS X st t' := ⟨fun pins s σ H D I q => h.run pins s σ H D I (w D σ H q)⟩
theorem weakB {st : List Stmt} {t t' : TS} (h : PSs X st t) (w : ∀ D σ H, t' D σ H → t D σ H) : PSs X st t' := ⟨fun pins s σ H D I q => h.run pins s σ H D I (w D σ H q)⟩
end
/-! names, constants, conversions -/
def varM (i : Nat) : M Av := fun ρ => match ρ[i]? with
  | some (some _) => .ok (.s i) ρ
  | _ => .bad
def frzM (f : M Rv) : M Av := bindM f fun r => match r with
  | .d x => retM (.d x)
  | .l xs => retM (.d (.list xs))
  | _ => badM
def dataM (f : M Av) : M Rv := bindM f fun a => optM fun ρ => (fzv ρ a).map Rv.d
section
variable {X : Cx} {b : Bs} {W : WX} {e : Expr} {f : M Av}
theorem m_var (i : Nat) {x : Str} {pos : Pos} (h : PE X (.Name x pos) (tVar i)) : PE X (.Name x pos) (tE b W (varM i)) := weakE h fun σ H Q ⟨c, G, ρ, S, q⟩ => by
  unfold varM at q
  split at q
  · rename_i sv hs
    obtain ⟨v, hv, _⟩ := S.sl i sv hs
    exact ⟨v, hv, q H G (Same.refl G) S v hv⟩
  · exact q.elim
theorem m_const {v : V} {x : Dt} (h : PE X e (tC v)) (r : ∀ K G, Rp K G v x) : PE X e (tE b W (retM (.d x))) := weakE h fun σ H Q ⟨c, G, ρ, S, q⟩ => q.ret S v (r _ _)
theorem m_int {i j pos} : PE X (.Constant (.int i) j pos) (tE b W (retM (.d (.int i)))) := m_const pe_int fun _ _ => .int i
theorem m_bl {i j pos} : PE X (.Constant (.bool i) j pos) (tE b W (retM (.d (.bool i)))) := m_const pe_bl fun _ _ => .bl i
theorem m_non {j pos} : PE X (.Constant .none j pos) (tE b W (retM (.d .none))) := m_const pe_non fun _ _ => .non
theorem m_str {i j pos} : PE X (.Constant (.str i) j pos) (tE b W (retM (.d (.str i)))) := m_const pe_str fun _ _ => .str i
theorem m_frz {f : M Rv} (h : PE X e (tV b W f)) : PE X e (tE b W (frzM f)) := weakE h fun σ H Q ⟨c, G, ρ, S, q⟩ => by
  refine ⟨c, G, ρ, S, (Post.bind q).imp fun r ρ1 G1 H1 e1 S1 q1 v hv ap => ?_⟩
  cases r with
  | d x => exact q1.ret S1 v hv
  | l xs =>
    obtain ⟨p, vs, rfl, h1, h2, h3, h4⟩ := hv
    obtain ⟨e2, S2⟩ := S1.freeze h1 h2 h4 (ap p rfl rfl)
    exact q1 H1 _ e2 S2 (.ref p) (.lst upd_same (Rps.mono e2 _ _ h3))
  | k kvs => exact q1.elim
  | t kvs => exact q1.elim
theorem m_data (h : PE X e (tE b W f)) : PE X e (tV b W (dataM f)) := weakE h fun σ H Q ⟨c, G, ρ, S, q⟩ => by
  refine ⟨c, G, ρ, S, (Post.bind q).imp fun a ρ1 G1 H1 e1 S1 q1 v hv => ?_⟩
  obtain ⟨r, h1, h2⟩ := q1.opt S1
  cases h : fzv ρ1 a with
  | none => rw [h] at h1; cases h1
  | some x =>
    rw [h] at h1
    cases h1
    exact h2 v (hv.fz S1 h) fun p _ z => by cases z
end
/-! operators: two operands, one -/
def bin2 (g : Dt → Dt → Option Rv) (fa fb : M Av) : M Rv := bindM fa fun a => bindM fb fun b => optM fun ρ => (res ρ a).bind fun x => (res ρ b).bind fun y => g x y
def un1 (g : Dt → Option Rv) (fa : M Av) : M Rv := bindM fa fun a => optM fun ρ => (res ρ a).bind g
/-- a rule on values does what g says of data -/
def Does2 (b : Bs) (r : R2) (g : Dt → Dt → Option Rv) : Prop := ∀ {c : Fc} {G H : Hp} {ρ : Ev} {σ : St} {x y : V} {dx dy : Dt} {z : Rv} {Q : VK}, SIG b c G ρ σ H → RO b.K G H x dx → RO b.K G H y dy → g dx dy = some z →
  (∀ v H' G', Same G G' → SIG b c G' ρ σ H' → RN b c G' H' v z → Apart ρ σ v z → Q v H') → r x y H Q
def Does1 (b : Bs) (r : V → Hp → VK → Prop) (g : Dt → Option Rv) : Prop := ∀ {c : Fc} {G H : Hp} {ρ : Ev} {σ : St} {x : V} {dx : Dt} {z : Rv} {Q : VK}, SIG b c G ρ σ H → RO b.K G H x dx → g dx = some z →
  (∀ v H' G', Same G G' → SIG b c G' ρ σ H' → RN b c G' H' v z → Apart ρ σ v z → Q v H') → r x H Q
section
variable {X : Cx} {b : Bs} {W : WX} {a a2 e : Expr} {fa fb : M Av}
theorem bin_core {r : R2} {g : Dt → Dt → Option Rv} (dz : Does2 b r g) {σ : St} {H : Hp} {Q : VK} (h : tV b W (bin2 g fa fb) σ H Q) : tOp r (tE b W fa) (tE b W fb) σ H Q := by
  obtain ⟨c, G, ρ, S, q⟩ := h
  refine ⟨c, G, ρ, S, (Post.bind q).imp fun aa ρ1 G1 H1 e1 S1 q1 v hv => ⟨c, G1, ρ1, S1, (Post.bind q1).imp fun ab ρ2 G2 H2 e2 S2 q2 u hu => ?_⟩⟩
  obtain ⟨z, h1, h2⟩ : ∃ z, _ = some z ∧ ∀ v' H' G', Same G2 G' → SIG b c G' ρ2 σ H' → RN b c G' H' v' z → Apart ρ2 σ v' z → Q v' H' := by
    unfold optM at q2
    split at q2
    · rename_i z hz
      exact ⟨z, hz, fun v' H' G' ee SS rr ap => q2 H' G' ee SS v' rr ap⟩
    · exact q2.elim
  dsimp only at h1
  cases hx : res ρ2 aa with
  | none => rw [hx] at h1; cases h1
  | some x =>
    cases hy : res ρ2 ab with
    | none => rw [hx, hy] at h1; cases h1
    | some y =>
      rw [hx, hy] at h1
      exact dz S2 ((hv.mono e2).res S2 hx) (hu.res S2 hy) h1 h2
theorem un_core {r : V → Hp → VK → Prop} {g : Dt → Option Rv} (dz : Does1 b r g) {σ : St} {H : Hp} {Q : VK} (h : tV b W (un1 g fa) σ H Q) : tUn r (tE b W fa) σ H Q := by
  obtain ⟨c, G, ρ, S, q⟩ := h
  refine ⟨c, G, ρ, S, (Post.bind q).imp fun a ρ1 G1 H1 e1 S1 q1 v hv => ?_⟩
  unfold optM at q1
  split at q1
  · rename_i z hz
    dsimp only at hz
    cases hx : res ρ1 a with
    | none => rw [hx] at hz; cases hz
    | some x =>
      rw [hx] at hz
      exact dz S1 (hv.res S1 hx) hz fun v' H' G' ee SS rr ap => q1 H' G' ee SS v' rr ap
  · exact q1.elim
theorem m_op {op : Operator} {r : R2} {g : Dt → Dt → Option Rv} {pos : Pos} (ho : OpR X (binaryOp op) r) (dz : Does2 b r g) (ha : PE X a (tE b W fa)) (hb : PE X a2 (tE b W fb)) : PE X (.BinOp a op a2 pos) (tV b W (bin2 g fa fb)) :=
  weakE (pe_op ho ha hb) fun _ _ _ h => bin_core dz h
theorem m_cmp {op : CmpOp} {r : R2} {g : Dt → Dt → Option Rv} {pos : Pos} (ho : OpR X (compareOp op) r) (dz : Does2 b r g) (ha : PE X a (tE b W fa)) (hb : PE X a2 (tE b W fb)) (hm : behindInMarks op a2 = false) : PE X (.Compare a [op] [a2] pos) (tV b W (bin2 g fa fb)) :=
  weakE (pe_cmpR ho ha hb hm) fun _ _ _ h => bin_core dz h
theorem m_ix {r : R2} {g : Dt → Dt → Option Rv} {pos : Pos} (ho : IxR X r) (dz : Does2 b r g) (ha : PE X a (tE b W fa)) (hb : PE X a2 (tE b W fb)) (hs : PlainIx a2) : PE X (.Subscript a a2 pos) (tV b W (bin2 g fa fb)) :=
  weakE (pe_ix ho ha hb hs) fun _ _ _ h => bin_core dz h
theorem m_un {op : UnaryOp} {r : V → Hp → VK → Prop} {g : Dt → Option Rv} {pos : Pos} (ho : UnR X (unaryOp op) r) (dz : Does1 b r g) (ha : PE X a (tE b W fa)) : PE X (.UnaryOp op a pos) (tV b W (un1 g fa)) :=
  weakE (pe_un ho ha) fun _ _ _ h => un_core dz h
end
end G8
namespace G8
open PySem L2
/-! tests -/
def truth : Dt → Option Bool
  | .none => some false
  | .bool b => some b
  | .int i => some (i != 0)
  | .str x => if x.length ≤ 1000000 then some ((x.length : Int) != 0) else none
  | .list xs => some (!xs.isEmpty)
  | .tuple xs => some (!xs.isEmpty)
  | .dict _ => none
def slotT : Option (Option Sv) → Option Bool
  | some (some (.d x)) => truth x
  | some (some (.ls _ xs)) => some (!xs.isEmpty)
  | some (some (.scr ns)) => some (!ns.isEmpty)
  | _ => none
def tru (ρ : Ev) : Av → Option Bool
  | .d x => truth x
  | .s i => slotT ρ[i]?
def testM (fa : M Av) : M Bool := bindM fa fun a => optM fun ρ => tru ρ a
def andM (fa fb : M Bool) : M Bool := bindM fa fun b => match b with
  | true => fb
  | false => retM false
def orM (fa fb : M Bool) : M Bool := bindM fa fun b => match b with
  | true => retM true
  | false => fb
def notM (fa : M Bool) : M Bool := bindM fa fun b => retM (!b)
def andV (fa fb : M Av) : M Av := bindM fa fun a => bindM (optM fun ρ => tru ρ a) fun b => match b with
  | true => fb
  | false => retM a
def orV (fa fb : M Av) : M Av := bindM fa fun a => bindM (optM fun ρ => tru ρ a) fun b => match b with
  | true => retM a
  | false => fb
def notV (fa : M Av) : M Av := bindM (testM fa) fun b => retM (.d (.bool (!b)))
def ifM {α : Type} (ft : M Bool) (fa fb : M α) : M α := bindM ft fun b => match b with
  | true => fa
  | false => fb
theorem isEmpty_rps {K : Fg} {G : Hp} {vs : List V} {ds : List Dt} (h : Rps K G vs ds) : ds.isEmpty = vs.isEmpty := by
  have := h.length
  cases vs <;> cases ds <;> first | rfl | (simp at this)
theorem truth_of {K : Fg} {G H : Hp} {v : V} {x : Dt} {k : Bool} (e : Same G H) (h : RO K G H v x) (q : truth x = some k) : TruV K v H k := by
  cases x with
  | none => cases q; rw [h.none]; rfl
  | bool b => cases q; rw [h.bool]; rfl
  | int i => cases q; rw [h.int]; rfl
  | str y =>
    rw [h.str]
    have q : (if y.length ≤ 1000000 then some ((y.length : Int) != 0) else none) = some k := q
    split at q
    · rename_i hl
      cases q
      exact ⟨Nat.le_trans hl (by decide), rfl⟩
    · cases q
  | list ds =>
    obtain ⟨p, vs, rfl, h1, h2⟩ := h.list e
    cases q
    exact .inl ⟨vs, SqL.of h1, by rw [isEmpty_rps h2]⟩
  | tuple ds =>
    obtain ⟨p, vs, rfl, h1, h2⟩ := h.tup
    cases q
    exact .inr (.inl ⟨vs, same_sqT e h1, by rw [isEmpty_rps h2]⟩)
  | dict kvs => cases q
theorem tru_of {b : Bs} {c : Fc} {G H : Hp} {ρ : Ev} {σ : St} {v : V} {a : Av} {k : Bool} (S : SIG b c G ρ σ H) (h : RA b.K G σ v a) (q : tru ρ a = some k) : TruV b.K v H k := by
  cases a with
  | d x => exact truth_of S.gh (.inl h) q
  | s i =>
    have q : slotT ρ[i]? = some k := q
    unfold slotT at q
    split at q
    · rename_i y hy
      exact truth_of S.gh (RA.res (a := .s i) S h (by show slotD ρ[i]? = some y; rw [hy]; rfl)) q
    · rename_i r y hy
      cases q
      exact truth_of S.gh (RA.res (a := .s i) S h (by show slotD ρ[i]? = some (.list y); rw [hy]; rfl)) rfl
    · rename_i ns hy
      cases q
      obtain ⟨u, hu, p, rfl, r⟩ := S.sl i _ hy
      rw [show σ[i]? = some (some v) from h] at hu
      cases hu
      exact .inl ⟨_, S.gh.seq r, by cases ns <;> rfl⟩
    · cases q
section
variable {X : Cx} {b : Bs} {W : WX} {e a a2 : Expr} {fa fb : M Av} {ft fu : M Bool} {rest : List Expr} {pos : Pos}
theorem m_test (hK : X.K = b.K) (ha : PE X a (tE b W fa)) (he : ∀ whole, isTrue a X.env whole = (do let v ← whole; standAt a.pos; holding [v] (truthy v)) := by intro _; rfl) : PT X a (tT b W (testM fa)) :=
  weakT (pt_truth ha he) fun σ H Q ⟨c, G, ρ, S, q⟩ => ⟨c, G, ρ, S, (Post.bind q).imp fun z ρ1 G1 H1 e1 S1 q1 v hv => by
    obtain ⟨k, h1, h2⟩ := q1.opt S1
    exact ⟨k, by rw [hK]; exact tru_of S1 hv h1, h2⟩⟩
theorem m_and1 (ha : PT X a (tT b W ft)) : PW X (.BoolOp .And [a] pos) (tT b W ft) := pw_and1 ha
theorem m_or1 (ha : PT X a (tT b W ft)) : PW X (.BoolOp .Or [a] pos) (tT b W ft) := pw_or1 ha
theorem m_and (ha : PT X a (tT b W ft)) (hb : PW X (.BoolOp .And (a2 :: rest) pos) (tT b W fu)) : PW X (.BoolOp .And (a :: a2 :: rest) pos) (tT b W (andM ft fu)) :=
  weakW (pw_and ha hb) fun σ H Q ⟨c, G, ρ, S, q⟩ => ⟨c, G, ρ, S, (Post.bind q).imp fun z ρ1 G1 H1 e1 S1 q1 => by
    cases z with
    | true => exact iteT ⟨c, G1, ρ1, S1, q1⟩
    | false => exact iteF (q1.ret S1)⟩
theorem m_or (ha : PT X a (tT b W ft)) (hb : PW X (.BoolOp .Or (a2 :: rest) pos) (tT b W fu)) : PW X (.BoolOp .Or (a :: a2 :: rest) pos) (tT b W (orM ft fu)) :=
  weakW (pw_or ha hb) fun σ H Q ⟨c, G, ρ, S, q⟩ => ⟨c, G, ρ, S, (Post.bind q).imp fun z ρ1 G1 H1 e1 S1 q1 => by
    cases z with
    | true => exact iteT (q1.ret S1)
    | false => exact iteF ⟨c, G1, ρ1, S1, q1⟩⟩
theorem m_not (ha : PT X a (tT b W ft)) : PT X (.UnaryOp .Not a pos) (tT b W (notM ft)) :=
  weakT (pt_not ha) fun σ H Q ⟨c, G, ρ, S, q⟩ => ⟨c, G, ρ, S, (Post.bind q).imp fun z ρ1 G1 H1 e1 S1 q1 => q1.ret S1⟩
theorem m_one {op} (ha : PE X a (tE b W fa)) : PE X (.BoolOp op [a] pos) (tE b W fa) := pe_one ha
theorem m_andV (hK : X.K = b.K) (ha : PE X a (tE b W fa)) (hb : PE X (.BoolOp .And (a2 :: rest) pos) (tE b W fb)) : PE X (.BoolOp .And (a :: a2 :: rest) pos) (tE b W (andV fa fb)) :=
  weakE (pe_andT ha hb) fun σ H Q ⟨c, G, ρ, S, q⟩ => ⟨c, G, ρ, S, (Post.bind q).imp fun z ρ1 G1 H1 e1 S1 q1 v hv => by
    obtain ⟨k, h1, h2⟩ := (Post.bind q1).opt S1
    refine ⟨k, by rw [hK]; exact tru_of S1 hv h1, ?_⟩
    cases k with
    | true => exact iteT ⟨c, G1, ρ1, S1, h2⟩
    | false => exact iteF (h2.ret S1 v hv)⟩
theorem m_orV (hK : X.K = b.K) (ha : PE X a (tE b W fa)) (hb : PE X (.BoolOp .Or (a2 :: rest) pos) (tE b W fb)) : PE X (.BoolOp .Or (a :: a2 :: rest) pos) (tE b W (orV fa fb)) :=
  weakE (pe_orT ha hb) fun σ H Q ⟨c, G, ρ, S, q⟩ => ⟨c, G, ρ, S, (Post.bind q).imp fun z ρ1 G1 H1 e1 S1 q1 v hv => by
    obtain ⟨k, h1, h2⟩ := (Post.bind q1).opt S1
    refine ⟨k, by rw [hK]; exact tru_of S1 hv h1, ?_⟩
    cases k with
    | true => exact iteT (h2.ret S1 v hv)
    | false => exact iteF ⟨c, G1, ρ1, S1, h2⟩⟩
theorem m_notV (hK : X.K = b.K) (ha : PE X a (tE b W fa)) : PE X (.UnaryOp .Not a pos) (tE b W (notV fa)) :=
  weakE (pe_notT ha) fun σ H Q ⟨c, G, ρ, S, q⟩ => ⟨c, G, ρ, S, (Post.bind (Post.bind q)).imp fun z ρ1 G1 H1 e1 S1 q1 v hv => by
    obtain ⟨k, h1, h2⟩ := q1.opt S1
    exact ⟨k, by rw [hK]; exact tru_of S1 hv h1, h2.ret S1 _ (.bl _)⟩⟩
theorem m_ifE {cnd : Expr} (hc : PT X cnd (tT b W ft)) (ha : PE X a (tE b W fa)) (hb : PE X a2 (tE b W fb)) : PE X (.IfExp cnd a a2 pos) (tE b W (ifM ft fa fb)) :=
  weakE (pe_ifExp hc ha hb) fun σ H Q ⟨c, G, ρ, S, q⟩ => ⟨c, G, ρ, S, (Post.bind q).imp fun z ρ1 G1 H1 e1 S1 q1 => by
    cases z with
    | true => exact iteT ⟨c, G1, ρ1, S1, q1⟩
    | false => exact iteF ⟨c, G1, ρ1, S1, q1⟩⟩
theorem m_ifV {cnd : Expr} {fa fb : M Rv} (hc : PT X cnd (tT b W ft)) (ha : PE X a (tV b W fa)) (hb : PE X a2 (tV b W fb)) : PE X (.IfExp cnd a a2 pos) (tV b W (ifM ft fa fb)) :=
  weakE (pe_ifExp hc ha hb) fun σ H Q ⟨c, G, ρ, S, q⟩ => ⟨c, G, ρ, S, (Post.bind q).imp fun z ρ1 G1 H1 e1 S1 q1 => by
    cases z with
    | true => exact iteT ⟨c, G1, ρ1, S1, q1⟩
    | false => exact iteF ⟨c, G1, ρ1, S1, q1⟩⟩
end
/-! chains of two comparisons; g, g' give truths -/
def chainM (g g' : Dt → Dt → Option Bool) (fa fb fc : M Av) : M Av := bindM fa fun a => bindM fb fun b => bindM (optM fun ρ => (res ρ a).bind fun x => (res ρ b).bind fun y => g x y) fun k => match k with
  | true => bindM fc fun z => optM fun ρ => (res ρ b).bind fun y => (res ρ z).bind fun w => (g' y w).map fun t => .d (.bool t)
  | false => retM (.d (.bool false))
/-- a rule of comparison that only looks -/
def Tells (b : Bs) (r : R2) (g : Dt → Dt → Option Bool) : Prop := ∀ {c : Fc} {G H : Hp} {ρ : Ev} {σ : St} {x y : V} {dx dy : Dt} {z : Bool} {Q : VK}, SIG b c G ρ σ H → RO b.K G H x dx → RO b.K G H y dy → g dx dy = some z → Q (.bl z) H → r x y H Q
theorem Tells.does {b : Bs} {r : R2} {g : Dt → Dt → Option Bool} (t : Tells b r g) : Does2 b r (fun x y => (g x y).map fun z => .d (.bool z)) := fun {c G H ρ σ x y dx dy z Q} S hx hy e q => by
  dsimp only at e
  cases hz : g dx dy with
  | none => rw [hz] at e; cases e
  | some w =>
    rw [hz] at e
    cases e
    exact t S hx hy hz (q _ H G (Same.refl G) S (.bl w) fun p _ z => by cases z)
section
variable {X : Cx} {b : Bs} {W : WX} {a a2 a3 : Expr} {fa fb fc : M Av} {pos : Pos}
theorem chain_core {r r' : R2} {g g' : Dt → Dt → Option Bool} (t : Tells b r g) (t' : Tells b r' g') {σ : St} {H : Hp} {Q : VK} (h : tE b W (chainM g g' fa fb fc) σ H Q) : tChain r r' (tE b W fa) (tE b W fb) (tE b W fc) σ H Q := by
  obtain ⟨c, G, ρ, S, q⟩ := h
  refine ⟨c, G, ρ, S, (Post.bind q).imp fun xa ρ1 G1 H1 e1 S1 q1 v hv => ⟨c, G1, ρ1, S1, (Post.bind q1).imp fun xb ρ2 G2 H2 e2 S2 q2 u hu => ?_⟩⟩
  obtain ⟨k, h1, h2⟩ := (Post.bind q2).opt S2
  cases hx : res ρ2 xa with
  | none => rw [hx] at h1; cases h1
  | some x =>
    cases hy : res ρ2 xb with
    | none => rw [hx, hy] at h1; cases h1
    | some y =>
      rw [hx, hy] at h1
      refine t S2 ((hv.mono e2).res S2 hx) (hu.res S2 hy) h1 ⟨k, rfl, ?_⟩
      cases k with
      | false => exact iteF (h2.ret S2 _ (.bl false))
      | true =>
        refine iteT ⟨c, G2, ρ2, S2, (Post.bind h2).imp fun xc ρ3 G3 H3 e3 S3 q3 w hw => ?_⟩
        obtain ⟨m, h3, h4⟩ := q3.opt S3
        cases hy3 : res ρ3 xb with
        | none => rw [hy3] at h3; cases h3
        | some y3 =>
          cases hz3 : res ρ3 xc with
          | none => rw [hy3, hz3] at h3; cases h3
          | some z3 =>
            rw [hy3, hz3] at h3
            dsimp only [Option.bind_some] at h3
            cases hg : g' y3 z3 with
            | none => rw [hg] at h3; cases h3
            | some tt =>
              rw [hg] at h3
              cases h3
              exact t' S3 ((hu.mono e3).res S3 hy3) (hw.res S3 hz3) hg (h4 _ (.bl tt))
theorem m_chain {op op' : CmpOp} {r r' : R2} {g g' : Dt → Dt → Option Bool} (ho : OpR X (compareOp op) r) (t : Tells b r g) (ho' : OpR X (compareOp op') r') (t' : Tells b r' g') (ha : PE X a (tE b W fa)) (hb : PE X a2 (tE b W fb)) (hc : PE X a3 (tE b W fc))
    (hm : lastMarks [op, op'] [a2, a3] = false := by with_unfolding_all rfl) : PE X (.Compare a [op, op'] [a2, a3] pos) (tE b W (chainM g g' fa fb fc)) := weakE (pe_chain ho ho' ha hb hc hm) fun _ _ _ h => chain_core t t' h
def chainT (g g' : Dt → Dt → Option Bool) (fa fb fc : M Av) : M Bool := bindM (chainM g g' fa fb fc) fun a => match a with
  | .d (.bool k) => retM k
  | _ => badM
theorem m_chainT {op op' : CmpOp} {r r' : R2} {g g' : Dt → Dt → Option Bool} (ho : OpR X (compareOp op) r) (t : Tells b r g) (ho' : OpR X (compareOp op') r') (t' : Tells b r' g') (ha : PE X a (tE b W fa)) (hb : PE X a2 (tE b W fb)) (hc : PE X a3 (tE b W fc))
    (hm : lastMarks [op, op'] [a2, a3] = false := by with_unfolding_all rfl) : PT X (.Compare a [op, op'] [a2, a3] pos) (tT b W (chainT g g' fa fb fc)) := weakT (pt_chain ho ho' ha hb hc hm) fun σ H Q h => by
  refine chain_core (W := W) t t' ?_
  obtain ⟨c, G, ρ, S, q⟩ := h
  refine ⟨c, G, ρ, S, (Post.bind q).imp fun z ρ1 G1 H1 e1 S1 q1 v hv => ?_⟩
  split at q1
  · cases hv
    exact ⟨_, rfl, q1.ret S1⟩
  · exact q1.elim
end
/-! argument lists, displays -/
def consM (fe : M Av) (fs : M (List Av)) : M (List Av) := bindM fe fun a => bindM fs fun as => retM (a :: as)
def fzs (ρ : Ev) : List Av → Option (List Dt)
  | [] => some []
  | a :: as => (fzv ρ a).bind fun x => (fzs ρ as).map fun xs => x :: xs
def lstM (fl : M (List Av)) : M Rv := bindM fl fun as => optM fun ρ => if as.length ≤ 1000 then (fzs ρ as).map Rv.l else none
def tupM (fl : M (List Av)) : M Av := bindM fl fun as => bindM (optM fun ρ => if as.length ≤ 1000 then fzs ρ as else none) fun xs => retM (.d (.tuple xs))
theorem fzs_of {b : Bs} {c : Fc} {G H : Hp} {ρ : Ev} {σ : St} (S : SIG b c G ρ σ H) : ∀ {vs : List V} {as : List Av} {xs : List Dt}, Ras b.K G σ vs as → fzs ρ as = some xs → Rps b.K G vs xs
  | _, [], _, h, e => by
    cases h
    cases e
    exact .nil
  | _, a :: as, _, h, e => by
    cases h with
    | cons h1 h2 =>
      unfold fzs at e
      cases hx : fzv ρ a with
      | none => rw [hx] at e; cases e
      | some x =>
        rw [hx] at e
        cases hy : fzs ρ as with
        | none => rw [hy] at e; cases e
        | some ys =>
          rw [hy] at e
          cases e
          exact .cons (h1.fz S hx) (fzs_of S h2 hy)
section
variable {X : Cx} {b : Bs} {W : WX} {e : Expr} {es : List Expr} {fe : M Av} {fs : M (List Av)} {pos : Pos}
theorem m_nil : PA X [] (tL b W (retM [])) := weakA pa_nil fun σ H Q ⟨c, G, ρ, S, q⟩ => q.ret S [] .nil
theorem m_cons (ha : PE X e (tE b W fe)) (hr : PA X es (tL b W fs)) (hs : starEach (e :: es) X.env = (false, eval e X.env) :: starEach es X.env := by rfl) : PA X (e :: es) (tL b W (consM fe fs)) :=
  weakA (pa_cons ha hr hs) fun σ H Q ⟨c, G, ρ, S, q⟩ => ⟨c, G, ρ, S, (Post.bind q).imp fun a ρ1 G1 H1 e1 S1 q1 v hv => ⟨c, G1, ρ1, S1, (Post.bind q1).imp fun as ρ2 G2 H2 e2 S2 q2 vs hvs =>
    q2.ret S2 (v :: vs) (.cons (hv.mono e2) hvs)⟩⟩
theorem m_lst (h : PA X es (tL b W fs)) : PE X (.List es pos) (tV b W (lstM fs)) := weakE (pe_lst h) fun σ H Q ⟨c, G, ρ, S, q⟩ => ⟨c, G, ρ, S, (Post.bind q).imp fun as ρ1 G1 H1 e1 S1 q1 vs hvs => by
  have hl := Paired.length hvs
  unfold optM at q1
  split at q1
  · rename_i z hz
    dsimp only at hz
    split at hz
    · rename_i hn
      cases hx : fzs ρ1 as with
      | none => rw [hx] at hz; cases hz
      | some xs =>
        rw [hx] at hz
        cases hz
        refine ⟨by rw [hl]; exact Nat.le_trans hn (by decide), fun p hp => ?_⟩
        refine q1 _ G1 (Same.refl G1) (S1.alloc hp) (.ref p) ⟨p, vs, rfl, upd_same, S1.gh.free hp, fzs_of S1 hvs hx, S1.fresh0 hp⟩ fun p' ep _ => ?_
        cases ep
        exact S1.noOwn hp
    · cases hz
  · exact q1.elim⟩
theorem m_tup {x1} (h : PA X es (tL b W fs)) : PE X (.Tuple es x1 pos) (tE b W (tupM fs)) := weakE (pe_tup h) fun σ H Q ⟨c, G, ρ, S, q⟩ => ⟨c, G, ρ, S, (Post.bind q).imp fun as ρ1 G1 H1 e1 S1 q1 vs hvs => by
  have hl := Paired.length hvs
  obtain ⟨xs, h1, h2⟩ := (Post.bind q1).opt S1
  split at h1
  · rename_i hn
    refine ⟨by rw [hl]; exact Nat.le_trans hn (by decide), fun p hp => ?_⟩
    obtain ⟨e2, S2⟩ := S1.lay (o := .tup vs) hp
    exact (Post.mono e2 h2).ret S2 (.ref p) (.tup (SqT.of upd_same) (Rps.mono e2 _ _ (fzs_of S1 hvs h1)))
  · cases h1⟩
end
end G8
namespace G8
open PySem L2
/-! statements -/
def seqM (f g : M Fl) : M Fl := fun ρ => match f ρ with
  | .ok .nx ρ' => g ρ'
  | o => o
theorem PostS.bind {α : Type} {b : Bs} {c : Fc} {W : WX} {G : Hp} {ρ : Ev} {D : Ends} {f : M α} {g : α → M Fl} (σ : St) (h : PostS b c W G D (bindM f g ρ)) : Post b c W G σ (fun a ρ1 G1 _ => PostS b c W G1 D (g a ρ1)) (f ρ) := by
  unfold bindM at h
  cases e : f ρ with
  | ok z ρ1 =>
    rw [e] at h
    exact fun H1 G1 e1 S1 => PostS.mono e1 h
  | err k ρ1 =>
    rw [e] at h
    exact h σ
  | bad =>
    rw [e] at h
    exact h
theorem PostS.seq {b : Bs} {c : Fc} {W : WX} {G : Hp} {ρ : Ev} {D : Ends} {f g : M Fl} {N : St → Hp → Prop} (h : PostS b c W G D (seqM f g ρ)) (hn : ∀ σ H' G' ρ', Same G G' → SIG b c G' ρ' σ H' → PostS b c W G' D (g ρ') → N σ H') : PostS b c W G { D with nx := N } (f ρ) := by
  unfold seqM at h
  cases e : f ρ with
  | ok z ρ1 =>
    rw [e] at h
    cases z with
    | nx => exact fun σ H1 G1 e1 S1 => hn σ H1 G1 ρ1 e1 S1 (PostS.mono e1 h)
    | bk => exact h
    | ct => exact h
    | rt r => exact h
  | err k ρ1 =>
    rw [e] at h
    exact h
  | bad =>
    rw [e] at h
    exact h
section
variable {X : Cx} {b : Bs} {W : WX} {st : Stmt} {sts us : List Stmt} {f g : M Fl} {pos : Pos}
theorem s_one (h : PS X st (tS b W f)) : PSs X [st] (tS b W f) := pss_one h
theorem s_nil : PSs X [] (tS b W (retM .nx)) := weakB pss_nil fun D σ H ⟨c, G, ρ, hb, S, q⟩ => q σ H G (Same.refl G) S
theorem s_cons (h1 : PS X st (tS b W f)) (h2 : PSs X sts (tS b W g)) : PSs X (st :: sts) (tS b W (seqM f g)) := weakB (pss_cons h1 h2) fun D σ H ⟨c, G, ρ, hb, S, q⟩ =>
  ⟨c, G, ρ, hb, S, q.seq fun σ' H' G' ρ' e' S' q' => ⟨c, G', ρ', hb, S', q'⟩⟩
theorem s_pass : PS X (.Pass pos) (tS b W (retM .nx)) := weakS ps_pass fun D σ H ⟨c, G, ρ, hb, S, q⟩ => q σ H G (Same.refl G) S
theorem s_break : PS X (.Break pos) (tS b W (retM .bk)) := weakS ps_break fun D σ H ⟨c, G, ρ, hb, S, q⟩ => q σ H G (Same.refl G) S
theorem s_continue : PS X (.Continue pos) (tS b W (retM .ct)) := weakS ps_continue fun D σ H ⟨c, G, ρ, hb, S, q⟩ => q σ H G (Same.refl G) S
theorem s_if {cnd : Expr} {ft : M Bool} (hc : PT X cnd (tT b W ft)) (ha : PSs X sts (tS b W f)) (hu : PSs X us (tS b W g)) : PS X (.If cnd sts us pos) (tS b W (ifM ft f g)) :=
  weakS (ps_if hc ha hu) fun D σ H ⟨c, G, ρ, hb, S, q⟩ => ⟨c, G, ρ, S, (PostS.bind σ q).imp fun z ρ1 G1 H1 e1 S1 q1 => by
    cases z with
    | true => exact iteT ⟨c, G1, ρ1, hb, S1, q1⟩
    | false => exact iteF ⟨c, G1, ρ1, hb, S1, q1⟩⟩
end
/-! storing a name -/
def refAt : Option (Option Sv) → Bool
  | some (some s) => s.isRef
  | _ => false
def Rv.sv : Rv → Sv
  | .d x => .d x
  | .l xs => .ls false xs
  | .k xs => .dk false xs
  | .t xs => .dt false xs
def putM (i : Nat) (s : Option Sv) : M Unit := fun ρ => if refAt ρ[i]? then .bad else .ok () (ρ.set i s)
def setM (i : Nat) (f : M Rv) : M Fl := bindM f fun r => bindM (putM i (some r.sv)) fun _ => retM .nx
theorem sv_ref (r : Rv) : r.sv.isRef = false := by cases r <;> rfl
theorem sv_own (r : Rv) : r.sv.own = r.new := by cases r <;> rfl
theorem sv_rs {b : Bs} {c : Fc} {G H : Hp} {v : V} {r : Rv} (h : RN b c G H v r) : RS b.K b.C G H v r.sv := by
  cases r with
  | d x => exact h
  | l xs => obtain ⟨p, vs, h1, h2, h3, h4, _⟩ := h; exact ⟨p, vs, h1, h2, h3, h4⟩
  | k xs => obtain ⟨p, vs, h1, h2, h3, h4, _⟩ := h; exact ⟨p, vs, h1, h2, h3, h4⟩
  | t xs => obtain ⟨p, vs, h1, h2, h3, h4, _⟩ := h; exact ⟨p, vs, h1, h2, h3, h4⟩
theorem rn_new {b : Bs} {c : Fc} {G H : Hp} {v : V} {r : Rv} (h : RN b c G H v r) (hn : r.new = true) {p : Addr} (hp : v = .ref p) : c.H0 p = none := by
  cases r with
  | d x => cases hn
  | l xs => obtain ⟨q, vs, h1, _, _, _, h5⟩ := h; rw [hp] at h1; cases h1; exact h5
  | k xs => obtain ⟨q, vs, h1, _, _, _, h5⟩ := h; rw [hp] at h1; cases h1; exact h5
  | t xs => obtain ⟨q, vs, h1, _, _, _, h5⟩ := h; rw [hp] at h1; cases h1; exact h5
theorem refAt_of {c : Fc} {ρ : Ev} {i : Nat} (hb : c.Fn) (h : ¬ refAt ρ[i]? = true) : Open c ρ i := fun s e => by
  rw [e] at h
  exact .inr ⟨hb, Bool.eq_false_iff.mpr h⟩
theorem set_rn {b : Bs} {c : Fc} {G H : Hp} {ρ : Ev} {σ : St} {v : V} {r : Rv} {i : Nat} (S : SIG b c G ρ σ H) (h : RN b c G H v r) (ap : Apart ρ σ v r) (hr : Open c ρ i) : SIG b c G (ρ.set i (some r.sv)) (σ.set i (some v)) H :=
  S.set (sv_rs h) hr fun p ep ho => ⟨ap p ep (by rw [← sv_own]; exact ho), rn_new h (by rw [← sv_own]; exact ho) ep⟩
section
variable {X : Cx} {b : Bs} {W : WX} {e : Expr} {pos pos' : Pos} {x : Str} {i : Nat}
theorem setM_core {f : M Rv} {D : Ends} {σ : St} {H : Hp} (h : tS b W (setM i f) D σ H) : tAsg (tV b W f) (gName i) D σ H := by
  obtain ⟨c, G, ρ, hb, S, q⟩ := h
  refine ⟨c, G, ρ, S, (PostS.bind σ q).imp fun r ρ1 G1 H1 e1 S1 q1 v hv ap => ?_⟩
  show D.nx (σ.set i (some v)) H1
  unfold bindM putM at q1
  by_cases hr : refAt ρ1[i]? = true
  · rw [if_pos hr] at q1
    exact q1.elim
  · rw [if_neg hr] at q1
    exact q1 _ H1 G1 (Same.refl G1) (set_rn S1 hv ap (refAt_of hb hr))
theorem s_set {f : M Rv} (hN : X.N.Nodup) (hi : X.N[i]? = some x) (hx : Loc X.env.scope x) (he : PE X e (tV b W f)) (hs : swapsWith e (some (.Name x pos')) pos.line X.env = pure false := by rfl)
    (hf : X.fn x = true ∨ X.env.scope.names.lookup x = some .local := by first | exact .inl rfl | exact .inr rfl | assumption) : PS X (.Assign [.Name x pos'] e pos) (tS b W (setM i f)) :=
  weakS (ps_set hN hi hx he hs hf) fun D σ H h => setM_core h
/-! return -/
def retS (f : M Rv) : M Fl := bindM f fun r => retM (.rt r)
theorem s_ret {f : M Rv} (he : PE X e (tV b W f)) : PS X (.Return (some e) pos) (tS b W (retS f)) := weakS (ps_ret he) fun D σ H ⟨c, G, ρ, hb, S, q⟩ =>
  ⟨c, G, ρ, S, (PostS.bind σ q).imp fun r ρ1 G1 H1 e1 S1 q1 v hv ap => q1 v σ H1 G1 (Same.refl G1) S1 hv⟩
theorem s_retN : PS X (.Return none pos) (tS b W (retM (.rt (.d .none)))) := weakS ps_retN fun D σ H ⟨c, G, ρ, hb, S, q⟩ => q .non σ H G (Same.refl G) S .non
/-- return x, x a slot: the list goes with it -/
def slotR : Option (Option Sv) → Option Rv
  | some (some (.d x)) => some (.d x)
  | some (some (.ls false xs)) => some (.l xs)
  | some (some (.dk false xs)) => some (.k xs)
  | some (some (.dt false xs)) => some (.t xs)
  | _ => none
def retO (i : Nat) : M Fl := bindM (optM fun ρ => slotR ρ[i]?) fun r => retM (.rt r)
theorem s_retO {n : Str} (i : Nat) (h : PE X (.Name n pos') (tVar i)) : PS X (.Return (some (.Name n pos')) pos) (tS b W (retO i)) := weakS (ps_ret h) fun D σ H ⟨c, G, ρ, hb, S, q⟩ => by
  obtain ⟨r, h1, h2⟩ := (PostS.bind σ q).opt S
  have own : ∀ sv p, ρ[i]? = some (some sv) → sv.own = true → sv.isRef = false → σ[i]? = some (some (.ref p)) → c.H0 p = none := fun sv p e ho hr hp => by
    rcases S.nw i sv p e ho hp with z | z
    · exact z
    · obtain ⟨f, z⟩ := z
      exact absurd z (S.noRef (fun s q => by rw [e] at q; cases q; exact .inr ⟨hb, hr⟩) p f)
  cases hq : ρ[i]? with
  | none => rw [hq] at h1; cases h1
  | some o =>
    cases o with
    | none => rw [hq] at h1; cases h1
    | some sv =>
      obtain ⟨v, hv, rs⟩ := S.sl i sv hq
      refine ⟨v, hv, h2 v σ H G (Same.refl G) S ?_⟩
      rw [hq] at h1
      cases sv with
      | d y => cases h1; exact rs
      | ls rr y =>
        cases rr
        · cases h1
          obtain ⟨p, vs, rfl, r2, r3, r4⟩ := rs
          exact ⟨p, vs, rfl, r2, r3, r4, own _ p hq rfl rfl hv⟩
        · cases h1
      | dk rr y =>
        cases rr
        · cases h1
          obtain ⟨p, vs, rfl, r2, r3, r4⟩ := rs
          exact ⟨p, vs, rfl, r2, r3, r4, own _ p hq rfl rfl hv⟩
        · cases h1
      | dt rr y =>
        cases rr
        · cases h1
          obtain ⟨p, vs, rfl, r2, r3, r4⟩ := rs
          exact ⟨p, vs, rfl, r2, r3, r4, own _ p hq rfl rfl hv⟩
        · cases h1
      | ex k => cases h1
      | scr ns => cases h1
/-! a ghost: the list of a slot is shared -/
def shareM (i : Nat) : M Unit := fun ρ => match ρ[i]? with
  | some (some (.ls false xs)) => .ok () (ρ.set i (some (.d (.list xs))))
  | some (some (.d _)) => .ok () ρ
  | _ => .bad
theorem share_ok {c : Fc} {G H : Hp} {ρ ρ' : Ev} {σ : St} (hb : c.Fn) (S : SIG b c G ρ σ H) (h : shareM i ρ = .ok () ρ') : ∃ G', Same G G' ∧ SIG b c G' ρ' σ H := by
  unfold shareM at h
  split at h
  · rename_i xs hx
    cases h
    exact S.share hb hx
  · cases h
    exact ⟨G, Same.refl G, S⟩
  · cases h
def withS {α : Type} (i : Nat) (f : M α) : M α := bindM (shareM i) fun _ => f
theorem shareM_cases (ρ : Ev) (i : Nat) : (∃ ρ', shareM i ρ = .ok () ρ') ∨ shareM i ρ = .bad := by
  unfold shareM
  split
  · exact .inl ⟨_, rfl⟩
  · exact .inl ⟨_, rfl⟩
  · exact .inr rfl
theorem s_share {st : Stmt} {f : M Fl} (i : Nat) (h : PS X st (tS b W f)) : PS X st (tS b W (withS i f)) := weakS h fun D σ H ⟨c, G, ρ, hb, S, q⟩ => by
  unfold withS bindM at q
  rcases shareM_cases ρ i with ⟨ρ', e⟩ | e
  · rw [e] at q
    obtain ⟨G', e1, S1⟩ := share_ok hb S e
    exact ⟨c, G', ρ', hb, S1, q.mono e1⟩
  · rw [e] at q
    exact q.elim
theorem ss_share {st : List Stmt} {f : M Fl} (i : Nat) (h : PSs X st (tS b W f)) : PSs X st (tS b W (withS i f)) := weakB h fun D σ H ⟨c, G, ρ, hb, S, q⟩ => by
  unfold withS bindM at q
  rcases shareM_cases ρ i with ⟨ρ', e⟩ | e
  · rw [e] at q
    obtain ⟨G', e1, S1⟩ := share_ok hb S e
    exact ⟨c, G', ρ', hb, S1, q.mono e1⟩
  · rw [e] at q
    exact q.elim
end
/-! targets -/
inductive Tgt where
  | one (i : Nat)
  | tup (is : List Nat)
def Tgt.slots : Tgt → List Nat
  | .one i => [i]
  | .tup is => is
def gNs : List Nat → TGs
  | [] => gNil
  | i :: is => gCons (gName i) (gNs is)
def gRaw (K : Fg) : Tgt → TG
  | .one i => gName i
  | .tup is => gTup K is.length (gNs is)
def ownAt : Option (Option Sv) → Bool
  | some (some s) => s.own
  | _ => false
def putD (i : Nat) (d : Dt) : M Unit := fun ρ => if ownAt ρ[i]? then .bad else .ok () (ρ.set i (some (.d d)))
def putDs : List Nat → List Dt → M Unit
  | [], [] => retM ()
  | i :: is, d :: ds => bindM (putD i d) fun _ => putDs is ds
  | _, _ => badM
def putT : Tgt → Dt → M Unit
  | .one i, d => putD i d
  | .tup is, .tuple ds => putDs is ds
  | _, _ => badM
theorem ownAt_of {c : Fc} {ρ : Ev} {i : Nat} (h : ¬ ownAt ρ[i]? = true) : Open c ρ i := fun s e => by
  rw [e] at h
  exact .inl (Bool.eq_false_iff.mpr h)
theorem wipe_set (σ : St) (i : Nat) (w : Option V) : ∀ is : List Nat, i ∈ is → wipe (σ.set i w) is = wipe σ is
  | [], h => by cases h
  | j :: is, h => by
    unfold wipe
    by_cases hj : i = j
    · subst hj
      by_cases hm : i ∈ is
      · rw [wipe_set σ i w is hm]
      · rw [wipe_comm σ i w is hm, List.set_set]
    · rw [wipe_set σ i w is (by simpa [hj] using h)]
where wipe_comm (σ : St) (i : Nat) (w : Option V) : ∀ is : List Nat, i ∉ is → wipe (σ.set i w) is = (wipe σ is).set i w
  | [], _ => rfl
  | j :: is, h => by
    unfold wipe
    rw [List.mem_cons, not_or] at h
    rw [wipe_comm σ i w is h.2, List.set_comm _ _ h.1]
section
variable {b : Bs} {c : Fc} {G H : Hp} {ρ ρ' : Ev} {σ : St} {v : V} {d : Dt}
theorem putD_ok {i : Nat} (S : SIG b c G ρ σ H) (r : Rp b.K G v d) (e : putD i d ρ = .ok () ρ') : SIG b c G ρ' (σ.set i (some v)) H := by
  unfold putD at e
  split at e
  · cases e
  · rename_i hr
    cases e
    exact S.set (v := v) (sv := .d d) r (ownAt_of hr) fun _ _ z => by cases z
theorem putDs_ok : ∀ {is : List Nat} {vs : List V} {ds : List Dt} {ρ ρ' : Ev} {σ : St} {Q : St → Hp → Prop} (all : List Nat) (σ0 : St), (∀ i ∈ is, i ∈ all) → wipe σ all = wipe σ0 all → SIG b c G ρ σ H → Rps b.K G vs ds → putDs is ds ρ = .ok () ρ' →
    (∀ σ', SIG b c G ρ' σ' H → wipe σ' all = wipe σ0 all → Q σ' H) → gNs is vs σ H Q
  | [], vs, [], ρ, ρ', σ, Q, all, σ0, hm, hw, S, r, e, q => by
    cases r
    cases e
    exact ⟨rfl, q σ S hw⟩
  | [], vs, _ :: _, ρ, ρ', σ, Q, all, σ0, hm, hw, S, r, e, q => by cases e
  | _ :: _, vs, [], ρ, ρ', σ, Q, all, σ0, hm, hw, S, r, e, q => by cases e
  | i :: is, vs, d :: ds, ρ, ρ', σ, Q, all, σ0, hm, hw, S, r, e, q => by
    cases r with
    | cons r1 r2 =>
      have e : bindM (putD i d) (fun _ => putDs is ds) ρ = .ok () ρ' := e
      unfold bindM at e
      cases e1 : putD i d ρ with
      | ok z ρ1 =>
        rw [e1] at e
        refine ⟨_, _, rfl, ?_⟩
        exact putDs_ok all σ0 (fun j hj => hm j (List.mem_cons_of_mem _ hj)) ((wipe_set σ i _ all (hm i List.mem_cons_self)).trans hw) (putD_ok S r1 e1) r2 e q
      | err k ρ1 => rw [e1] at e; cases e
      | bad => rw [e1] at e; cases e
theorem putT_ok {t : Tgt} {Q : St → Hp → Prop} (S : SIG b c G ρ σ H) (r : Rp b.K G v d) (e : putT t d ρ = .ok () ρ') (q : ∀ σ', SIG b c G ρ' σ' H → wipe σ' t.slots = wipe σ t.slots → Q σ' H) : gRaw b.K t v σ H Q := by
  cases t with
  | one i => exact q _ (putD_ok S r e) (wipe_set σ i _ [i] List.mem_cons_self)
  | tup is =>
    cases d with
    | tuple ds =>
      cases r with
      | tup r1 r2 =>
        have hl : ∀ {is : List Nat} {ds : List Dt} {ρ ρ' : Ev}, putDs is ds ρ = .ok () ρ' → ds.length = is.length := by
          intro is
          induction is with
          | nil =>
            intro ds ρ ρ' e
            cases ds with
            | nil => rfl
            | cons _ _ => cases e
          | cons i is ih =>
            intro ds ρ ρ' e
            cases ds with
            | nil => cases e
            | cons x xs =>
              have e : bindM (putD i x) (fun _ => putDs is xs) ρ = .ok () ρ' := e
              unfold bindM at e
              cases e1 : putD i x ρ with
              | ok z ρ1 =>
                rw [e1] at e
                rw [List.length_cons, List.length_cons, ih e]
              | err k ρ1 => rw [e1] at e; cases e
              | bad => rw [e1] at e; cases e
        refine ⟨_, _, rfl, same_sqT S.gh r1, by rw [r2.length]; exact hl e, ?_⟩
        exact putDs_ok is σ (fun _ z => z) rfl S r2 e q
    | _ => cases e
theorem putT_noerr {t : Tgt} {d : Dt} {ρ : Ev} (k : Nat) (ρ' : Ev) : putT t d ρ ≠ .err k ρ' := by
  have h1 : ∀ i d ρ, putD i d ρ ≠ .err k ρ' := fun i d ρ e => by
    unfold putD at e
    split at e <;> cases e
  have h2 : ∀ (is : List Nat) (ds : List Dt) (ρ : Ev), putDs is ds ρ ≠ .err k ρ' := by
    intro is
    induction is with
    | nil =>
      intro ds ρ e
      cases ds <;> cases e
    | cons i is ih =>
      intro ds ρ e
      cases ds with
      | nil => cases e
      | cons x xs =>
        have e : bindM (putD i x) (fun _ => putDs is xs) ρ = .err k ρ' := e
        unfold bindM at e
        cases e1 : putD i x ρ with
        | ok z ρ1 => rw [e1] at e; exact ih _ _ e
        | err k1 ρ1 => rw [e1] at e; exact h1 _ _ _ (e1.trans e)
        | bad => rw [e1] at e; cases e
  intro e
  cases t with
  | one i => exact h1 _ _ _ e
  | tup is =>
    cases d with
    | tuple ds => exact h2 _ _ _ e
    | _ => cases e
end
/-- targets = e -/
def asgM (fe : M Av) (t : Tgt) : M Fl := bindM fe fun a => bindM (optM fun ρ => fzv ρ a) fun d => bindM (putT t d) fun _ => retM .nx
section
variable {X : Cx} {b : Bs} {W : WX} {pos : Pos}
theorem s_asg {tg e : Expr} {fe : M Av} {t : Tgt} (hK : X.K = b.K) (he : PE X e (tE b W fe)) (hg : PG X tg (gRaw X.K t)) (hp : ∀ {te : TE} {g : TG}, PE X e te → PG X tg g → PS X (.Assign [tg] e pos) (tAsg te g)) : PS X (.Assign [tg] e pos) (tS b W (asgM fe t)) :=
  weakS (hp he hg) fun D σ H ⟨c, G, ρ, hb, S, q⟩ => ⟨c, G, ρ, S, (PostS.bind σ q).imp fun a ρ1 G1 H1 e1 S1 q1 v hv => by
    obtain ⟨d, h1, h2⟩ := (PostS.bind σ q1).opt S1
    rw [hK]
    unfold bindM at h2
    cases e2 : putT t d ρ1 with
    | ok z ρ2 =>
      rw [e2] at h2
      exact putT_ok S1 (hv.fz S1 h1) e2 fun σ' S' _ => h2 σ' H1 G1 (Same.refl G1) S'
    | err k ρ2 => exact absurd e2 (putT_noerr k ρ2)
    | bad => rw [e2] at h2; exact h2.elim⟩
end
/-! what a for walks -/
structure Yl (K : Fg) (G : Hp) (J : It) (ds : List Dt) : Prop where
  go : ∀ i H, Same G H → i < ds.length → J.go i H
  yl : ∀ i H x H', Same G H → i < ds.length → J.yld i H x H' → H' = H ∧ ∃ d, ds[i]? = some d ∧ Rp K G x d
  st : ∀ H, Same G H → J.stop ds.length H
def tI (b : Bs) (W : WX) (f : M (List Dt)) : TI := fun σ H R => ∃ c G ρ, SIG b c G ρ σ H ∧ Post b c W G σ (fun ds _ G' H' => ∀ J, Yl b.K G' J ds → R J H') (f ρ)
def seqOf : Dt → Option (List Dt)
  | .list xs => some xs
  | _ => none
def tupOf : Dt → Option (List Dt)
  | .tuple xs => some xs
  | _ => none
/-- over a list that is frozen; over a tuple -/
def itM (fa : M Av) : M (List Dt) := bindM fa fun a => optM fun ρ => (fzv ρ a).bind seqOf
def itT (fa : M Av) : M (List Dt) := bindM fa fun a => optM fun ρ => (fzv ρ a).bind tupOf
theorem yl_list {K : Fg} {G : Hp} {p : Addr} {vs : List V} {ds : List Dt} (h : SqL K G p vs) (r : Rps K G vs ds) : Yl K G (Itl K p) ds := by
  have hl := r.length
  refine ⟨fun i H e hi => ?_, fun i H x H' e hi hy => ?_, fun H e => ⟨vs, e.seq h, by rw [hl]; exact Nat.le_refl _⟩⟩
  · exact ⟨vs, _, e.seq h, List.getElem?_eq_getElem (by rw [hl]; exact hi)⟩
  · obtain ⟨rfl, hy⟩ := hy
    obtain ⟨d, h1, h2⟩ := r.getV (hy vs (e.seq h))
    exact ⟨rfl, d, h1, h2⟩
theorem yl_tup {K : Fg} {G : Hp} {p : Addr} {vs : List V} {ds : List Dt} (h : SqT K G p vs) (r : Rps K G vs ds) : Yl K G (Itt K p) ds := by
  have hl := r.length
  refine ⟨fun i H e hi => ?_, fun i H x H' e hi hy => ?_, fun H e => ⟨vs, same_sqT e h, by rw [hl]; exact Nat.le_refl _⟩⟩
  · exact ⟨vs, _, same_sqT e h, List.getElem?_eq_getElem (by rw [hl]; exact hi)⟩
  · obtain ⟨rfl, hy⟩ := hy
    obtain ⟨d, h1, h2⟩ := r.getV (hy vs (same_sqT e h))
    exact ⟨rfl, d, h1, h2⟩
def rangeD (lo : Int) (n : Nat) : List Dt := (List.range n).map fun (i : Nat) => .int (lo + (i : Int))
theorem rangeD_get {lo : Int} {n i : Nat} (h : i < n) : (rangeD lo n)[i]? = some (.int (lo + (i : Int))) := by
  unfold rangeD
  rw [List.getElem?_map, List.getElem?_range h]
  rfl
theorem rangeD_len (lo : Int) (n : Nat) : (rangeD lo n).length = n := by
  unfold rangeD
  rw [List.length_map, List.length_range]
theorem yl_range (K : Fg) (G : Hp) (lo : Int) (n : Nat) : Yl K G (Itr lo n) (rangeD lo n) := by
  refine ⟨fun i H e hi => by rw [rangeD_len] at hi; exact hi, fun i H x H' e hi hy => ?_, fun H e => by rw [rangeD_len]; exact Nat.le_refl _⟩
  rw [rangeD_len] at hi
  obtain ⟨rfl, rfl⟩ := hy
  exact ⟨rfl, _, rangeD_get hi, .int _⟩
def rangeC (lo c : Int) (n : Nat) : List Dt := (List.range n).map fun (i : Nat) => .int (lo + (i : Int) * c)
theorem yl_rangeC (K : Fg) (G : Hp) (lo c : Int) (n : Nat) : Yl K G (Itc lo c n) (rangeC lo c n) := by
  have hl : (rangeC lo c n).length = n := by unfold rangeC; rw [List.length_map, List.length_range]
  refine ⟨fun i H e hi => by rw [hl] at hi; exact hi, fun i H x H' e hi hy => ?_, fun H e => by rw [hl]; exact Nat.le_refl _⟩
  rw [hl] at hi
  obtain ⟨rfl, rfl⟩ := hy
  refine ⟨rfl, _, ?_, .int _⟩
  unfold rangeC
  rw [List.getElem?_map, List.getElem?_range hi]
  rfl
def int1 : List Dt → Option Int
  | [.int i] => some i
  | _ => none
def int2 : List Dt → Option (Int × Int)
  | [.int i, .int j] => some (i, j)
  | _ => none
def int3 : List Dt → Option (Int × Int × Int)
  | [.int i, .int j, .int k] => some (i, j, k)
  | _ => none
def mid (i : Int) : Bool := Nat.blt i.natAbs 4611686018427387904
def rg1 (fl : M (List Av)) : M (List Dt) := bindM fl fun as => optM fun ρ => (fzs ρ as).bind fun xs => (int1 xs).bind fun j => if mid j then some (rangeD 0 j.toNat) else none
def rg2 (fl : M (List Av)) : M (List Dt) := bindM fl fun as => optM fun ρ => (fzs ρ as).bind fun xs => (int2 xs).bind fun q => if mid q.1 && mid q.2 then some (rangeD q.1 (q.2 - q.1).toNat) else none
/-- downward by ones -/
def rg3 (fl : M (List Av)) : M (List Dt) := bindM fl fun as => optM fun ρ => (fzs ρ as).bind fun xs => (int3 xs).bind fun q => if mid q.1 && mid q.2.1 && decide (q.2.2 = -1) then some (rangeC q.1 (-1) (q.1 - q.2.1).toNat) else none
section
variable {X : Cx} {b : Bs} {W : WX} {tg l : Expr} {fa : M Av} {fl : M (List Av)}
theorem weakI {iter : Expr} {t t' : TI} (h : PI X tg iter t) (w : ∀ σ H R, t' σ H R → t σ H R) : PI X tg iter t' := ⟨fun pins s σ H R I q => h.run pins s σ H R I (w σ H R q)⟩
theorem i_list (hK : X.K = b.K) (hl : PE X l (tE b W fa)) : PI X tg l (tI b W (itM fa)) := weakI (pi_list hl) fun σ H R ⟨c, G, ρ, S, q⟩ => ⟨c, G, ρ, S, (Post.bind q).imp fun a ρ1 G1 H1 e1 S1 q1 v hv => by
  obtain ⟨ds, h1, h2⟩ := q1.opt S1
  cases hx : fzv ρ1 a with
  | none => rw [hx] at h1; cases h1
  | some d =>
    rw [hx] at h1
    have r := hv.fz S1 hx
    cases d with
    | list xs =>
      cases h1
      cases r with
      | lst r1 r2 => exact ⟨_, rfl, ⟨_, SqL.of (S1.gh _ _ r1)⟩, by rw [hK]; exact h2 _ (yl_list (SqL.of r1) r2)⟩
    | _ => cases h1⟩
theorem i_tup (hK : X.K = b.K) (hl : PE X l (tE b W fa)) : PI X tg l (tI b W (itT fa)) := weakI (pi_tup hl) fun σ H R ⟨c, G, ρ, S, q⟩ => ⟨c, G, ρ, S, (Post.bind q).imp fun a ρ1 G1 H1 e1 S1 q1 v hv => by
  obtain ⟨ds, h1, h2⟩ := q1.opt S1
  cases hx : fzv ρ1 a with
  | none => rw [hx] at h1; cases h1
  | some d =>
    rw [hx] at h1
    have r := hv.fz S1 hx
    cases d with
    | tuple xs =>
      cases h1
      cases r with
      | tup r1 r2 => exact ⟨_, rfl, ⟨_, by rw [hK]; exact same_sqT S1.gh r1⟩, by rw [hK]; exact h2 _ (yl_tup r1 r2)⟩
    | _ => cases h1⟩
theorem mid_of {i : Int} (h : mid i = true) : -(2 ^ 62) ≤ i ∧ i < 2 ^ 62 := by
  unfold mid at h
  have h := Nat.blt_eq.mp h
  omega
theorem rps_int1 {K : Fg} {G : Hp} {vs : List V} {xs : List Dt} {i : Int} (r : Rps K G vs xs) (e : int1 xs = some i) : vs = [.int i] := by
  unfold int1 at e
  split at e
  · cases e
    cases r with
    | cons r1 r2 =>
      cases r1
      cases r2
      rfl
  · cases e
theorem rps_int2 {K : Fg} {G : Hp} {vs : List V} {xs : List Dt} {i : Int × Int} (r : Rps K G vs xs) (e : int2 xs = some i) : vs = [.int i.1, .int i.2] := by
  unfold int2 at e
  split at e
  · cases e
    cases r with
    | cons r1 r2 =>
      cases r1
      cases r2 with
      | cons r3 r4 =>
        cases r3
        cases r4
        rfl
  · cases e
theorem rps_int3 {K : Fg} {G : Hp} {vs : List V} {xs : List Dt} {i : Int × Int × Int} (r : Rps K G vs xs) (e : int3 xs = some i) : vs = [.int i.1, .int i.2.1, .int i.2.2] := by
  unfold int3 at e
  split at e
  · cases e
    cases r with
    | cons r1 r2 =>
      cases r1
      cases r2 with
      | cons r3 r4 =>
        cases r3
        cases r4 with
        | cons r5 r6 =>
          cases r5
          cases r6
          rfl
  · cases e
theorem i_range1 {a : Expr} {p pos : Pos} (hg : Gl X "range") (hm : X.mg "range" = none) (ha : PA X [a] (tL b W fl)) (hs : starEach [a] X.env = [(false, eval a X.env)] := by rfl) : PI X tg (.Call (.Name "range" p) [a] [] pos) (tI b W (rg1 fl)) :=
  weakI (pi_range1 hg hm ha hs) fun σ H R ⟨c, G, ρ, S, q⟩ => ⟨c, G, ρ, S, (Post.bind q).imp fun as ρ1 G1 H1 e1 S1 q1 vs hv => by
    obtain ⟨ds, h1, h2⟩ := q1.opt S1
    cases hx : fzs ρ1 as with
    | none => rw [hx] at h1; cases h1
    | some xs =>
      rw [hx, Option.bind_some] at h1
      cases hy : int1 xs with
      | none => rw [hy] at h1; cases h1
      | some j =>
        rw [hy, Option.bind_some] at h1
        split at h1
        · rename_i hj
          cases h1
          exact ⟨j, rps_int1 (fzs_of S1 hv hx) hy, (mid_of hj).1, (mid_of hj).2, h2 _ (yl_range _ _ _ _)⟩
        · cases h1⟩
theorem i_range2 {a a2 : Expr} {p pos : Pos} (hg : Gl X "range") (hm : X.mg "range" = none) (ha : PA X [a, a2] (tL b W fl)) (hs : starEach [a, a2] X.env = [(false, eval a X.env), (false, eval a2 X.env)] := by rfl) (hs2 : starEach [a2] X.env = [(false, eval a2 X.env)] := by rfl) : PI X tg (.Call (.Name "range" p) [a, a2] [] pos) (tI b W (rg2 fl)) :=
  weakI (pi_range2 hg hm ha hs hs2) fun σ H R ⟨c, G, ρ, S, q⟩ => ⟨c, G, ρ, S, (Post.bind q).imp fun as ρ1 G1 H1 e1 S1 q1 vs hv => by
    obtain ⟨ds, h1, h2⟩ := q1.opt S1
    cases hx : fzs ρ1 as with
    | none => rw [hx] at h1; cases h1
    | some xs =>
      rw [hx, Option.bind_some] at h1
      cases hy : int2 xs with
      | none => rw [hy] at h1; cases h1
      | some j =>
        rw [hy, Option.bind_some] at h1
        split at h1
        · rename_i hj
          cases h1
          rw [Bool.and_eq_true] at hj
          exact ⟨j.1, j.2, rps_int2 (fzs_of S1 hv hx) hy, ⟨(mid_of hj.1).1, (mid_of hj.1).2, (mid_of hj.2).1, (mid_of hj.2).2⟩, h2 _ (yl_range _ _ _ _)⟩
        · cases h1⟩
theorem i_range3 {a a2 a3 : Expr} {p pos : Pos} (ha : PA X [a, a2, a3] (tL b W fl)) (hp : ∀ {ta : TA}, PA X [a, a2, a3] ta → PI X tg (.Call (.Name "range" p) [a, a2, a3] [] pos) (iRng3 ta)) : PI X tg (.Call (.Name "range" p) [a, a2, a3] [] pos) (tI b W (rg3 fl)) :=
  weakI (hp ha) fun σ H R ⟨c, G, ρ, S, q⟩ => ⟨c, G, ρ, S, (Post.bind q).imp fun as ρ1 G1 H1 e1 S1 q1 vs hv => by
    obtain ⟨ds, h1, h2⟩ := q1.opt S1
    cases hx : fzs ρ1 as with
    | none => rw [hx] at h1; cases h1
    | some xs =>
      rw [hx, Option.bind_some] at h1
      cases hy : int3 xs with
      | none => rw [hy] at h1; cases h1
      | some j =>
        rw [hy, Option.bind_some] at h1
        split at h1
        · rename_i hj
          cases h1
          rw [Bool.and_eq_true, Bool.and_eq_true, decide_eq_true_eq] at hj
          obtain ⟨⟨j1, j2⟩, j3⟩ := hj
          have ev := rps_int3 (fzs_of S1 hv hx) hy
          rw [j3] at ev
          exact ⟨j.1, j.2.1, -1, _, ev, RgC.neg (mid_of j1).1 (mid_of j1).2 (mid_of j2).1 (mid_of j2).2, h2 _ (yl_rangeC _ _ _ _ _)⟩
        · cases h1⟩
end
/-! for -/
def forL (t : Tgt) (body : M Fl) : List Dt → M Fl
  | [] => retM .nx
  | d :: ds => fun ρ => match putT t d ρ with
    | .ok _ ρ1 => (match body ρ1 with
      | .ok .nx ρ2 => forL t body ds ρ2
      | .ok .ct ρ2 => forL t body ds ρ2
      | .ok .bk ρ2 => .ok .nx ρ2
      | o => o)
    | _ => .bad
def forM (fi : M (List Dt)) (t : Tgt) (body : M Fl) : M Fl := bindM fi fun ds => forL t body ds
section
variable {X : Cx} {b : Bs} {W : WX} {tg iter : Expr} {body : List Stmt} {fi : M (List Dt)} {t : Tgt} {f : M Fl} {pos : Pos}
theorem s_for (hK : X.K = b.K) (hp : PassesOwn (model X.prog X.w) X.A X.env X.xe) (hc : X.calm = true) (hi : PI X tg iter (tI b W fi)) (hg : PG X tg (gRaw X.K t)) (hd : PSs X body (tS b W f)) (hs : ∀ x, foldedSetIterable iter X.env x = pure x := by intro _; rfl) :
    PS X (.For tg iter body [] pos) (tS b W (forM fi t f)) := weakS (ps_for hp hc hi hg hd hs) fun D σ H ⟨c, G, ρ, hb, S, q⟩ => by
  refine ⟨c, G, ρ, S, (PostS.bind σ q).imp fun ds ρ1 G1 H1 e1 S1 q1 J hJ => ?_⟩
  refine ⟨fun i m σ' H' => ∃ G' ρ', Same G1 G' ∧ SIG b c G' ρ' σ' H' ∧ i + m = ds.length ∧ PostS b c W G' D (forL t f (ds.drop i) ρ'), ⟨ds.length, G1, ρ1, Same.refl _, S1, Nat.zero_add _, q1⟩, ?_⟩
  rintro i m σ' H' ⟨G', ρ', e', S', em, q'⟩
  have gh : Same G1 H' := e'.trans S'.gh
  by_cases hi : i < ds.length
  · have ed : ds.drop i = ds[i] :: ds.drop (i + 1) := List.drop_eq_getElem_cons hi
    refine .inr ⟨hJ.go i H' gh hi, fun σ2 H2 => ∃ G2 ρ2, Same G1 G2 ∧ SIG b c G2 ρ2 σ2 H2 ∧ PostS b c W G2 D (forL t f (ds.drop (i + 1)) ρ2), ?_, fun x H2 hy => ?_⟩
    · rintro σ2 H2 ⟨G2, ρ2, a1, a2, a3⟩
      exact ⟨m - 1, by omega, G2, ρ2, a1, a2, by omega, a3⟩
    · obtain ⟨rfl, d, hd, rd⟩ := hJ.yl i H' x H2 gh hi hy
      have ed2 : d = ds[i] := by
        rw [List.getElem?_eq_getElem hi] at hd
        exact (Option.some.inj hd).symm
      rw [hK]
      rw [ed] at q'
      have q2 : PostS b c W G' D (match putT t ds[i] ρ' with
        | .ok _ ρ1 => (match f ρ1 with
          | .ok .nx ρ2 => forL t f (ds.drop (i + 1)) ρ2
          | .ok .ct ρ2 => forL t f (ds.drop (i + 1)) ρ2
          | .ok .bk ρ2 => .ok .nx ρ2
          | o => o)
        | _ => .bad) := q'
      rw [ed2] at rd
      cases e3 : putT t ds[i] ρ' with
      | err k ρ3 => rw [e3] at q2; exact q2.elim
      | bad => rw [e3] at q2; exact q2.elim
      | ok z ρ3 =>
        rw [e3] at q2
        refine putT_ok S' (Rp.mono e' _ _ rd) e3 fun σ3 S3 _ => ?_
        have ee := Same.refl G'
        refine ⟨c, G', ρ3, hb, S3, ?_⟩
        dsimp only at q2
        cases e4 : f ρ3 with
        | bad => rw [e4] at q2; exact q2.elim
        | err k ρ4 =>
          rw [e4] at q2
          exact fun σ4 H4 G4 e5 S4 => q2 σ4 H4 G4 (ee.trans e5) S4
        | ok fl ρ4 =>
          rw [e4] at q2
          cases fl with
          | nx => exact fun σ4 H4 G4 e5 S4 => ⟨G4, ρ4, (e'.trans ee).trans e5, S4, PostS.mono (ee.trans e5) q2⟩
          | ct => exact fun σ4 H4 G4 e5 S4 => ⟨G4, ρ4, (e'.trans ee).trans e5, S4, PostS.mono (ee.trans e5) q2⟩
          | bk => exact fun σ4 H4 G4 e5 S4 => q2 σ4 H4 G4 (ee.trans e5) S4
          | rt r => exact fun v σ4 H4 G4 e5 S4 => q2 v σ4 H4 G4 (ee.trans e5) S4
  · have ei : i = ds.length := by omega
    subst ei
    refine .inl ⟨hJ.st H' gh, ?_⟩
    rw [List.drop_length] at q'
    exact q' σ' H' G' (Same.refl _) S'
end
end G8
namespace G8
open PySem L2
/-! list comprehensions -/
def wipeE (ρ : Ev) : List Nat → Ev
  | [] => ρ
  | v :: vs => (wipeE ρ vs).set v none
def backE (ρ ρ' : Ev) : List Nat → Ev
  | [] => ρ'
  | v :: vs => (backE ρ ρ' vs).set v ((ρ[v]?).getD none)
def anyOwn (ρ : Ev) (is : List Nat) : Bool := is.any fun i => ownAt ρ[i]?
def stepL (t : Tgt) (ft : M Bool) (fe : M Av) (d : Dt) : M (Option Dt) := fun ρ => if anyOwn ρ t.slots then .bad else match putT t d (wipeE ρ t.slots) with
  | .ok _ ρ1 => (match ft ρ1 with
    | .ok true ρ2 => (match fe ρ2 with
      | .ok a ρ3 => (match fzv ρ3 a with
        | some x => .ok (some x) (backE ρ ρ3 t.slots)
        | none => .bad)
      | _ => .bad)
    | .ok false ρ2 => .ok none (backE ρ ρ2 t.slots)
    | _ => .bad)
  | _ => .bad
def compL (t : Tgt) (ft : M Bool) (fe : M Av) : List Dt → List Dt → M (List Dt)
  | [], acc => retM acc
  | d :: ds, acc => bindM (stepL t ft fe d) fun o => match o with
    | some x => if acc.length < 1000000 then compL t ft fe ds (acc ++ [x]) else badM
    | none => compL t ft fe ds acc
theorem bindM_ok {α β : Type} {f : M α} {g : α → M β} {ρ ρ' : Ev} {a : α} (h : f ρ = .ok a ρ') : bindM f g ρ = g a ρ' := by
  unfold bindM
  rw [h]
theorem bindM_bad {α β : Type} {f : M α} {g : α → M β} {ρ : Ev} (h : f ρ = .bad) : bindM f g ρ = .bad := by
  unfold bindM
  rw [h]
theorem bindM_err {α β : Type} {f : M α} {g : α → M β} {ρ ρ' : Ev} {k : Nat} (h : f ρ = .err k ρ') : bindM f g ρ = .err k ρ' := by
  unfold bindM
  rw [h]
theorem bindM_assoc {α β γ : Type} (f : M α) (g : α → M β) (h : β → M γ) (ρ : Ev) : bindM (bindM f g) h ρ = bindM f (fun a => bindM (g a) h) ρ := by
  cases e : f ρ with
  | ok a ρ1 => rw [bindM_ok e]; unfold bindM; rw [e]
  | err k ρ1 => rw [bindM_err e, bindM_err (bindM_err e)]
  | bad => rw [bindM_bad e, bindM_bad (bindM_bad e)]
theorem stepL_cases {t : Tgt} {ft : M Bool} {fe : M Av} {d : Dt} {ρ ρ' : Ev} {o : Option Dt} (h : stepL t ft fe d ρ = .ok o ρ') : anyOwn ρ t.slots = false ∧ ∃ ρ1, putT t d (wipeE ρ t.slots) = .ok () ρ1 ∧ ∃ bb ρ2, ft ρ1 = .ok bb ρ2 ∧
    ((bb = false ∧ o = none ∧ ρ' = backE ρ ρ2 t.slots) ∨ (bb = true ∧ ∃ a ρ3 x, fe ρ2 = .ok a ρ3 ∧ fzv ρ3 a = some x ∧ o = some x ∧ ρ' = backE ρ ρ3 t.slots)) := by
  unfold stepL at h
  cases ha : anyOwn ρ t.slots with
  | true => rw [ha, if_pos rfl] at h; cases h
  | false =>
    rw [ha, if_neg Bool.false_ne_true] at h
    refine ⟨rfl, ?_⟩
    cases e1 : putT t d (wipeE ρ t.slots) with
    | err k ρ1 => rw [e1] at h; cases h
    | bad => rw [e1] at h; cases h
    | ok z ρ1 =>
      rw [e1] at h
      dsimp only at h
      refine ⟨ρ1, rfl, ?_⟩
      cases e2 : ft ρ1 with
      | err k ρ2 => rw [e2] at h; cases h
      | bad => rw [e2] at h; cases h
      | ok bb ρ2 =>
        rw [e2] at h
        refine ⟨bb, ρ2, rfl, ?_⟩
        cases bb with
        | false =>
          dsimp only at h
          cases h
          exact .inl ⟨rfl, rfl, rfl⟩
        | true =>
          dsimp only at h
          cases e3 : fe ρ2 with
          | err k ρ3 => rw [e3] at h; cases h
          | bad => rw [e3] at h; cases h
          | ok a ρ3 =>
            rw [e3] at h
            dsimp only at h
            cases e4 : fzv ρ3 a with
            | none => rw [e4] at h; cases h
            | some x =>
              rw [e4] at h
              cases h
              exact .inr ⟨rfl, a, ρ3, x, rfl, e4, rfl, rfl⟩
theorem stepL_noerr {t : Tgt} {ft : M Bool} {fe : M Av} {d : Dt} {ρ ρ' : Ev} {k : Nat} : stepL t ft fe d ρ ≠ .err k ρ' := fun h => by
  unfold stepL at h
  split at h
  · cases h
  · split at h
    · split at h
      · split at h
        · split at h <;> cases h
        · cases h
      · cases h
      · cases h
    · cases h
def lcM (fi : M (List Dt)) (t : Tgt) (ft : M Bool) (fe : M Av) : M Rv := bindM fi fun ds => bindM (compL t ft fe ds []) fun xs => retM (.l xs)
abbrev W0 : WX := fun _ _ _ _ => False
theorem wipeE_len (ρ : Ev) : ∀ is : List Nat, (wipeE ρ is).length = ρ.length
  | [] => rfl
  | i :: is => by unfold wipeE; rw [List.length_set, wipeE_len ρ is]
theorem wipeE_in (ρ : Ev) : ∀ (is : List Nat) (j : Nat) (s : Sv), (wipeE ρ is)[j]? = some (some s) → ρ[j]? = some (some s)
  | [], _, _, h => h
  | i :: is, j, s, h => by
    unfold wipeE at h
    rw [getElem?_set_eq'] at h
    split at h
    · split at h <;> cases h
    · exact wipeE_in ρ is j s h
theorem backE_len (ρ ρ' : Ev) : ∀ is : List Nat, (backE ρ ρ' is).length = ρ'.length
  | [] => rfl
  | i :: is => by unfold backE; rw [List.length_set, backE_len ρ ρ' is]
theorem backE_out (ρ ρ' : Ev) : ∀ (is : List Nat) (j : Nat), j ∉ is → (backE ρ ρ' is)[j]? = ρ'[j]?
  | [], _, _ => rfl
  | i :: is, j, h => by
    rw [List.mem_cons, not_or] at h
    unfold backE
    rw [List.getElem?_set_ne (Ne.symm h.1)]
    exact backE_out ρ ρ' is j h.2
theorem backE_own (ρ ρ' : Ev) : ∀ (is : List Nat) (j : Nat), j ∈ is → ∀ s, (backE ρ ρ' is)[j]? = some (some s) → ρ[j]? = some (some s)
  | [], _, h, _, _ => by cases h
  | i :: is, j, h, s, e => by
    unfold backE at e
    by_cases hj : i = j
    · subst hj
      rw [getElem?_set_eq', if_pos rfl] at e
      split at e
      · cases q : ρ[i]? with
        | none => rw [q] at e; cases e
        | some o => rw [q] at e; cases e; rfl
      · cases e
    · rw [List.getElem?_set_ne hj] at e
      exact backE_own ρ ρ' is j (by simpa [Ne.symm hj] using h) s e
theorem wipe_wipe (σ : St) (is : List Nat) : ∀ js : List Nat, (∀ j ∈ js, j ∈ is) → wipe (wipe σ js) is = wipe σ is
  | [], _ => rfl
  | j :: js, h => by
    rw [show wipe σ (j :: js) = (wipe σ js).set j none from rfl, wipe_set _ j _ is (h j List.mem_cons_self)]
    exact wipe_wipe σ is js fun k hk => h k (List.mem_cons_of_mem _ hk)
def refsOf (ρ : Ev) (σ : St) : List (Nat × Addr × Bool) := (List.range ρ.length).filterMap fun (j : Nat) => match ρ[j]?, σ[j]? with
  | some (some s), some (some (V.ref p)) => if s.own then some (j, p, s.isRef) else none
  | _, _ => none
theorem mem_refsOf {ρ : Ev} {σ : St} {j : Nat} {p : Addr} {f : Bool} : (j, p, f) ∈ refsOf ρ σ ↔ ∃ s, ρ[j]? = some (some s) ∧ s.own = true ∧ s.isRef = f ∧ σ[j]? = some (some (.ref p)) := by
  unfold refsOf
  rw [List.mem_filterMap]
  constructor
  · rintro ⟨k, _, e⟩
    split at e
    · rename_i s p' h1 h2
      split at e
      · rename_i ho
        cases e
        exact ⟨s, h1, ho, rfl, h2⟩
      · cases e
    · cases e
  · rintro ⟨s, h1, h2, rfl, h3⟩
    refine ⟨j, List.mem_range.mpr (List.getElem?_eq_some_iff.mp h1).1, ?_⟩
    rw [h1, h3]
    show (if s.own = true then _ else _) = _
    rw [if_pos h2]
section
variable {b : Bs} {c : Fc} {G G' H H' : Hp} {ρ ρ' : Ev} {σ σ' : St}
def inner (G H : Hp) (ρ : Ev) (σ : St) : Fc := ⟨G, H, refsOf ρ σ⟩
theorem SIG.enter (S : SIG b c G ρ σ H) : SIG b (inner G H ρ σ) G ρ σ H :=
  ⟨S.len, Same.refl _, S.gh, fun a o e _ => e, fun a o e => .inl e, S.sl, S.sp, fun i s p e ho hp => .inr ⟨_, mem_refsOf.mpr ⟨s, e, ho, rfl, hp⟩⟩, fun i p f h => by
    obtain ⟨s, h1, h2, h3, h4⟩ := mem_refsOf.mp h
    exact ⟨h4, s, h1, h2, h3⟩⟩
theorem SIG.wipe (S : SIG b c G ρ σ H) : ∀ is : List Nat, anyOwn ρ is = false → SIG b c G (wipeE ρ is) (wipe σ is) H
  | [], _ => S
  | i :: is, h => by
    unfold anyOwn at h
    rw [List.any_cons, Bool.or_eq_false_iff] at h
    refine (SIG.wipe S is h.2).drop (fun s e => .inl ?_) none
    have := wipeE_in ρ is i s e
    rw [this] at h
    exact h.1
theorem SIG.leave (S : SIG b c G ρ σ H) {is : List Nat} (ha : anyOwn ρ is = false) (S' : SIG b (inner G H ρ σ) G' ρ' σ' H') (e : Same G G') (hw : L2.wipe σ' is = L2.wipe σ is) : SIG b c G' (backE ρ ρ' is) σ H' := by
  have hno : ∀ j ∈ is, ownAt ρ[j]? = false := fun j hj => by
    unfold anyOwn at ha
    exact Bool.eq_false_iff.mpr fun z => by
      have := List.any_eq_true (p := fun (i : Nat) => ownAt ρ[i]?) |>.mpr ⟨j, hj, z⟩
      rw [ha] at this
      cases this
  have hσ : ∀ j, j ∉ is → σ'[j]? = σ[j]? := fun j hj => by rw [← wipe_out (σ := σ') hj, hw, wipe_out hj]
  have hlen : σ'.length = σ.length := by rw [← wipe_length σ' is, hw, wipe_length]
  have out : ∀ {j s}, (backE ρ ρ' is)[j]? = some (some s) → s.own = true → j ∉ is ∧ ρ'[j]? = some (some s) := fun {j s} q ho => by
    by_cases hj : j ∈ is
    · have h1 := backE_own ρ ρ' is j hj s q
      have h2 := hno j hj
      rw [h1] at h2
      rw [show ownAt (some (some s)) = s.own from rfl, ho] at h2
      cases h2
    · exact ⟨hj, by rw [← backE_out ρ ρ' is j hj]; exact q⟩
  refine ⟨by rw [backE_len, S'.len, hlen], S.g0.trans e, S'.gh, fun a o h1 h2 => ?_, fun a o h1 => ?_, fun j s q => ?_, fun j k sj sk p q1 q2 o1 o2 a1 a2 => ?_, fun j s p q o1 a1 => ?_, fun j p f hj => ?_⟩
  · refine S'.fr a o (S.fr a o h1 h2) fun j f hj => ?_
    obtain ⟨s, r1, r2, r3, r4⟩ := mem_refsOf.mp hj
    rcases S.nw j s a r1 r2 r4 with z | ⟨f', z⟩
    · rw [h1] at z; cases z
    · exact h2 j f' z
  · rcases S'.gn a o h1 with z | z
    · exact S.gn a o z
    · exact .inr (S.fresh0 z)
  · by_cases hj : j ∈ is
    · have h1 := backE_own ρ ρ' is j hj s q
      obtain ⟨v, hv, r⟩ := S.sl j s h1
      have h2 := hno j hj
      rw [h1] at h2
      exact ⟨v, hv, r.keep e fun p u ho _ _ => by rw [show ownAt (some (some s)) = s.own from rfl, ho] at h2; cases h2⟩
    · rw [backE_out ρ ρ' is j hj] at q
      obtain ⟨v, hv, r⟩ := S'.sl j s q
      exact ⟨v, by rw [← hσ j hj]; exact hv, r⟩
  · obtain ⟨n1, q1⟩ := out q1 o1
    obtain ⟨n2, q2⟩ := out q2 o2
    exact S'.sp j k sj sk p q1 q2 o1 o2 (by rw [hσ j n1]; exact a1) (by rw [hσ k n2]; exact a2)
  · obtain ⟨n1, q⟩ := out q o1
    rcases S'.nw j s p q o1 (by rw [hσ j n1]; exact a1) with z | ⟨f, z⟩
    · exact .inl (S.fresh0 z)
    · obtain ⟨s', r1, r2, r3, r4⟩ := mem_refsOf.mp z
      exact S.nw j s' p r1 r2 r4
  · obtain ⟨h1, s, h2, h3, h4⟩ := S.rf j p f hj
    have n1 : j ∉ is := fun z => by
      have := hno j z
      rw [h2, show ownAt (some (some s)) = s.own from rfl, h3] at this
      cases this
    obtain ⟨g1, s', g2, g3, g4⟩ := S'.rf j p f (mem_refsOf.mpr ⟨s, h2, h3, h4, h1⟩)
    exact ⟨h1, s', by rw [backE_out ρ ρ' is j n1]; exact g2, g3, g4⟩
/-- an object apart is changed -/
theorem SIG.poke (S : SIG b c G ρ σ H) {p : Addr} {o : HO} (hg : G p = none) (h0 : c.H0 p = none) (no : NoOwn ρ σ p) : SIG b c G ρ σ (upd H p o) := by
  refine ⟨S.len, S.g0, fun a u e => by rw [upd_ne (ne_of_none e hg)]; exact S.gh a u e, fun a u e n => by rw [upd_ne (ne_of_none e h0)]; exact S.fr a u e n, S.gn, fun i sv e => ?_, S.sp, S.nw, S.rf⟩
  obtain ⟨v, hv, r⟩ := S.sl i sv e
  refine ⟨v, hv, r.keep (Same.refl G) fun q u ho ev hq => ?_⟩
  have hne : q ≠ p := fun z => no i sv e ho (by rw [hv, ev, z])
  obtain ⟨q', _, e', _, g'⟩ := r.at ho
  rw [ev] at e'
  cases e'
  exact ⟨by rw [upd_ne hne]; exact hq, g'⟩
theorem noOwn_back {is : List Nat} {D : Addr} (S : SIG b c G ρ σ H) (ha : anyOwn ρ is = false) (S' : SIG b (inner G H ρ σ) G' ρ' σ' H') (hw : L2.wipe σ' is = L2.wipe σ is) {o : HO} (hD : H D = some o) (no : NoOwn ρ σ D) : NoOwn (backE ρ ρ' is) σ D := fun j s q ho a1 => by
  by_cases hj : j ∈ is
  · have h1 := backE_own ρ ρ' is j hj s q
    exact no j s h1 ho a1
  · rw [backE_out ρ ρ' is j hj] at q
    have hσ : σ'[j]? = σ[j]? := by rw [← wipe_out (σ := σ') hj, hw, wipe_out hj]
    rcases S'.nw j s D q ho (by rw [hσ]; exact a1) with z | ⟨f, z⟩
    · rw [show (inner G H ρ σ).H0 D = H D from rfl, hD] at z
      cases z
    · obtain ⟨s', r1, r2, r3, r4⟩ := mem_refsOf.mp z
      exact no j s' r1 r2 r4
end
section
variable {X : Cx} {b : Bs} {W : WX} {fi : M (List Dt)} {t : Tgt} {ft : M Bool} {fe : M Av}
theorem lc_sound {σ : St} {H : Hp} {Q : VK} (h : tV b W (lcM fi t ft fe) σ H Q) : tLc (tI b W fi) (gRaw b.K t) (tT b W0 ft) (tE b W0 fe) t.slots σ H Q := by
  obtain ⟨c, G, ρ, S, q⟩ := h
  refine ⟨c, G, ρ, S, (Post.bind q).imp fun ds ρ1 G1 H1 e1 S1 q1 J hJ => ?_⟩
  intro D hD
  have h0 : c.H0 D = none := S1.fresh0 hD
  let P : Rv → Ev → Hp → Hp → Prop := fun r ρ' G' H' => ∀ v, RN b c G' H' v r → Apart ρ' σ v r → Q v H'
  refine ⟨fun i m H' => ∃ G' ρ' accV acc, Same G1 G' ∧ SIG b c G' ρ' σ H' ∧ i + m = ds.length ∧ H' D = some (.lst accV) ∧ G' D = none ∧ Rps b.K G' accV acc ∧ NoOwn ρ' σ D ∧ Post b c W G' σ P (bindM (compL t ft fe (ds.drop i) acc) (fun xs => retM (.l xs)) ρ'),
    ⟨ds.length, G1, ρ1, [], [], Same.refl _, S1.alloc hD, Nat.zero_add _, upd_same, S1.gh.free hD, .nil, S1.noOwn hD, q1⟩, ?_⟩
  rintro i m H' ⟨G', ρ', accV, acc, e', S', em, hA, gD, rA, no, q'⟩
  have gh : Same G1 H' := e'.trans S'.gh
  by_cases hi : i < ds.length
  · have ed : ds.drop i = ds[i] :: ds.drop (i + 1) := List.drop_eq_getElem_cons hi
    rw [ed] at q'
    refine .inr ⟨hJ.go i H' gh hi, fun H2 => ∃ G' ρ' accV acc, Same G1 G' ∧ SIG b c G' ρ' σ H2 ∧ H2 D = some (.lst accV) ∧ G' D = none ∧ Rps b.K G' accV acc ∧ NoOwn ρ' σ D ∧ Post b c W G' σ P (bindM (compL t ft fe (ds.drop (i + 1)) acc) (fun xs => retM (.l xs)) ρ'), ?_, fun x H2 hy => ?_⟩
    · rintro H2 ⟨G2, ρ2, av, ac, a1, a2, a3, a4, a5, a6, a7⟩
      exact ⟨m - 1, by omega, G2, ρ2, av, ac, a1, a2, by omega, a3, a4, a5, a6, a7⟩
    · obtain ⟨rfl, d, hd, rd⟩ := hJ.yl i H' x H2 gh hi hy
      have ed2 : d = ds[i] := by
        rw [List.getElem?_eq_getElem hi] at hd
        exact (Option.some.inj hd).symm
      rw [ed2] at rd
      rw [show compL t ft fe (ds[i] :: ds.drop (i + 1)) acc = bindM (stepL t ft fe ds[i]) (fun o => match o with
        | some x => if acc.length < 1000000 then compL t ft fe (ds.drop (i + 1)) (acc ++ [x]) else badM
        | none => compL t ft fe (ds.drop (i + 1)) acc) from rfl, bindM_assoc] at q'
      cases hs : stepL t ft fe ds[i] ρ' with
      | err k ρn => exact absurd hs stepL_noerr
      | bad => rw [bindM_bad hs] at q'; exact q'.elim
      | ok o ρn =>
        rw [bindM_ok hs] at q'
        obtain ⟨ha, ρ3, e3, bb, ρ4, e4, hcase⟩ := stepL_cases hs
        have S2 := (S'.enter).wipe t.slots ha
        refine putT_ok S2 (Rp.mono e' _ _ rd) e3 fun σ3 S3 hw => ?_
        have hw' : wipe σ3 t.slots = wipe σ t.slots := hw.trans (wipe_wipe σ t.slots t.slots fun _ z => z)
        refine ⟨hw', inner G' H2 ρ' σ, G', ρ3, S3, ?_⟩
        have fin : ∀ {G4 H4 ρ4}, Same G' G4 → SIG b (inner G' H2 ρ' σ) G4 ρ4 σ3 H4 → SIG b c G4 (backE ρ' ρ4 t.slots) σ H4 ∧ H4 D = some (.lst accV) ∧ G4 D = none ∧ NoOwn (backE ρ' ρ4 t.slots) σ D := fun {G4 H4 ρ4} e4 S4 => by
          refine ⟨S'.leave ha S4 e4 hw', S4.fr D _ hA fun j f hj => ?_, ?_, noOwn_back S' ha S4 hw' hA no⟩
          · obtain ⟨s, r1, r2, r3, r4⟩ := mem_refsOf.mp hj
            exact no j s r1 r2 r4
          · cases z : G4 D with
            | none => rfl
            | some o =>
              rcases S4.gn D o z with y | y
              · rw [show (inner G' H2 ρ' σ).G0 D = G' D from rfl, gD] at y; cases y
              · rw [show (inner G' H2 ρ' σ).H0 D = H2 D from rfl, hA] at y; cases y
        rw [e4]
        intro H4 G4 ee4 S4
        rcases hcase with ⟨rfl, rfl, rfl⟩ | ⟨rfl, a, ρ5, xx, e5, e6, rfl, rfl⟩
        · refine iteF ?_
          obtain ⟨f1, f2, f3, f4⟩ := fin ee4 S4
          exact ⟨G4, _, accV, acc, e'.trans ee4, f1, f2, f3, Rps.mono ee4 _ _ rA, f4, Post.mono ee4 q'⟩
        · refine iteT ⟨inner G' H2 ρ' σ, G4, ρ4, S4, ?_⟩
          rw [e5]
          intro H5 G5 ee5 S5 y hy'
          by_cases hl : acc.length < 1000000
          · have q3 : Post b c W G' σ P (bindM (compL t ft fe (ds.drop (i + 1)) (acc ++ [xx])) (fun xs => retM (.l xs)) (backE ρ' ρ5 t.slots)) := by
              dsimp only at q'
              rw [if_pos hl] at q'
              exact q'
            obtain ⟨f1, f2, f3, f4⟩ := fin (ee4.trans ee5) S5
            have hz : accV.length < sizeLine := by rw [rA.length]; exact Nat.lt_of_lt_of_le hl (by decide)
            refine ⟨accV, f2, hz, G5, _, accV ++ [y], acc ++ [xx], (e'.trans ee4).trans ee5, f1.poke f3 h0 f4, upd_same, f3, ?_, f4, Post.mono (ee4.trans ee5) q3⟩
            exact (Rps.mono (ee4.trans ee5) _ _ rA).append (.cons (hy'.fz S5 e6) .nil)
          · dsimp only at q'
            rw [if_neg hl] at q'
            exact q'.elim
  · have ei : i = ds.length := by omega
    subst ei
    refine .inl ⟨hJ.st H' gh, ?_⟩
    rw [List.drop_length] at q'
    exact q' H' G' (Same.refl _) S' (.ref D) ⟨D, accV, rfl, hA, gD, rA, h0⟩ fun p ep _ => by cases ep; exact no
theorem m_lc {elt tg iter : Expr} {ifs : List Expr} {scope : Scope} {own : List (Str × Nat)} {pos : Pos} (hK : X.K = b.K) (hv : own.map (·.2) = t.slots) (hc : X.calm = true) (hN : X.N.Nodup) (hi : PI X tg iter (tI b W fi)) (ok : BlkOk X.N X.env.scope scope own)
    (hg : ∀ (s : Shared) (H : Hp) (C : Addr) (cl : List (Str × Addr)) (fp : List Addr), PG (X.blk s H scope (compEnvC scope cl C X.env) fp) tg (gRaw X.K t))
    (ht : ∀ (s : Shared) (H : Hp) (C : Addr) (cl : List (Str × Addr)) (fp : List Addr), PTs (X.blk s H scope (compEnvC scope cl C X.env) fp) ifs (tT b W0 ft))
    (he : ∀ (s : Shared) (H : Hp) (C : Addr) (cl : List (Str × Addr)) (fp : List Addr), PE (X.blk s H scope (compEnvC scope cl C X.env) fp) elt (tE b W0 fe)) (hs : ∀ x, foldedSetIterable iter X.env x = pure x := by intro _; rfl) :
    PE X (.ListComp elt [⟨tg, iter, ifs, 0⟩] scope pos) (tV b W (lcM fi t ft fe)) := weakE (pe_lc hc hN hi ok hg ht he hs) fun σ H Q h => by
  rw [hv, hK]
  exact lc_sound h
theorem s_setLc {i : Nat} {y : Str} {py : Pos} {elt tg iter : Expr} {ifs : List Expr} {scope : Scope} {own : List (Str × Nat)} {pos spos : Pos} (hK : X.K = b.K) (hv : own.map (·.2) = t.slots) (hc : X.calm = true) (hN : X.N.Nodup) (hy : X.N[i]? = some y) (hyl : X.env.scope.names.lookup y = some .local)
    (hsw : swapsWith (.ListComp elt [⟨tg, iter, ifs, 0⟩] scope pos) (some (.Name y py)) spos.line X.env = pure true) (hi : PI X tg iter (tI b W fi)) (ok : BlkOk X.N X.env.scope scope own)
    (hg : ∀ (s : Shared) (H : Hp) (C : Addr) (cl : List (Str × Addr)) (fp : List Addr), PG (X.blk s H scope (compEnvC scope cl C X.env) fp) tg (gRaw X.K t))
    (ht : ∀ (s : Shared) (H : Hp) (C : Addr) (cl : List (Str × Addr)) (fp : List Addr), PTs (X.blk s H scope (compEnvC scope cl C X.env) fp) ifs (tT b W0 ft))
    (he : ∀ (s : Shared) (H : Hp) (C : Addr) (cl : List (Str × Addr)) (fp : List Addr), PE (X.blk s H scope (compEnvC scope cl C X.env) fp) elt (tE b W0 fe)) (hs : ∀ x, foldedSetIterable iter X.env x = pure x := by intro _; rfl) :
    PS X (.Assign [.Name y py] (.ListComp elt [⟨tg, iter, ifs, 0⟩] scope pos) spos) (tS b W (setM i (lcM fi t ft fe))) := weakS (ps_setLc hc hN hy hyl hsw hi ok hg ht he hs) fun D σ H h => by
  rw [hv, hK]
  exact lc_sound (setM_core h)
theorem ts_nil : PTs X [] (tT b W (retM true)) := ⟨fun pins s σ H Q I ⟨c, G, ρ, S, q⟩ => pts_nil.run pins s σ H Q I (q H G (Same.refl G) S)⟩
theorem ts_one {c : Expr} (h : PT X c (tT b W ft)) : PTs X [c] (tT b W ft) := pts_one h
end
end G8
namespace G8
open PySem L2
/-! defs: what they do, calls -/
abbrev Fn := List Sv → Out Rv
def svsE (svs : List Sv) : Ev := svs.map some
def vsE (vs : List V) : St := vs.map some
def ctx0 (G H : Hp) (svs : List Sv) (vs : List V) : Fc := inner G H (svsE svs) (vsE vs)
def PostF (b : Bs) (c : Fc) (vs : List V) (Q : VK) (E : XK) : Out Rv → Prop
  | .ok r outs => ∀ v H' G', SIG b c G' outs (vsE vs) H' → RN b c G' H' v r → Q v H'
  | .err k outs => ∀ H' G', SIG b c G' outs (vsE vs) H' → E (.ref (b.C k)) none H'
  | .bad => False
def spF (b : Bs) (n : Nat) (F : Fn) : Sp := fun vs H Q E => ∃ G svs, vs.length = n ∧ SIG b (ctx0 G H svs vs) G (svsE svs) (vsE vs) H ∧ (∀ s ∈ svs, s.own = true → s.isRef = true) ∧ PostF b (ctx0 G H svs vs) vs Q E (F svs)
def finE : List Sv → Ev → Ev
  | [], _ => []
  | s :: ss, ρ => (if s.isRef then (ρ.head?).getD none else none) :: finE ss ρ.tail
def bodyF (n : Nat) (f : M Fl) : Fn := fun svs => match f (svsE svs ++ List.replicate (n - svs.length) none) with
  | .ok (.rt r) ρ => .ok r (finE svs ρ)
  | .ok .nx ρ => .ok (.d .none) (finE svs ρ)
  | .ok _ _ => .bad
  | .err k ρ => .err k (finE svs ρ)
  | .bad => .bad
theorem finE_len : ∀ (svs : List Sv) (ρ : Ev), (finE svs ρ).length = svs.length
  | [], _ => rfl
  | s :: ss, ρ => by unfold finE; rw [List.length_cons, List.length_cons, finE_len ss]
theorem finE_get : ∀ (svs : List Sv) (ρ : Ev) (i : Nat), (finE svs ρ)[i]? = (svs[i]?).map fun s => if s.isRef then (ρ[i]?).getD none else none
  | [], _, i => by simp [finE]
  | s :: ss, ρ, 0 => by
    unfold finE
    cases ρ <;> simp
  | s :: ss, ρ, i + 1 => by
    unfold finE
    rw [List.getElem?_cons_succ, finE_get ss ρ.tail i, List.getElem?_cons_succ]
    cases ρ <;> simp
section
variable {b : Bs} {c : Fc} {G G' H H' : Hp} {svs : List Sv} {vs : List V} {ρ : Ev} {σ : St}
theorem svsE_get {i : Nat} {s : Sv} : (svsE svs)[i]? = some (some s) ↔ svs[i]? = some s := by
  unfold svsE
  rw [List.getElem?_map]
  cases svs[i]? <;> simp
theorem SIG.exit (S : SIG b (ctx0 G H svs vs) G (svsE svs) (vsE vs) H) (hm : ∀ s ∈ svs, s.own = true → s.isRef = true) (S' : SIG b (ctx0 G H svs vs) G' ρ σ H') : SIG b (ctx0 G H svs vs) G' (finE svs ρ) (vsE vs) H' := by
  have key : ∀ {i s}, (finE svs ρ)[i]? = some (some s) → ∃ p, (i, p, true) ∈ (ctx0 G H svs vs).refs ∧ (vsE vs)[i]? = some (some (.ref p)) ∧ σ[i]? = some (some (.ref p)) ∧ ρ[i]? = some (some s) := fun {i s} e => by
    rw [finE_get] at e
    cases q : svs[i]? with
    | none => rw [q] at e; cases e
    | some s0 =>
      rw [q] at e
      have e : some (if s0.isRef = true then (ρ[i]?).getD none else none) = some (some s) := e
      cases hr : s0.isRef with
      | false => rw [hr, if_neg Bool.false_ne_true] at e; cases e
      | true =>
        rw [hr, if_pos rfl] at e
        have ho := own_of_ref hr
        obtain ⟨v, hv, rs⟩ := S.sl i s0 (svsE_get.mpr q)
        obtain ⟨p, o, rfl, _, _⟩ := rs.at ho
        have hmem : (i, p, true) ∈ (ctx0 G H svs vs).refs := mem_refsOf.mpr ⟨s0, svsE_get.mpr q, ho, hr, hv⟩
        obtain ⟨h1, sv, h2, h3, h4⟩ := S'.rf i p true hmem
        rw [h2] at e
        cases e
        exact ⟨p, hmem, hv, h1, h2⟩
  refine ⟨?_, S'.g0, S'.gh, S'.fr, S'.gn, fun i s e => ?_, fun i j si sj p e1 e2 o1 o2 a1 a2 => ?_, fun i s p e o1 a1 => ?_, fun i p f hi => ?_⟩
  · rw [finE_len]
    have := S.len
    unfold svsE at this
    rw [List.length_map] at this
    exact this
  · obtain ⟨p, _, h1, h2, h3⟩ := key e
    obtain ⟨v, hv, r⟩ := S'.sl i s h3
    rw [h2] at hv
    cases hv
    exact ⟨.ref p, h1, r⟩
  · obtain ⟨p1, _, h1, h2, h3⟩ := key e1
    obtain ⟨p2, _, g1, g2, g3⟩ := key e2
    rw [h1] at a1
    rw [g1] at a2
    cases a1
    cases a2
    exact S'.sp i j si sj p h3 g3 o1 o2 h2 g2
  · obtain ⟨p1, hm1, h1, h2, h3⟩ := key e
    rw [h1] at a1
    cases a1
    exact .inr ⟨true, hm1⟩
  · obtain ⟨h1, sv, h2, h3, h4⟩ := S'.rf i p f hi
    obtain ⟨s0, r1, r2, r3, r4⟩ := mem_refsOf.mp hi
    refine ⟨r4, sv, ?_, h3, h4⟩
    have r1' := svsE_get.mp r1
    rw [finE_get, r1']
    show some (if s0.isRef = true then (ρ[i]?).getD none else none) = some (some sv)
    rw [if_pos (hm s0 (List.mem_of_getElem? r1') r2), h2]
    rfl
theorem SIG.pad (S : SIG b c G ρ σ H) (n : Nat) : SIG b c G (ρ ++ List.replicate n none) (σ ++ List.replicate n none) H := by
  have key : ∀ {i : Nat} {s : Sv}, (ρ ++ List.replicate n none)[i]? = some (some s) → ρ[i]? = some (some s) ∧ (σ ++ List.replicate n none)[i]? = σ[i]? := fun {i s} e => by
    by_cases hi : i < ρ.length
    · rw [List.getElem?_append_left hi] at e
      exact ⟨e, List.getElem?_append_left (by rw [← S.len]; exact hi)⟩
    · rw [List.getElem?_append_right (by omega), List.getElem?_replicate] at e
      split at e <;> cases e
  refine ⟨by rw [List.length_append, List.length_append, S.len, List.length_replicate, List.length_replicate], S.g0, S.gh, S.fr, S.gn, fun i s e => ?_, fun i j si sj p e1 e2 o1 o2 a1 a2 => ?_, fun i s p e o1 a1 => ?_, fun i p f hi => ?_⟩
  · obtain ⟨h1, h2⟩ := key e
    obtain ⟨v, hv, r⟩ := S.sl i s h1
    exact ⟨v, by rw [h2]; exact hv, r⟩
  · obtain ⟨h1, h2⟩ := key e1
    obtain ⟨g1, g2⟩ := key e2
    rw [h2] at a1
    rw [g2] at a2
    exact S.sp i j si sj p h1 g1 o1 o2 a1 a2
  · obtain ⟨h1, h2⟩ := key e
    rw [h2] at a1
    exact S.nw i s p h1 o1 a1
  · obtain ⟨h1, sv, h2, h3, h4⟩ := S.rf i p f hi
    have hl := (List.getElem?_eq_some_iff.mp h2).1
    exact ⟨by rw [List.getElem?_append_left (by rw [← S.len]; exact hl)]; exact h1, sv, by rw [List.getElem?_append_left hl]; exact h2, h3, h4⟩
end
theorem start_eq (N : List Str) (vs : List V) : start N vs = vsE vs ++ List.replicate (N.length - vs.length) none := rfl
section
variable {P : Program} {w : World} {K : Fg} {mg : Str → Option Value} {base : Heap} {x qual : Str} {params : Arguments} {body : List Stmt} {scope : Scope} {f : Addr} {fd : FuncData} {b : Bs}
/-- what is wanted of exceptions in a def's body -/
abbrev WF (E : XK) : WX := fun cls d _ H => E cls d H
theorem fn_body {N ps : List Str} {k : Nat} {g : M Fl} (F : FunD K x qual params body scope [] [] f fd) (S : FnScope N ps scope)
    (hd : ∀ (cdv : Value) (A : Around) (outer : List Env) (s : Shared) (H : Hp) (E : XK), Room k (A.deeper (PyProof.Rows.envOfC qual scope s.heap.objs.size f cdv)) →
      PSs (cxOf (L2.CX P w) P w K mg base N qual scope f cdv A outer s H E) body (tS b (WF E) g)) : FnOk P w K mg base (L2.CX P w) (k + 1) f fd ps (spF b ps.length (bodyF N.length g)) := by
  refine F.ok S (fun vs H Q E h => ?_) (fun cdv A outer s H vs Q E hr h => ⟨_, hd cdv A outer s H E hr, ?_⟩)
  · obtain ⟨G, svs, h1, _⟩ := h
    exact h1
  · obtain ⟨G, svs, hl, S0, hm, q⟩ := h
    have hlen : svs.length = vs.length := by
      have := S0.len
      unfold svsE vsE at this
      rw [List.length_map, List.length_map] at this
      exact this
    have S1 := S0.pad (N.length - vs.length)
    rw [← start_eq] at S1
    refine ⟨ctx0 G H svs vs, G, _, fun i p fl hi => ?_, S1, ?_⟩
    · obtain ⟨s0, r1, r2, r3, r4⟩ := mem_refsOf.mp hi
      rw [← r3]
      exact hm s0 (List.mem_of_getElem? (svsE_get.mp r1)) r2
    · unfold bodyF at q
      rw [hlen] at q
      cases e : g (svsE svs ++ List.replicate (N.length - vs.length) none) with
      | bad => rw [e] at q; exact q.elim
      | err kk ρ =>
        rw [e] at q
        exact fun σ' H' G' e' S' => q H' G' (S0.exit hm S')
      | ok fl ρ =>
        rw [e] at q
        cases fl with
        | nx => exact fun σ' H' G' e' S' => q .non H' G' (S0.exit hm S') .non
        | bk => exact q.elim
        | ct => exact q.elim
        | rt r => exact fun v σ' H' G' e' S' rn => q v H' G' (S0.exit hm S') rn
end
/-! the caller's side -/
def posOf (i : Nat) : List Av → Option Nat
  | [] => none
  | .d _ :: as => (posOf i as).map (· + 1)
  | .s k :: as => if k = i then some 0 else (posOf i as).map (· + 1)
def wb1 (as : List Av) (outs : Ev) (i : Nat) : Option Sv → Option Sv
  | none => none
  | some s => if s.own then (match posOf i as with
    | some j => (match outs[j]? with
      | some (some s') => some (s'.mark s.isRef)
      | _ => some s)
    | none => some s) else some s
def writeBack (ρ : Ev) (as : List Av) (outs : Ev) : Ev := ρ.mapIdx fun i o => wb1 as outs i o
def resolve (ρ : Ev) : List Av → Option (List Sv)
  | [] => some []
  | .d x :: as => (resolve ρ as).map fun r => .d x :: r
  | .s i :: as => match ρ[i]? with
    | some (some s) => (resolve ρ as).map fun r => s.mark true :: r
    | _ => none
def hasS (i : Nat) : List Av → Bool
  | [] => false
  | .d _ :: as => hasS i as
  | .s k :: as => decide (k = i) || hasS i as
def okArgs (ρ : Ev) : List Av → Bool
  | [] => true
  | .d _ :: as => okArgs ρ as
  | .s i :: as => (!ownAt ρ[i]? || !hasS i as) && okArgs ρ as
def callF (n : Nat) (F : Fn) (as : List Av) : M Rv := fun ρ => if as.length = n ∧ okArgs ρ as = true then (match resolve ρ as with
  | none => .bad
  | some svs => (match F svs with
    | .ok r outs => .ok r (writeBack ρ as outs)
    | .err k outs => .err k (writeBack ρ as outs)
    | .bad => .bad)) else .bad
def callM (n : Nat) (F : Fn) (fl : M (List Av)) : M Rv := bindM fl fun as => callF n F as
theorem hasS_of : ∀ {as : List Av} {j i : Nat}, as[j]? = some (.s i) → hasS i as = true
  | [], _, _, h => by simp at h
  | .d _ :: as, 0, _, h => by simp at h
  | .d _ :: as, j + 1, i, h => hasS_of (as := as) (j := j) (by simpa using h)
  | .s k :: as, 0, i, h => by
    simp at h
    subst h
    simp [hasS]
  | .s k :: as, j + 1, i, h => by
    have := hasS_of (as := as) (j := j) (i := i) (by simpa using h)
    simp [hasS, this]
theorem okArgs_uniq {ρ : Ev} : ∀ {as : List Av} {j k i : Nat}, okArgs ρ as = true → ownAt ρ[i]? = true → as[j]? = some (.s i) → as[k]? = some (.s i) → j = k
  | [], _, _, _, _, _, h, _ => by simp at h
  | .d _ :: as, 0, _, _, _, _, h, _ => by simp at h
  | .d _ :: as, _ + 1, 0, _, _, _, _, h => by simp at h
  | .d _ :: as, j + 1, k + 1, i, hk, ho, h1, h2 => by
    rw [okArgs_uniq (as := as) (j := j) (k := k) (i := i) hk ho (by simpa using h1) (by simpa using h2)]
  | .s m :: as, 0, 0, _, _, _, _, _ => rfl
  | .s m :: as, 0, k + 1, i, hk, ho, h1, h2 => by
    simp at h1
    subst h1
    unfold okArgs at hk
    rw [ho, hasS_of (as := as) (j := k) (i := m) (by simpa using h2)] at hk
    simp at hk
  | .s m :: as, j + 1, 0, i, hk, ho, h1, h2 => by
    simp at h2
    subst h2
    unfold okArgs at hk
    rw [ho, hasS_of (as := as) (j := j) (i := m) (by simpa using h1)] at hk
    simp at hk
  | .s m :: as, j + 1, k + 1, i, hk, ho, h1, h2 => by
    unfold okArgs at hk
    rw [Bool.and_eq_true] at hk
    rw [okArgs_uniq (as := as) (j := j) (k := k) (i := i) hk.2 ho (by simpa using h1) (by simpa using h2)]
theorem posOf_some : ∀ {as : List Av} {i j : Nat}, posOf i as = some j → as[j]? = some (.s i)
  | [], _, _, h => by cases h
  | .d x :: as, i, j, h => by
    have h : (posOf i as).map (· + 1) = some j := h
    cases q : posOf i as with
    | none => rw [q] at h; cases h
    | some k =>
      rw [q] at h
      cases h
      rw [List.getElem?_cons_succ]
      exact posOf_some q
  | .s m :: as, i, j, h => by
    unfold posOf at h
    split at h
    · rename_i e
      cases h
      rw [e]
      rfl
    · cases q : posOf i as with
      | none => rw [q] at h; cases h
      | some k =>
        rw [q] at h
        cases h
        rw [List.getElem?_cons_succ]
        exact posOf_some q
theorem posOf_none : ∀ {as : List Av} {i j : Nat}, posOf i as = none → as[j]? ≠ some (.s i)
  | [], _, _, _ => by simp
  | .d x :: as, i, 0, _ => by simp
  | .d x :: as, i, j + 1, h => by
    have h : (posOf i as).map (· + 1) = none := h
    rw [List.getElem?_cons_succ]
    exact posOf_none (by cases q : posOf i as with
      | none => rfl
      | some k => rw [q] at h; cases h)
  | .s m :: as, i, j, h => by
    unfold posOf at h
    split at h
    · cases h
    · rename_i hne
      cases j with
      | zero =>
        simp
        exact hne
      | succ j =>
        rw [List.getElem?_cons_succ]
        exact posOf_none (by cases q : posOf i as with
          | none => rfl
          | some k => rw [q] at h; cases h)
theorem resolve_get {ρ : Ev} : ∀ {as : List Av} {svs : List Sv} {j : Nat}, resolve ρ as = some svs → (svs[j]? = none ∧ as[j]? = none) ∨ (∃ x, as[j]? = some (.d x) ∧ svs[j]? = some (.d x)) ∨ ∃ i s, as[j]? = some (.s i) ∧ ρ[i]? = some (some s) ∧ svs[j]? = some (s.mark true)
  | [], svs, j, h => by
    cases h
    exact .inl ⟨by simp, by simp⟩
  | .d x :: as, svs, j, h => by
    have h : (resolve ρ as).map (fun r => Sv.d x :: r) = some svs := h
    cases q : resolve ρ as with
    | none => rw [q] at h; cases h
    | some r =>
      rw [q] at h
      cases h
      cases j with
      | zero => exact .inr (.inl ⟨x, rfl, rfl⟩)
      | succ j =>
        rw [List.getElem?_cons_succ, List.getElem?_cons_succ]
        exact resolve_get q
  | .s i :: as, svs, j, h => by
    unfold resolve at h
    split at h
    · rename_i s hs
      cases q : resolve ρ as with
      | none => rw [q] at h; cases h
      | some r =>
        rw [q] at h
        cases h
        cases j with
        | zero => exact .inr (.inr ⟨i, s, rfl, hs, rfl⟩)
        | succ j =>
          rw [List.getElem?_cons_succ, List.getElem?_cons_succ]
          exact resolve_get q
    · cases h
theorem resolve_len {ρ : Ev} : ∀ {as : List Av} {svs : List Sv}, resolve ρ as = some svs → svs.length = as.length
  | [], svs, h => by cases h; rfl
  | .d x :: as, svs, h => by
    have h : (resolve ρ as).map (fun r => Sv.d x :: r) = some svs := h
    cases q : resolve ρ as with
    | none => rw [q] at h; cases h
    | some r =>
      rw [q] at h
      cases h
      rw [List.length_cons, List.length_cons, resolve_len q]
  | .s i :: as, svs, h => by
    unfold resolve at h
    split at h
    · cases q : resolve ρ as with
      | none => rw [q] at h; cases h
      | some r =>
        rw [q] at h
        cases h
        rw [List.length_cons, List.length_cons, resolve_len q]
    · cases h
theorem ras_get {K : Fg} {G : Hp} {σ : St} : ∀ {vs : List V} {as : List Av} {j : Nat} {a : Av}, Ras K G σ vs as → as[j]? = some a → ∃ v, vs[j]? = some v ∧ RA K G σ v a
  | _, [], _, _, _, e => by simp at e
  | _, a :: as, 0, x, h, e => by
    cases h with
    | cons h1 h2 =>
      simp at e
      subst e
      exact ⟨_, rfl, h1⟩
  | _, a :: as, j + 1, x, h, e => by
    cases h with
    | cons h1 h2 =>
      obtain ⟨v, q, r⟩ := ras_get (j := j) h2 (by simpa using e)
      exact ⟨v, by simpa using q, r⟩
theorem vsE_get {vs : List V} {i : Nat} {v : V} : (vsE vs)[i]? = some (some v) ↔ vs[i]? = some v := by
  unfold vsE
  rw [List.getElem?_map]
  cases vs[i]? <;> simp
section
variable {b : Bs} {c : Fc} {G G' H H' : Hp} {ρ outs : Ev} {σ : St} {as : List Av} {svs : List Sv} {vs : List V}
/-- where an own argument comes from -/
theorem arg_own (S : SIG b c G ρ σ H) (r : Ras b.K G σ vs as) (hr : resolve ρ as = some svs) {j : Nat} {s : Sv} (e : svs[j]? = some s) (ho : s.own = true) : ∃ i s0, as[j]? = some (.s i) ∧ ρ[i]? = some (some s0) ∧ s0.own = true ∧ s = s0.mark true ∧ ∃ p, vs[j]? = some (.ref p) ∧ σ[i]? = some (some (.ref p)) := by
  rcases resolve_get (j := j) hr with ⟨z, _⟩ | ⟨x, _, z⟩ | ⟨i, s0, h1, h2, h3⟩
  · rw [z] at e; cases e
  · rw [z] at e; cases e; cases ho
  · rw [h3] at e
    cases e
    rw [own_mark] at ho
    obtain ⟨v, hv, ra⟩ := ras_get r h1
    obtain ⟨u, hu, rs⟩ := S.sl i s0 h2
    have ra : σ[i]? = some (some v) := ra
    rw [ra] at hu
    cases hu
    obtain ⟨p, o, rfl, _, _⟩ := rs.at ho
    exact ⟨i, s0, h1, h2, ho, rfl, p, hv, ra⟩
theorem SIG.give (S : SIG b c G ρ σ H) (r : Ras b.K G σ vs as) (hk : okArgs ρ as = true) (hr : resolve ρ as = some svs) : SIG b (ctx0 G H svs vs) G (svsE svs) (vsE vs) H := by
  have hlen : svs.length = vs.length := (resolve_len hr).trans (Paired.length r).symm
  have base : SIG b ⟨G, H, refsOf (svsE svs) (vsE vs)⟩ G (svsE svs) (vsE vs) H := by
    refine ⟨by unfold svsE vsE; rw [List.length_map, List.length_map, hlen], Same.refl _, S.gh, fun a o e _ => e, fun a o e => .inl e, fun j s e => ?_, fun j k sj sk p e1 e2 o1 o2 a1 a2 => ?_, fun j s p e o1 a1 => .inr ⟨_, mem_refsOf.mpr ⟨s, e, o1, rfl, a1⟩⟩, fun j p f hj => ?_⟩
    · have e := svsE_get.mp e
      rcases resolve_get (j := j) hr with ⟨z, _⟩ | ⟨x, z1, z⟩ | ⟨i, s0, h1, h2, h3⟩
      · rw [z] at e; cases e
      · rw [z] at e
        cases e
        obtain ⟨v, hv, ra⟩ := ras_get r z1
        exact ⟨v, vsE_get.mpr hv, ra⟩
      · rw [h3] at e
        cases e
        obtain ⟨v, hv, ra⟩ := ras_get r h1
        obtain ⟨u, hu, rs⟩ := S.sl i s0 h2
        have ra : σ[i]? = some (some v) := ra
        rw [ra] at hu
        cases hu
        exact ⟨v, vsE_get.mpr hv, rs.mark true⟩
    · obtain ⟨i, s0, h1, h2, h3, _, q, h4, h5⟩ := arg_own S r hr (svsE_get.mp e1) o1
      obtain ⟨i', s0', g1, g2, g3, _, q', g4, g5⟩ := arg_own S r hr (svsE_get.mp e2) o2
      rw [vsE_get.mpr h4] at a1
      rw [vsE_get.mpr g4] at a2
      cases a1
      cases a2
      have ei := S.sp i i' s0 s0' p h2 g2 h3 g3 h5 g5
      subst ei
      exact okArgs_uniq hk (by rw [h2]; exact h3) h1 g1
    · obtain ⟨s, h1, h2, h3, h4⟩ := mem_refsOf.mp hj
      exact ⟨h4, s, h1, h2, h3⟩
  exact base
theorem wb_get (i : Nat) : (writeBack ρ as outs)[i]? = (ρ[i]?).map (wb1 as outs i) := by
  unfold writeBack
  rw [List.getElem?_mapIdx]
/-- behind the call -/
theorem SIG.take (S : SIG b c G ρ σ H) (r : Ras b.K G σ vs as) (hk : okArgs ρ as = true) (hr : resolve ρ as = some svs) (S' : SIG b (ctx0 G H svs vs) G' outs (vsE vs) H') : SIG b c G' (writeBack ρ as outs) σ H' := by
  -- a slot behind the call: as it was, or lent
  have lent : ∀ {i : Nat} {s0 : Sv} {p : Addr}, ρ[i]? = some (some s0) → s0.own = true → σ[i]? = some (some (.ref p)) → (∃ j s', posOf i as = some j ∧ outs[j]? = some (some s') ∧ s'.own = true ∧ (vsE vs)[j]? = some (some (.ref p)) ∧ (writeBack ρ as outs)[i]? = some (some (s'.mark s0.isRef))) ∨
      ((∀ j f, (j, p, f) ∉ (ctx0 G H svs vs).refs) ∧ (writeBack ρ as outs)[i]? = some (some s0)) := fun {i s0 p} h1 h2 h3 => by
    cases q : posOf i as with
    | some j =>
      have hj := posOf_some q
      obtain ⟨v, hv, ra⟩ := ras_get r hj
      have ra : σ[i]? = some (some v) := ra
      rw [ra] at h3
      cases h3
      have hs : svs[j]? = some (s0.mark true) := by
        rcases resolve_get (j := j) hr with ⟨_, z⟩ | ⟨x, z, _⟩ | ⟨i', s', z1, z2, z3⟩
        · rw [hj] at z; cases z
        · rw [hj] at z; cases z
        · rw [hj] at z1
          cases z1
          rw [h1] at z2
          cases z2
          exact z3
      have hm : (j, p, true) ∈ (ctx0 G H svs vs).refs := mem_refsOf.mpr ⟨_, svsE_get.mpr hs, by rw [own_mark]; exact h2, ref_mark h2, vsE_get.mpr hv⟩
      obtain ⟨g1, s', g2, g3, g4⟩ := S'.rf j p true hm
      refine .inl ⟨j, s', rfl, g2, g3, g1, ?_⟩
      rw [wb_get, h1]
      show some (wb1 as outs i (some s0)) = _
      unfold wb1
      dsimp only
      rw [if_pos h2, q]
      dsimp only
      rw [g2]
    | none =>
      refine .inr ⟨fun j f hj => ?_, ?_⟩
      · obtain ⟨s, r1, r2, r3, r4⟩ := mem_refsOf.mp hj
        obtain ⟨i', s', g1, g2, g3, _, p', g4, g5⟩ := arg_own S r hr (svsE_get.mp r1) r2
        rw [vsE_get.mpr g4] at r4
        cases r4
        have := S.sp i i' s0 s' p h1 g2 h2 g3 h3 g5
        subst this
        exact posOf_none q g1
      · rw [wb_get, h1]
        show some (wb1 as outs i (some s0)) = _
        unfold wb1
        dsimp only
        rw [if_pos h2, q]
  have back : ∀ {i : Nat} {s : Sv}, (writeBack ρ as outs)[i]? = some (some s) → ∃ s0 : Sv, ρ[i]? = some (some s0) ∧ s.own = s0.own ∧ (s0.own = false → s = s0) ∧ (s0.own = true → s.isRef = s0.isRef) := fun {i s} e => by
    have e0 := e
    rw [wb_get] at e
    cases q : ρ[i]? with
    | none => rw [q] at e; cases e
    | some o =>
      cases o with
      | none => rw [q] at e; cases e
      | some s0 =>
        refine ⟨s0, rfl, ?_⟩
        cases ho : s0.own with
        | false =>
          rw [q] at e
          have e : some (wb1 as outs i (some s0)) = some (some s) := e
          unfold wb1 at e
          dsimp only at e
          rw [ho, if_neg Bool.false_ne_true] at e
          cases e
          exact ⟨ho, fun _ => rfl, fun z => by cases z⟩
        | true =>
          obtain ⟨v, hv, rs⟩ := S.sl i s0 q
          obtain ⟨p, o, rfl, _, _⟩ := rs.at ho
          rcases lent q ho hv with ⟨j, s', h1, h2, h3, h4, h5⟩ | ⟨_, h5⟩
          · rw [h5] at e0
            cases e0
            exact ⟨by rw [own_mark]; exact h3, (fun z => by cases z), fun _ => ref_mark h3⟩
          · rw [h5] at e0
            cases e0
            exact ⟨ho, (fun z => by cases z), fun _ => rfl⟩
  have frz : ∀ {p o}, G p = none → H p = some o → G' p = none := fun {p o} g1 h1 => by
    cases z : G' p with
    | none => rfl
    | some u =>
      rcases S'.gn p u z with y | y
      · rw [show (ctx0 G H svs vs).G0 p = G p from rfl, g1] at y; cases y
      · rw [show (ctx0 G H svs vs).H0 p = H p from rfl, h1] at y; cases y
  have sGG : Same G G' := S'.g0
  refine ⟨by unfold writeBack; rw [List.length_mapIdx]; exact S.len, S.g0.trans sGG, S'.gh, fun a o h1 h2 => ?_, fun a o h1 => ?_, fun i s e => ?_, fun i j si sj p e1 e2 o1 o2 a1 a2 => ?_, fun i s p e o1 a1 => ?_, fun i p f hi => ?_⟩
  · refine S'.fr a o (S.fr a o h1 h2) fun j f hj => ?_
    obtain ⟨s, r1, r2, r3, r4⟩ := mem_refsOf.mp hj
    obtain ⟨i', s', g1, g2, g3, _, p', g4, g5⟩ := arg_own S r hr (svsE_get.mp r1) r2
    rw [vsE_get.mpr g4] at r4
    cases r4
    rcases S.nw i' s' a g2 g3 g5 with z | ⟨f', z⟩
    · rw [h1] at z; cases z
    · exact h2 i' f' z
  · rcases S'.gn a o h1 with z | z
    · exact S.gn a o z
    · exact .inr (S.fresh0 z)
  · obtain ⟨s0, h0, h1, h2, h3⟩ := back e
    obtain ⟨v, hv, rs⟩ := S.sl i s0 h0
    refine ⟨v, hv, ?_⟩
    cases ho : s0.own with
    | false =>
      rw [h2 ho]
      exact rs.keep sGG fun p u z _ _ => by rw [ho] at z; cases z
    | true =>
      obtain ⟨p, o, rfl, hp, gp⟩ := rs.at ho
      rcases lent h0 ho hv with ⟨j, s', q1, q2, q3, q4, q5⟩ | ⟨q1, q5⟩
      · rw [q5] at e
        cases e
        obtain ⟨u, hu, ru⟩ := S'.sl j s' q2
        rw [q4] at hu
        cases hu
        exact ru.mark _
      · rw [q5] at e
        cases e
        refine rs.keep sGG fun p' u _ ev hq => ?_
        cases ev
        exact ⟨S'.fr p u hq q1, frz gp hq⟩
  · obtain ⟨s0, h0, h1, _⟩ := back e1
    obtain ⟨s1, g0, g1, _⟩ := back e2
    exact S.sp i j s0 s1 p h0 g0 (by rw [← h1]; exact o1) (by rw [← g1]; exact o2) a1 a2
  · obtain ⟨s0, h0, h1, _⟩ := back e
    exact S.nw i s0 p h0 (by rw [← h1]; exact o1) a1
  · obtain ⟨h1, s0, h2, h3, h4⟩ := S.rf i p f hi
    rcases lent h2 h3 h1 with ⟨j, s', q1, q2, q3, q4, q5⟩ | ⟨q1, q5⟩
    · exact ⟨h1, _, q5, by rw [own_mark]; exact q3, by rw [ref_mark q3]; exact h4⟩
    · exact ⟨h1, s0, q5, h3, h4⟩
theorem own_back (S : SIG b c G ρ σ H) {i : Nat} {s : Sv} (e : (writeBack ρ as outs)[i]? = some (some s)) (ho : s.own = true) : ∃ s0, ρ[i]? = some (some s0) ∧ s0.own = true := by
  rw [wb_get] at e
  cases q : ρ[i]? with
  | none => rw [q] at e; cases e
  | some o =>
    cases o with
    | none => rw [q] at e; cases e
    | some s0 =>
      refine ⟨s0, rfl, ?_⟩
      cases h0 : s0.own with
      | true => rfl
      | false =>
        rw [q] at e
        have e : some (wb1 as outs i (some s0)) = some (some s) := e
        unfold wb1 at e
        dsimp only at e
        rw [h0, if_neg Bool.false_ne_true] at e
        cases e
        rw [h0] at ho
        cases ho
end
theorem rn_inner {b : Bs} {c : Fc} {G G' H H' : Hp} {ρ : Ev} {σ : St} {v : V} {r : Rv} {refs : List (Nat × Addr × Bool)} (S : SIG b c G ρ σ H) (h : RN b ⟨G, H, refs⟩ G' H' v r) : RN b c G' H' v r := by
  cases r with
  | d x => exact h
  | l xs => obtain ⟨p, vs, h1, h2, h3, h4, h5⟩ := h; exact ⟨p, vs, h1, h2, h3, h4, S.fresh0 h5⟩
  | k xs => obtain ⟨p, vs, h1, h2, h3, h4, h5⟩ := h; exact ⟨p, vs, h1, h2, h3, h4, S.fresh0 h5⟩
  | t xs => obtain ⟨p, vs, h1, h2, h3, h4, h5⟩ := h; exact ⟨p, vs, h1, h2, h3, h4, S.fresh0 h5⟩
section
variable {X : Cx} {b : Bs} {W : WX} {k n : Nat} {f : Addr} {fd : FuncData} {ps : List Str} {F : Fn} {x : Str} {p pos : Pos} {e : Expr} {es : List Expr} {fl : M (List Av)}
theorem m_call (FN : FnOk X.prog X.w X.K X.mg X.base (L2.CX X.prog X.w) k f fd ps (spF b n F)) (hr : Room k X.A) (hg : Gl X x) (hm : X.mg x = some (.ref f)) (hk : PySem.W.keepIn X.K (.ref f) = true) (hb : Binds X.K fd ps []) (tk : Takes X W)
    (ha : PA X (e :: es) (tL b W fl)) (hdb : (x == ("__debug__" : Str)) = false := by decide) (he : starEach (e :: es) X.env = (false, eval e X.env) :: starEach es X.env := by rfl) (hpl : (backTo pos (starEach es X.env)).any (·.1) = false := by rfl) :
    PE X (.Call (.Name x p) (e :: es) [] pos) (tV b W (callM n F fl)) := weakE (pe_callS (E := WE W) FN hr hg hm hk hb (fun σ => passAt tk σ) ha hdb he hpl) fun σ H Q ⟨c, G, ρ, S, q⟩ => by
  refine ⟨c, G, ρ, S, (Post.bind q).imp fun as ρ1 G1 H1 e1 S1 q1 vs hvs => ?_⟩
  unfold callF at q1
  split at q1
  · rename_i hc
    cases hres : resolve ρ1 as with
    | none => rw [hres] at q1; exact q1.elim
    | some svs =>
      rw [hres] at q1
      dsimp only at q1
      have S2 := S1.give hvs hc.2 hres
      refine ⟨G1, svs, by rw [Paired.length hvs]; exact hc.1, S2, fun s hs ho => ?_, ?_⟩
      · obtain ⟨j, hj⟩ := List.getElem?_of_mem hs
        obtain ⟨i, s0, h1, h2, h3, rfl, _⟩ := arg_own S1 hvs hres hj ho
        exact ref_mark h3
      · cases hF : F svs with
        | bad => rw [hF] at q1; exact q1.elim
        | err kk outs =>
          rw [hF] at q1
          exact fun H' G' S' => q1 H' G' S'.g0 (S1.take hvs hc.2 hres S')
        | ok rr outs =>
          rw [hF] at q1
          intro v H' G' S' rn
          refine q1 H' G' S'.g0 (S1.take hvs hc.2 hres S') v (rn_inner S1 rn) fun pp ep hn i s es ho a1 => ?_
          obtain ⟨s0, h1, h2⟩ := own_back S1 es ho
          exact S1.noOwn (rn_new rn hn ep) i s0 h1 h2 a1
  · exact q1.elim
end
end G8
namespace G8
open PySem L2
/-! what operators do with data -/
section
variable {K : Fg} {G H : Hp}
mutual
theorem Rp.plain : ∀ (d : Dt) (v : V), Rp K G v d → d.plain = true
  | .none, _, _ => rfl
  | .bool b, _, _ => rfl
  | .int i, _, _ => rfl
  | .str x, _, _ => rfl
  | .list ds, _, h => by
    cases h with
    | lst h1 h2 => exact Rps.plain ds _ h2
  | .tuple ds, _, h => by
    cases h with
    | tup h1 h2 => exact Rps.plain ds _ h2
  | .dict _, _, h => by cases h
theorem Rps.plain : ∀ (ds : List Dt) (vs : List V), Rps K G vs ds → PyData.plainAll ds = true
  | [], _, _ => rfl
  | d :: ds, _, h => by
    cases h with
    | cons h1 h2 =>
      show (d.plain && PyData.plainAll ds) = true
      rw [Rp.plain d _ h1, Rps.plain ds _ h2]
      rfl
end
theorem RO.plain {v : V} {x : Dt} (h : RO K G H v x) : x.plain = true := by
  rcases h with h | ⟨p, vs, xs, _, rfl, _, h⟩
  · exact Rp.plain _ _ h
  · exact Rps.plain _ _ h
end
def shal (x : Dt) : Bool := decide (x.depth ≤ 60)
def shalL (x : List Dt) : Bool := decide (PyData.depthAll x ≤ 60)
/-- readable data at two places -/
def rTwo (K : Fg) (g : Dt → Dt → Option Bool) : R2 := fun x y H Q => ∃ d e z, Dp K H x d ∧ Dp K H y e ∧ d.plain = true ∧ e.plain = true ∧ g d e = some z ∧ Q (.bl z) H
theorem tells_two {b : Bs} (g : Dt → Dt → Option Bool) : Tells b (rTwo b.K g) g := fun {c G H ρ σ x y dx dy z Q} S hx hy e q => ⟨dx, dy, z, hx.dp S.gh, hy.dp S.gh, hx.plain, hy.plain, e, q⟩
def eqD (x y : Dt) : Option Bool := if shal x && shal y then some (PyData.eqv x y) else none
def neD (x y : Dt) : Option Bool := if shal x && shal y then some (!PyData.eqv x y) else none
def inD (x y : Dt) : Option Bool := match y with
  | .list ys => if shal x && shalL ys then some (ys.any fun z => PyData.eqv z x) else none
  | .tuple ys => if shal x && shalL ys then some (ys.any fun z => PyData.eqv z x) else none
  | _ => none
def ninD (x y : Dt) : Option Bool := (inD x y).map not
section
variable {X : Cx}
theorem sh_of {x : Dt} (h : shal x = true) : x.depth ≤ 60 := of_decide_eq_true h
theorem shL_of {x : List Dt} (h : shalL x = true) : PyData.depthAll x ≤ 60 := of_decide_eq_true h
theorem o_eq (hu : X.A.units + 64 < cLine) : OpR X (compareOp .Eq) (rTwo X.K eqD) := by
  intro pins s σ H x y v u Q I rx ry h
  obtain ⟨d, e, z, hd, he, pd, pe, hg, q⟩ := h
  obtain ⟨as, r1⟩ := Dp.reads I d x v hd rx
  obtain ⟨bs, r2⟩ := Dp.reads I e y u he ry
  unfold eqD at hg
  split at hg
  · rename_i hs
    rw [Bool.and_eq_true] at hs
    cases hg
    have h1 := sh_of hs.1
    exact SeqAt.eq_plain r1 r2 pd pe (by have := Nat.min_le_left d.depth e.depth; omega) ⟨.bl _, H, I, rfl, q⟩
  · cases hg
theorem o_ne (hu : X.A.units + 64 < cLine) : OpR X (compareOp .NotEq) (rTwo X.K neD) := by
  intro pins s σ H x y v u Q I rx ry h
  obtain ⟨d, e, z, hd, he, pd, pe, hg, q⟩ := h
  obtain ⟨as, r1⟩ := Dp.reads I d x v hd rx
  obtain ⟨bs, r2⟩ := Dp.reads I e y u he ry
  unfold neD at hg
  split at hg
  · rename_i hs
    rw [Bool.and_eq_true] at hs
    cases hg
    have h1 := sh_of hs.1
    exact SeqAt.ne_plain r1 r2 pd pe (by have := Nat.min_le_left d.depth e.depth; omega) ⟨.bl _, H, I, rfl, q⟩
  · cases hg
theorem o_in (hu : X.A.units + 64 < cLine) : OpR X (compareOp .In) (rTwo X.K inD) := by
  intro pins s σ H x y v u Q I rx ry h
  obtain ⟨d, e, z, hd, he, pd, pe, hg, q⟩ := h
  obtain ⟨as, r1⟩ := Dp.reads I d x v hd rx
  obtain ⟨bs, r2⟩ := Dp.reads I e y u he ry
  unfold inD at hg
  split at hg
  · rename_i ys
    split at hg
    · rename_i hs
      rw [Bool.and_eq_true] at hs
      cases hg
      have h1 := sh_of hs.1
      exact SeqAt.in_list_data r2 r1 pe pd (by have := Nat.min_le_right (PyData.depthAll ys) d.depth; omega) ⟨.bl _, H, I, rfl, q⟩
    · cases hg
  · rename_i ys
    split at hg
    · rename_i hs
      rw [Bool.and_eq_true] at hs
      cases hg
      have h1 := sh_of hs.1
      exact SeqAt.in_tuple_data r2 r1 pe pd (by have := Nat.min_le_right (PyData.depthAll ys) d.depth; omega) ⟨.bl _, H, I, rfl, q⟩
    · cases hg
  · cases hg
theorem o_nin (hu : X.A.units + 64 < cLine) : OpR X (compareOp .NotIn) (rTwo X.K ninD) := by
  intro pins s σ H x y v u Q I rx ry h
  obtain ⟨d, e, z, hd, he, pd, pe, hg, q⟩ := h
  obtain ⟨as, r1⟩ := Dp.reads I d x v hd rx
  obtain ⟨bs, r2⟩ := Dp.reads I e y u he ry
  unfold ninD inD at hg
  split at hg
  · rename_i ys
    split at hg
    · rename_i hs
      rw [Bool.and_eq_true] at hs
      cases hg
      have h1 := sh_of hs.1
      exact SeqAt.notIn_list_data r2 r1 pe pd (by have := Nat.min_le_right (PyData.depthAll ys) d.depth; omega) ⟨.bl _, H, I, rfl, q⟩
    · cases hg
  · rename_i ys
    split at hg
    · rename_i hs
      rw [Bool.and_eq_true] at hs
      cases hg
      have h1 := sh_of hs.1
      exact SeqAt.notIn_tuple_data r2 r1 pe pd (by have := Nat.min_le_right (PyData.depthAll ys) d.depth; omega) ⟨.bl _, H, I, rfl, q⟩
    · cases hg
  · cases hg
end
def ltI (x y : Dt) : Option Bool := match x, y with
  | .int i, .int j => some (decide (i < j))
  | _, _ => none
def leI (x y : Dt) : Option Bool := match x, y with
  | .int i, .int j => some (decide (i ≤ j))
  | _, _ => none
def gtI (x y : Dt) : Option Bool := match x, y with
  | .int i, .int j => some (decide (j < i))
  | _, _ => none
def geI (x y : Dt) : Option Bool := match x, y with
  | .int i, .int j => some (decide (j ≤ i))
  | _, _ => none
theorem tells_ints {b : Bs} {g : Int → Int → Bool} {h : Dt → Dt → Option Bool} (hh : ∀ x y z, h x y = some z → ∃ i j, x = .int i ∧ y = .int j ∧ z = g i j) : Tells b (rI0 fun i j => .bl (g i j)) h := fun {c G H ρ σ x y dx dy z Q} S hx hy e q => by
  obtain ⟨i, j, rfl, rfl, rfl⟩ := hh _ _ _ e
  exact ⟨i, j, hx.int, hy.int, q⟩
theorem t_lt {b : Bs} : Tells b (rI0 fun i j => .bl (decide (i < j))) ltI := tells_ints fun x y z e => by
  cases x <;> cases y <;> first | (cases e; exact ⟨_, _, rfl, rfl, rfl⟩) | cases e
theorem t_le {b : Bs} : Tells b (rI0 fun i j => .bl (decide (i ≤ j))) leI := tells_ints fun x y z e => by
  cases x <;> cases y <;> first | (cases e; exact ⟨_, _, rfl, rfl, rfl⟩) | cases e
theorem t_gt {b : Bs} : Tells b (rI0 fun i j => .bl (decide (j < i))) gtI := tells_ints fun x y z e => by
  cases x <;> cases y <;> first | (cases e; exact ⟨_, _, rfl, rfl, rfl⟩) | cases e
theorem t_ge {b : Bs} : Tells b (rI0 fun i j => .bl (decide (j ≤ i))) geI := tells_ints fun x y z e => by
  cases x <;> cases y <;> first | (cases e; exact ⟨_, _, rfl, rfl, rfl⟩) | cases e
/-- comparisons as values -/
def cmpM (g : Dt → Dt → Option Bool) (fa fb : M Av) : M Av := bindM fa fun a => bindM fb fun b => optM fun ρ => (res ρ a).bind fun x => (res ρ b).bind fun y => (g x y).map fun z => .d (.bool z)
section
variable {X : Cx} {b : Bs} {W : WX} {a a2 : Expr} {fa fb : M Av} {pos : Pos}
theorem m_cmpB {op : CmpOp} {r : R2} {g : Dt → Dt → Option Bool} (ho : OpR X (compareOp op) r) (t : Tells b r g) (ha : PE X a (tE b W fa)) (hb : PE X a2 (tE b W fb)) (hm : behindInMarks op a2 = false) : PE X (.Compare a [op] [a2] pos) (tE b W (cmpM g fa fb)) :=
  weakE (pe_cmpR ho ha hb hm) fun σ H Q ⟨c, G, ρ, S, q⟩ => ⟨c, G, ρ, S, (Post.bind q).imp fun xa ρ1 G1 H1 e1 S1 q1 v hv => ⟨c, G1, ρ1, S1, (Post.bind q1).imp fun xb ρ2 G2 H2 e2 S2 q2 u hu => by
    obtain ⟨z, h1, h2⟩ := q2.opt S2
    cases hx : res ρ2 xa with
    | none => rw [hx] at h1; cases h1
    | some x =>
      cases hy : res ρ2 xb with
      | none => rw [hx, hy] at h1; cases h1
      | some y =>
        rw [hx, hy] at h1
        dsimp only [Option.bind_some] at h1
        cases hg : g x y with
        | none => rw [hg] at h1; cases h1
        | some k =>
          rw [hg] at h1
          cases h1
          exact t S2 ((hv.mono e2).res S2 hx) (hu.res S2 hy) hg (h2 _ (.bl k))⟩⟩
theorem m_lt (ha : PE X a (tE b W fa)) (hb : PE X a2 (tE b W fb)) : PE X (.Compare a [.Lt] [a2] pos) (tE b W (cmpM ltI fa fb)) := m_cmpB op_lt t_lt ha hb (nomark _)
theorem m_le (ha : PE X a (tE b W fa)) (hb : PE X a2 (tE b W fb)) : PE X (.Compare a [.LtE] [a2] pos) (tE b W (cmpM leI fa fb)) := m_cmpB op_le t_le ha hb (nomark _)
theorem m_gt (ha : PE X a (tE b W fa)) (hb : PE X a2 (tE b W fb)) : PE X (.Compare a [.Gt] [a2] pos) (tE b W (cmpM gtI fa fb)) := m_cmpB op_gt t_gt ha hb (nomark _)
theorem m_ge (ha : PE X a (tE b W fa)) (hb : PE X a2 (tE b W fb)) : PE X (.Compare a [.GtE] [a2] pos) (tE b W (cmpM geI fa fb)) := m_cmpB op_ge t_ge ha hb (nomark _)
theorem m_eq (hu : X.A.units + 64 < cLine) (hK : X.K = b.K) (ha : PE X a (tE b W fa)) (hb : PE X a2 (tE b W fb)) : PE X (.Compare a [.Eq] [a2] pos) (tE b W (cmpM eqD fa fb)) := m_cmpB (o_eq hu) (by rw [hK]; exact tells_two _) ha hb (nomark _)
theorem m_ne (hu : X.A.units + 64 < cLine) (hK : X.K = b.K) (ha : PE X a (tE b W fa)) (hb : PE X a2 (tE b W fb)) : PE X (.Compare a [.NotEq] [a2] pos) (tE b W (cmpM neD fa fb)) := m_cmpB (o_ne hu) (by rw [hK]; exact tells_two _) ha hb (nomark _)
theorem m_in (hu : X.A.units + 64 < cLine) (hK : X.K = b.K) (ha : PE X a (tE b W fa)) (hb : PE X a2 (tE b W fb)) (hm : behindInMarks .In a2 = false := by rfl) : PE X (.Compare a [.In] [a2] pos) (tE b W (cmpM inD fa fb)) := m_cmpB (o_in hu) (by rw [hK]; exact tells_two _) ha hb hm
theorem m_nin (hu : X.A.units + 64 < cLine) (hK : X.K = b.K) (ha : PE X a (tE b W fa)) (hb : PE X a2 (tE b W fb)) (hm : behindInMarks .NotIn a2 = false := by rfl) : PE X (.Compare a [.NotIn] [a2] pos) (tE b W (cmpM ninD fa fb)) := m_cmpB (o_nin hu) (by rw [hK]; exact tells_two _) ha hb hm
/-! is None -/
def isNone : Dt → Bool
  | .none => true
  | _ => false
def nonA (ρ : Ev) : Av → Option Bool
  | .d x => some (isNone x)
  | .s i => match ρ[i]? with
    | some (some (.d x)) => some (isNone x)
    | some (some _) => some false
    | _ => none
def isN (n : Bool) (fa : M Av) : M Av := bindM fa fun a => optM fun ρ => (nonA ρ a).map fun k => .d (.bool (if n then !k else k))
theorem isNone_of {K : Fg} {G : Hp} {v : V} {x : Dt} (h : Rp K G v x) : decide (v = .non) = isNone x := by
  cases h <;> rfl
theorem nonA_of {c : Fc} {G H : Hp} {ρ : Ev} {σ : St} {v : V} {z : Av} {k : Bool} (S : SIG b c G ρ σ H) (h : RA b.K G σ v z) (e : nonA ρ z = some k) : decide (v = .non) = k := by
  cases z with
  | d x => cases e; exact isNone_of h
  | s i =>
    have e : (match ρ[i]? with
      | some (some (.d x)) => some (isNone x)
      | some (some _) => some false
      | _ => none) = some k := e
    have h : σ[i]? = some (some v) := h
    split at e
    · rename_i x hx
      cases e
      obtain ⟨u, hu, r⟩ := S.sl i _ hx
      rw [h] at hu
      cases hu
      exact isNone_of r
    · rename_i sv hne hx
      cases e
      obtain ⟨u, hu, r⟩ := S.sl i _ hx
      rw [h] at hu
      cases hu
      cases sv with
      | d x => exact absurd rfl (hne x)
      | ls r' xs => obtain ⟨p, _, rfl, _⟩ := r; rfl
      | dk r' xs => obtain ⟨p, _, rfl, _⟩ := r; rfl
      | dt r' xs => obtain ⟨p, _, rfl, _⟩ := r; rfl
      | ex k => obtain ⟨p, rfl, _⟩ := r; rfl
      | scr ns => obtain ⟨p, rfl, _⟩ := r; rfl
    · cases e
theorem m_isN {j pos'} (ha : PE X a (tE b W fa)) : PE X (.Compare a [.Is] [.Constant .none j pos'] pos) (tE b W (isN false fa)) := weakE (pe_cmp (pc_isN ha)) fun σ H Q ⟨c, G, ρ, S, q⟩ => ⟨c, G, ρ, S, (Post.bind q).imp fun z ρ1 G1 H1 e1 S1 q1 v hv => by
  obtain ⟨k, h1, h2⟩ := q1.opt S1
  cases hx : nonA ρ1 z with
  | none => rw [hx] at h1; cases h1
  | some t =>
    rw [hx] at h1
    cases h1
    rw [nonA_of S1 hv hx]
    exact h2 _ (.bl t)⟩
theorem m_notN {j pos'} (ha : PE X a (tE b W fa)) : PE X (.Compare a [.IsNot] [.Constant .none j pos'] pos) (tE b W (isN true fa)) := weakE (pe_cmp (pc_notN ha)) fun σ H Q ⟨c, G, ρ, S, q⟩ => ⟨c, G, ρ, S, (Post.bind q).imp fun z ρ1 G1 H1 e1 S1 q1 v hv => by
  obtain ⟨k, h1, h2⟩ := q1.opt S1
  cases hx : nonA ρ1 z with
  | none => rw [hx] at h1; cases h1
  | some t =>
    rw [hx] at h1
    cases h1
    rw [nonA_of S1 hv hx]
    exact h2 _ (.bl (!t))⟩
end
/-! comparisons as tests -/
def cmpT (g : Dt → Dt → Option Bool) (fa fb : M Av) : M Bool := bindM fa fun a => bindM fb fun b => optM fun ρ => (res ρ a).bind fun x => (res ρ b).bind fun y => g x y
def isNT (n : Bool) (fa : M Av) : M Bool := bindM fa fun a => optM fun ρ => (nonA ρ a).map fun k => if n then !k else k
section
variable {X : Cx} {b : Bs} {W : WX} {a a2 : Expr} {fa fb : M Av} {pos : Pos}
theorem m_tcmp {op : CmpOp} {r : R2} {g : Dt → Dt → Option Bool} (ho : OpR X (compareOp op) r) (t : Tells b r g) (ha : PE X a (tE b W fa)) (hb : PE X a2 (tE b W fb)) (hm : behindInMarks op a2 = false) : PT X (.Compare a [op] [a2] pos) (tT b W (cmpT g fa fb)) :=
  weakT (pt_cmpR ho ha hb hm) fun σ H Q ⟨c, G, ρ, S, q⟩ => ⟨c, G, ρ, S, (Post.bind q).imp fun xa ρ1 G1 H1 e1 S1 q1 v hv => ⟨c, G1, ρ1, S1, (Post.bind q1).imp fun xb ρ2 G2 H2 e2 S2 q2 u hu => by
    obtain ⟨z, h1, h2⟩ := q2.opt S2
    cases hx : res ρ2 xa with
    | none => rw [hx] at h1; cases h1
    | some x =>
      cases hy : res ρ2 xb with
      | none => rw [hx, hy] at h1; cases h1
      | some y =>
        rw [hx, hy] at h1
        exact t S2 ((hv.mono e2).res S2 hx) (hu.res S2 hy) h1 ⟨z, rfl, h2⟩⟩⟩
theorem m_tisN {j pos'} (ha : PE X a (tE b W fa)) : PT X (.Compare a [.Is] [.Constant .none j pos'] pos) (tT b W (isNT false fa)) := weakT (pt_cmp (pc_isN ha)) fun σ H Q ⟨c, G, ρ, S, q⟩ => ⟨c, G, ρ, S, (Post.bind q).imp fun z ρ1 G1 H1 e1 S1 q1 v hv => by
  obtain ⟨k, h1, h2⟩ := q1.opt S1
  cases hx : nonA ρ1 z with
  | none => rw [hx] at h1; cases h1
  | some t =>
    rw [hx] at h1
    cases h1
    exact ⟨_, congrArg V.bl (nonA_of S1 hv hx), h2⟩⟩
theorem m_tnotN {j pos'} (ha : PE X a (tE b W fa)) : PT X (.Compare a [.IsNot] [.Constant .none j pos'] pos) (tT b W (isNT true fa)) := weakT (pt_cmp (pc_notN ha)) fun σ H Q ⟨c, G, ρ, S, q⟩ => ⟨c, G, ρ, S, (Post.bind q).imp fun z ρ1 G1 H1 e1 S1 q1 v hv => by
  obtain ⟨k, h1, h2⟩ := q1.opt S1
  cases hx : nonA ρ1 z with
  | none => rw [hx] at h1; cases h1
  | some t =>
    rw [hx] at h1
    cases h1
    exact ⟨_, congrArg (fun k => V.bl (!k)) (nonA_of S1 hv hx), h2⟩⟩
end
/-! arithmetic, lists by operators -/
def small64 (i : Int) : Bool := Nat.blt i.natAbs 18446744073709551616
def addD (x y : Dt) : Option Rv := match x, y with
  | .int i, .int j => some (.d (.int (i + j)))
  | .list xs, .list ys => if xs.length + ys.length ≤ 1000000 then some (.l (xs ++ ys)) else none
  | .str s, .str t => if s.length + t.length ≤ 1000000 then some (.d (.str (s ++ t))) else none
  | _, _ => none
def subD (x y : Dt) : Option Rv := match x, y with
  | .int i, .int j => some (.d (.int (i - j)))
  | _, _ => none
def mulD (x y : Dt) : Option Rv := match x, y with
  | .int i, .int j => if small64 i || small64 j then some (.d (.int (i * j))) else none
  | .list xs, .int k => if mid k && decide (k ≤ 1000) && decide (xs.length ≤ 1000) then some (.l (List.replicate k.toNat xs).flatten) else none
  | _, _ => none
def fdivD (x y : Dt) : Option Rv := match x, y with
  | .int i, .int j => if 0 < j ∧ j.natAbs < 1073741824 then some (.d (.int (i / j))) else none
  | _, _ => none
def modD (x y : Dt) : Option Rv := match x, y with
  | .int i, .int j => if 0 < j then some (.d (.int (i % j))) else none
  | _, _ => none
def powD (x y : Dt) : Option Rv := match x, y with
  | .int i, .int j => if 0 ≤ j ∧ j ≤ 1000000 ∧ i.natAbs < 2 ^ 64 then some (.d (.int (i ^ j.toNat))) else none
  | _, _ => none
theorem fin_d {b : Bs} {c : Fc} {G H : Hp} {ρ : Ev} {σ : St} {v : V} {x : Dt} {Q : VK} (S : SIG b c G ρ σ H) (q : ∀ v H' G', Same G G' → SIG b c G' ρ σ H' → RN b c G' H' v (.d x) → Apart ρ σ v (.d x) → Q v H') (r : Rp b.K G v x) : Q v H :=
  q v H G (Same.refl G) S r fun p _ z => by cases z
theorem fin_l {b : Bs} {c : Fc} {G H : Hp} {ρ : Ev} {σ : St} {p : Addr} {vs : List V} {xs : List Dt} {Q : VK} (S : SIG b c G ρ σ H) (q : ∀ v H' G', Same G G' → SIG b c G' ρ σ H' → RN b c G' H' v (.l xs) → Apart ρ σ v (.l xs) → Q v H') (hp : H p = none) (r : Rps b.K G vs xs) : Q (.ref p) (upd H p (.lst vs)) :=
  q (.ref p) _ G (Same.refl G) (S.alloc hp) ⟨p, vs, rfl, upd_same, S.gh.free hp, r, S.fresh0 hp⟩ fun p' ep _ => by cases ep; exact S.noOwn hp
def rAddD : R2 := fun x y H Q => (rI0 fun i j => .int (i + j)) x y H Q ∨ rCat x y H Q ∨ (∃ i j, x = .str i ∧ y = .str j ∧ i.length + j.length ≤ sizeLine ∧ Q (.str (i ++ j)) H)
theorem le_line {n : Nat} (h : n ≤ 1000000) : n ≤ sizeLine := Nat.le_trans h (by decide)
theorem d_add {b : Bs} : Does2 b rAddD addD := fun {c G H ρ σ x y dx dy z Q} S hx hy e q => by
  unfold addD at e
  split at e
  · cases e
    exact .inl ⟨_, _, hx.int, hy.int, fin_d S q (.int _)⟩
  · split at e
    · rename_i xs ys hl
      cases e
      obtain ⟨p, vs, rfl, h1, h2⟩ := hx.list S.gh
      obtain ⟨p', vs', rfl, h1', h2'⟩ := hy.list S.gh
      exact .inr (.inl ⟨p, p', vs, vs', rfl, rfl, h1, h1', by rw [h2.length, h2'.length]; exact le_line hl, fun r hr => fin_l S q hr (h2.append h2')⟩)
    · cases e
  · split at e
    · rename_i hl
      cases e
      exact .inr (.inr ⟨_, _, hx.str, hy.str, le_line hl, fin_d S q (.str _)⟩)
    · cases e
  · cases e
def rMulD : R2 := fun x y H Q => (rI CMul fun i j => .int (i * j)) x y H Q ∨ rRep x y H Q
theorem small64_of {i : Int} (h : small64 i = true) : -(2 ^ 64) < i ∧ i < 2 ^ 64 := by
  unfold small64 at h
  have h := Nat.blt_eq.mp h
  omega
theorem d_mul {b : Bs} : Does2 b rMulD mulD := fun {c G H ρ σ x y dx dy z Q} S hx hy e q => by
  unfold mulD at e
  split at e
  · split at e
    · rename_i hl
      cases e
      rw [Bool.or_eq_true] at hl
      exact .inl ⟨_, _, hx.int, hy.int, hl.elim (fun z => .inl (small64_of z)) fun z => .inr (small64_of z), fin_d S q (.int _)⟩
    · cases e
  · split at e
    · rename_i xs k hl
      cases e
      rw [Bool.and_eq_true, Bool.and_eq_true, decide_eq_true_eq, decide_eq_true_eq] at hl
      obtain ⟨⟨l1, l2⟩, l3⟩ := hl
      have l1 := mid_of l1
      obtain ⟨p, vs, rfl, h1, h2⟩ := hx.list S.gh
      refine .inr ⟨p, k, vs, rfl, hy.int, h1, by omega, by omega, ?_, fun r hr => fin_l S q hr (h2.rep _)⟩
      rw [h2.length]
      have : k.toNat ≤ 1000 := by omega
      exact Nat.le_trans (Nat.mul_le_mul l3 this) (by decide)
    · cases e
  · cases e
theorem d_sub {b : Bs} : Does2 b (rI0 fun i j => .int (i - j)) subD := fun {c G H ρ σ x y dx dy z Q} S hx hy e q => by
  unfold subD at e
  split at e
  · cases e
    exact ⟨_, _, hx.int, hy.int, fin_d S q (.int _)⟩
  · cases e
theorem d_fdiv {b : Bs} : Does2 b (rI CDiv fun i j => .int (i / j)) fdivD := fun {c G H ρ σ x y dx dy z Q} S hx hy e q => by
  unfold fdivD at e
  split at e
  · split at e
    · rename_i hl
      cases e
      exact ⟨_, _, hx.int, hy.int, ⟨hl.1, by have := hl.2; omega⟩, fin_d S q (.int _)⟩
    · cases e
  · cases e
theorem d_mod {b : Bs} : Does2 b (rI (fun _ j => 0 < j) fun i j => .int (i % j)) modD := fun {c G H ρ σ x y dx dy z Q} S hx hy e q => by
  unfold modD at e
  split at e
  · split at e
    · rename_i hl
      cases e
      exact ⟨_, _, hx.int, hy.int, hl, fin_d S q (.int _)⟩
    · cases e
  · cases e
theorem d_pow {b : Bs} : Does2 b (rI CPow fun i j => .int (i ^ j.toNat)) powD := fun {c G H ρ σ x y dx dy z Q} S hx hy e q => by
  unfold powD at e
  split at e
  · split at e
    · rename_i hl
      cases e
      exact ⟨_, _, hx.int, hy.int, hl, fin_d S q (.int _)⟩
    · cases e
  · cases e
def negD (x : Dt) : Option Rv := match x with
  | .int i => some (.d (.int (-i)))
  | _ => none
theorem d_neg {b : Bs} : Does1 b (rU fun i => .int (-i)) negD := fun {c G H ρ σ x dx z Q} S hx e q => by
  unfold negD at e
  split at e
  · cases e
    exact ⟨_, hx.int, fin_d S q (.int _)⟩
  · cases e
/-- an item -/
def ixD (x y : Dt) : Option Rv := match x, y with
  | .list xs, .int i => (atI xs i).map Rv.d
  | .tuple xs, .int i => (atI xs i).map Rv.d
  | .str s, .int i => if s.length ≤ 1000000 then (atI s.cps.toList i).map fun c => .d (.str ⟨#[c]⟩) else none
  | _, _ => none
theorem atI_rps {K : Fg} {G : Hp} {vs : List V} {xs : List Dt} {i : Int} {d : Dt} (r : Rps K G vs xs) (e : atI xs i = some d) : ∃ v, atI vs i = some v ∧ Rp K G v d := by
  unfold atI at e ⊢
  rw [← r.length] at e
  cases h : ixN vs.length i with
  | none => rw [h] at e; cases e
  | some j =>
    rw [h] at e
    exact r.get e
theorem d_ix {b : Bs} : Does2 b (rIx b.K) ixD := fun {c G H ρ σ x y dx dy z Q} S hx hy e q => by
  unfold ixD at e
  split at e
  · rename_i xs i
    obtain ⟨p, vs, rfl, h1, h2⟩ := hx.list S.gh
    cases hd : atI xs i with
    | none => rw [hd] at e; cases e
    | some d =>
      rw [hd] at e
      cases e
      obtain ⟨v, h3, h4⟩ := atI_rps h2 hd
      exact .inl ⟨p, vs, i, v, rfl, hy.int, SqL.of h1, h3, fin_d S q h4⟩
  · rename_i xs i
    obtain ⟨p, vs, rfl, h1, h2⟩ := hx.tup
    cases hd : atI xs i with
    | none => rw [hd] at e; cases e
    | some d =>
      rw [hd] at e
      cases e
      obtain ⟨v, h3, h4⟩ := atI_rps h2 hd
      exact .inr (.inl ⟨p, vs, i, v, rfl, hy.int, same_sqT S.gh h1, h3, fin_d S q h4⟩)
  · split at e
    · rename_i s i hl
      cases hd : atI s.cps.toList i with
      | none => rw [hd] at e; cases e
      | some d =>
        rw [hd] at e
        cases e
        exact .inr (.inr ⟨s, i, d, hx.str, hy.int, le_line hl, hd, fin_d S q (.str _)⟩)
    · cases e
  · cases e
section
variable {X : Cx} {b : Bs} {W : WX} {a a2 : Expr} {fa fb : M Av} {pos : Pos}
theorem m_add (ha : PE X a (tE b W fa)) (hb : PE X a2 (tE b W fb)) : PE X (.BinOp a .Add a2 pos) (tV b W (bin2 addD fa fb)) := m_op (op_add.or (op_cat.or op_add_str)) d_add ha hb
theorem m_sub (ha : PE X a (tE b W fa)) (hb : PE X a2 (tE b W fb)) : PE X (.BinOp a .Sub a2 pos) (tV b W (bin2 subD fa fb)) := m_op op_sub d_sub ha hb
theorem m_mul (ha : PE X a (tE b W fa)) (hb : PE X a2 (tE b W fb)) : PE X (.BinOp a .Mult a2 pos) (tV b W (bin2 mulD fa fb)) := m_op (op_mul.or op_rep) d_mul ha hb
theorem m_fdiv (ha : PE X a (tE b W fa)) (hb : PE X a2 (tE b W fb)) : PE X (.BinOp a .FloorDiv a2 pos) (tV b W (bin2 fdivD fa fb)) := m_op op_fdiv d_fdiv ha hb
theorem m_mod (ha : PE X a (tE b W fa)) (hb : PE X a2 (tE b W fb)) : PE X (.BinOp a .Mod a2 pos) (tV b W (bin2 modD fa fb)) := m_op op_mod d_mod ha hb
theorem m_pow (ha : PE X a (tE b W fa)) (hb : PE X a2 (tE b W fb)) : PE X (.BinOp a .Pow a2 pos) (tV b W (bin2 powD fa fb)) := m_op op_pow d_pow ha hb
theorem m_neg (ha : PE X a (tE b W fa)) : PE X (.UnaryOp .USub a pos) (tV b W (un1 negD fa)) := m_un un_neg d_neg ha
theorem m_idx (hK : X.K = b.K) (ha : PE X a (tE b W fa)) (hb : PE X a2 (tE b W fb)) (hs : PlainIx a2 := by intro _ _; rfl) : PE X (.Subscript a a2 pos) (tV b W (bin2 ixD fa fb)) := m_ix ix_seq (by rw [hK]; exact d_ix) ha hb hs
end
/-! slices -/
def cutD (xs : List Dt) (lo hi : Option Int) : List Dt := (xs.drop (HT.sIx xs.length 0 lo)).take (HT.sIx xs.length xs.length hi - HT.sIx xs.length 0 lo)
theorem cut_rps {K : Fg} {G : Hp} {vs : List V} {xs : List Dt} (r : Rps K G vs xs) (lo hi : Option Int) : Rps K G (cutV vs lo hi) (cutD xs lo hi) := by
  unfold cutV cutD
  rw [r.length]
  exact (r.drop _).take _
def partN : M (Option Int) := retM none
def partS (f : M Av) : M (Option Int) := bindM f fun a => optM fun ρ => match res ρ a with
  | some (.int i) => some (some i)
  | _ => none
def slD (x : Dt) (lo hi : Option Int) : Option Rv := match x with
  | .list xs => some (.l (cutD xs lo hi))
  | .str s => if s.length ≤ 1000000 then some (.d (.str (cutS s lo hi))) else none
  | _ => none
def sliceM (fa : M Av) (fl fh : M (Option Int)) : M Rv := bindM fa fun a => bindM fl fun lo => bindM fh fun hi => optM fun ρ => (res ρ a).bind fun x => slD x lo hi
def tPO (b : Bs) (W : WX) (f : M (Option Int)) : TO := fun σ H Q => ∃ c G ρ, SIG b c G ρ σ H ∧ Post b c W G σ (fun o _ _ H' => Q o H') (f ρ)
section
variable {X : Cx} {b : Bs} {W : WX} {a : Expr} {lo hi : Option Expr} {fa : M Av} {fl fh : M (Option Int)} {pos p2 : Pos}
theorem weakO {e : Option Expr} {t t' : TO} (h : PO X e t) (w : ∀ σ H Q, t' σ H Q → t σ H Q) : PO X e t' := ⟨fun pins s σ H Q I q => h.run pins s σ H Q I (w σ H Q q)⟩
theorem p_none : PO X none (tPO b W partN) := weakO po_none fun σ H Q ⟨c, G, ρ, S, q⟩ => q.ret S
theorem p_some {e : Expr} (h : PE X e (tE b W fa)) : PO X (some e) (tPO b W (partS fa)) := weakO (po_some h) fun σ H Q ⟨c, G, ρ, S, q⟩ => ⟨c, G, ρ, S, (Post.bind q).imp fun z ρ1 G1 H1 e1 S1 q1 v hv => by
  obtain ⟨o, h1, h2⟩ := q1.opt S1
  split at h1
  · rename_i i hx
    cases h1
    exact ⟨i, (hv.res S1 hx).int, h2⟩
  · cases h1⟩
def rSlD (K : Fg) : V → Option Int → Option Int → Hp → VK → Prop := fun x l h H Q => rSlL K x l h H Q ∨ ∃ z, x = .str z ∧ z.length ≤ sizeLine ∧ Q (.str (cutS z l h)) H
theorem m_slice (hK : X.K = b.K) (hr : SlR X (rSlD X.K)) (ha : PE X a (tE b W fa)) (hl : PO X lo (tPO b W fl)) (hh : PO X hi (tPO b W fh)) : PE X (.Subscript a (.Slice lo hi none p2) pos) (tV b W (sliceM fa fl fh)) :=
  weakE (pe_slice hr ha hl hh) fun σ H Q ⟨c, G, ρ, S, q⟩ => ⟨c, G, ρ, S, (Post.bind q).imp fun z ρ1 G1 H1 e1 S1 q1 v hv => ⟨c, G1, ρ1, S1, (Post.bind q1).imp fun l ρ2 G2 H2 e2 S2 q2 => ⟨c, G2, ρ2, S2, (Post.bind q2).imp fun h ρ3 G3 H3 e3 S3 q3 => by
    unfold optM at q3
    split at q3
    · rename_i r hr'
      dsimp only at hr'
      cases hx : res ρ3 z with
      | none => rw [hx] at hr'; cases hr'
      | some x =>
        rw [hx] at hr'
        have ro := ((hv.mono e2).mono e3).res S3 hx
        have hr' : slD x l h = some r := hr'
        have q4 : ∀ v H' G', Same G3 G' → SIG b c G' ρ3 σ H' → RN b c G' H' v r → Apart ρ3 σ v r → Q v H' := fun v' H' G' ee SS rr ap => q3 H' G' ee SS v' rr ap
        unfold slD at hr'
        split at hr'
        · cases hr'
          obtain ⟨p, vs, rfl, h1, h2⟩ := ro.list S3.gh
          exact .inl ⟨p, vs, rfl, by rw [hK]; exact SqL.of h1, fun r hr => fin_l S3 q4 hr (cut_rps h2 l h)⟩
        · split at hr'
          · rename_i hz
            cases hr'
            exact .inr ⟨_, ro.str, le_line hz, fin_d S3 q4 (.str _)⟩
          · cases hr'
        · cases hr'
    · exact q3.elim⟩⟩⟩
end
end G8
namespace G8
open PySem L2
/-! built-in calls upon data -/
def ress (ρ : Ev) : List Av → Option (List Dt)
  | [] => some []
  | a :: as => (res ρ a).bind fun x => (ress ρ as).map fun xs => x :: xs
inductive ROs (K : Fg) (G H : Hp) : List V → List Dt → Prop
  | nil : ROs K G H [] []
  | cons {v : V} {d : Dt} {vs : List V} {ds : List Dt} : RO K G H v d → ROs K G H vs ds → ROs K G H (v :: vs) (d :: ds)
theorem ress_of {b : Bs} {c : Fc} {G H : Hp} {ρ : Ev} {σ : St} (S : SIG b c G ρ σ H) : ∀ {vs : List V} {as : List Av} {xs : List Dt}, Ras b.K G σ vs as → ress ρ as = some xs → ROs b.K G H vs xs
  | _, [], _, h, e => by
    cases h
    cases e
    exact .nil
  | _, a :: as, _, h, e => by
    cases h with
    | cons h1 h2 =>
      unfold ress at e
      cases hx : res ρ a with
      | none => rw [hx] at e; cases e
      | some x =>
        rw [hx] at e
        cases hy : ress ρ as with
        | none => rw [hy] at e; cases e
        | some ys =>
          rw [hy] at e
          cases e
          exact .cons (h1.res S hx) (ress_of S h2 hy)
def biM (g : List Dt → Option Rv) (fl : M (List Av)) : M Rv := bindM fl fun as => optM fun ρ => (ress ρ as).bind g
def DoesN (b : Bs) (r : List V → Hp → VK → Prop) (g : List Dt → Option Rv) : Prop := ∀ {c : Fc} {G H : Hp} {ρ : Ev} {σ : St} {xs : List V} {ds : List Dt} {z : Rv} {Q : VK}, SIG b c G ρ σ H → ROs b.K G H xs ds → g ds = some z →
  (∀ v H' G', Same G G' → SIG b c G' ρ σ H' → RN b c G' H' v z → Apart ρ σ v z → Q v H') → r xs H Q
theorem bi_core {b : Bs} {W : WX} {fl : M (List Av)} {r : List V → Hp → VK → Prop} {g : List Dt → Option Rv} (dz : DoesN b r g) {σ : St} {H : Hp} {Q : VK} (h : tV b W (biM g fl) σ H Q) : tCB r (tL b W fl) σ H Q := by
  obtain ⟨c, G, ρ, S, q⟩ := h
  refine ⟨c, G, ρ, S, (Post.bind q).imp fun as ρ1 G1 H1 e1 S1 q1 vs hv => ?_⟩
  unfold optM at q1
  split at q1
  · rename_i z hz
    dsimp only at hz
    cases hx : ress ρ1 as with
    | none => rw [hx] at hz; cases hz
    | some xs =>
      rw [hx] at hz
      exact dz S1 (ress_of S1 hv hx) hz fun v' H' G' ee SS rr ap => q1 H' G' ee SS v' rr ap
  · exact q1.elim
section
variable {X : Cx} {b : Bs} {W : WX} {x : Str} {p pos : Pos} {e : Expr} {es : List Expr} {fl : M (List Av)} {id T : String} {r : List V → Hp → VK → Prop} {g : List Dt → Option Rv}
theorem m_bi (hc : CallR X (.builtin id) r) (dz : DoesN b r g) (hg : Gl X x) (hm : X.mg x = none) (hv : bootBuiltins x = some (.builtin id)) (ha : PA X (e :: es) (tL b W fl)) (hn : x ≠ "__name__" := by decide) (hdb : (x == ("__debug__" : Str)) = false := by decide)
    (he : starEach (e :: es) X.env = (false, eval e X.env) :: starEach es X.env := by rfl) (hpl : (backTo pos (starEach es X.env)).any (·.1) = false := by rfl) : PE X (.Call (.Name x p) (e :: es) [] pos) (tV b W (biM g fl)) :=
  weakE (pe_callB hc hg hm hv ha hn hdb he hpl) fun _ _ _ h => bi_core dz h
theorem m_ty (hc : CallR X (.type T) r) (dz : DoesN b r g) (hg : Gl X x) (hm : X.mg x = none) (hv : bootBuiltins x = some (.type T)) (ha : PA X (e :: es) (tL b W fl)) (hn : x ≠ "__name__" := by decide) (hdb : (x == ("__debug__" : Str)) = false := by decide)
    (he : starEach (e :: es) X.env = (false, eval e X.env) :: starEach es X.env := by rfl) (hpl : (backTo pos (starEach es X.env)).any (·.1) = false := by rfl) : PE X (.Call (.Name x p) (e :: es) [] pos) (tV b W (biM g fl)) :=
  weakE (pe_callTy hc hg hm hv ha hn hdb he hpl) fun _ _ _ h => bi_core dz h
end
/-! len -/
def lenD : Dt → Option Nat
  | .list xs => some xs.length
  | .tuple xs => some xs.length
  | .str s => if s.length ≤ 1000000 then some s.length else none
  | _ => none
def lenA (ρ : Ev) : Av → Option Nat
  | .d x => lenD x
  | .s i => match ρ[i]? with
    | some (some (.d x)) => lenD x
    | some (some (.ls _ xs)) => some xs.length
    | some (some (.dk _ xs)) => some xs.length
    | some (some (.scr ns)) => some ns.length
    | _ => none
def lenM (fa : M Av) : M Av := bindM fa fun a => optM fun ρ => (lenA ρ a).map fun (n : Nat) => Av.d (.int (n : Int))
def rLenA (K : Fg) : List V → Hp → VK → Prop := fun xs H Q => (∃ x n, xs = [x] ∧ LenV K x H n ∧ Q (.int n) H) ∨ ∃ a kvs, xs = [V.ref a] ∧ H a = some (.dK kvs) ∧ Q (.int kvs.length) H
theorem lenD_of {K : Fg} {G H : Hp} {v : V} {x : Dt} {n : Nat} (e : Same G H) (h : RO K G H v x) (q : lenD x = some n) : LenV K v H n := by
  cases x with
  | list ds =>
    obtain ⟨p, vs, rfl, h1, h2⟩ := h.list e
    cases q
    exact .inl ⟨vs, SqL.of h1, h2.length.symm⟩
  | tuple ds =>
    obtain ⟨p, vs, rfl, h1, h2⟩ := h.tup
    cases q
    exact .inr ⟨vs, same_sqT e h1, h2.length.symm⟩
  | str s =>
    rw [h.str]
    have q : (if s.length ≤ 1000000 then some s.length else none) = some n := q
    split at q
    · rename_i hl
      cases q
      exact ⟨le_line hl, rfl⟩
    · cases q
  | _ => cases q
section
variable {X : Cx} {b : Bs} {W : WX} {p pos : Pos} {e : Expr} {fa : M Av}
theorem m_len (hK : X.K = b.K) (hg : Gl X "len") (hm : X.mg "len" = none) (ha : PE X e (tE b W fa)) (hs : starEach [e] X.env = (false, eval e X.env) :: starEach [] X.env := by rfl) : PE X (.Call (.Name "len" p) [e] [] pos) (tE b W (lenM fa)) :=
  weakE (pe_callB ((call_len (X := X)).or call_lenD) hg hm PySem.boot_len (pa_cons ha pa_nil hs) (by decide) (by decide) hs) fun σ H Q ⟨c, G, ρ, S, q⟩ => ⟨c, G, ρ, S, (Post.bind q).imp fun a ρ1 G1 H1 e1 S1 q1 v hv => by
    obtain ⟨z, h1, h2⟩ := q1.opt S1
    show (∃ x n, [v] = [x] ∧ LenV X.K x H1 n ∧ Q (.int n) H1) ∨ ∃ a kvs, [v] = [V.ref a] ∧ H1 a = some (.dK kvs) ∧ Q (.int kvs.length) H1
    cases hx : lenA ρ1 a with
    | none => rw [hx] at h1; cases h1
    | some n =>
      rw [hx] at h1
      cases h1
      have fin := h2 _ (.int (n : Int))
      rw [hK]
      cases a with
      | d x => exact .inl ⟨v, n, rfl, lenD_of S1.gh (.inl hv) hx, fin⟩
      | s i =>
        have hv : σ[i]? = some (some v) := hv
        have hx : (match ρ1[i]? with
          | some (some (.d x)) => lenD x
          | some (some (.ls _ xs)) => some xs.length
          | some (some (.dk _ xs)) => some xs.length
          | some (some (.scr ns)) => some ns.length
          | _ => none) = some n := hx
        split at hx
        · rename_i x hs
          obtain ⟨u, hu, r⟩ := S1.sl i _ hs
          rw [hv] at hu
          cases hu
          exact .inl ⟨v, n, rfl, lenD_of S1.gh (.inl r) hx, fin⟩
        · rename_i rr xs hs
          cases hx
          obtain ⟨u, hu, p', vs, rfl, r2, r3, r4⟩ := S1.sl i _ hs
          rw [hv] at hu
          cases hu
          exact .inl ⟨_, _, rfl, .inl ⟨vs, SqL.of r2, r4.length.symm⟩, fin⟩
        · rename_i rr xs hs
          cases hx
          obtain ⟨u, hu, p', vs, rfl, r2, r3, r4⟩ := S1.sl i _ hs
          rw [hv] at hu
          cases hu
          exact .inr ⟨p', vs, rfl, r2, by rw [Paired.length r4]; exact fin⟩
        · rename_i ns hs
          cases hx
          obtain ⟨u, hu, p', rfl, r2⟩ := S1.sl i _ hs
          rw [hv] at hu
          cases hu
          exact .inl ⟨_, _, rfl, .inl ⟨_, S1.gh.seq r2, by rw [List.length_map]⟩, fin⟩
        · cases hx⟩
/-- an item of the script -/
def ixS (i : Nat) (fb : M Av) : M Av := bindM (varM i) fun _ => bindM fb fun a => optM fun ρ => match ρ[i]?, res ρ a with
  | some (some (.scr ns)), some (.int k) => (atI ns k).map fun z => .d (.int z)
  | _, _ => none
theorem varM_is {ρ ρ' : Ev} {i : Nat} {a : Av} (h : varM i ρ = .ok a ρ') : a = .s i := by
  unfold varM at h
  split at h
  · cases h; rfl
  · cases h
theorem m_ixS {x : Str} {a2 : Expr} {fb : M Av} (hK : X.K = b.K) (i : Nat) (ha : PE X (.Name x p) (tVar i)) (hb : PE X a2 (tE b W fb)) (hs : PlainIx a2 := by intro _ _; rfl) : PE X (.Subscript (.Name x p) a2 pos) (tE b W (ixS i fb)) :=
  weakE (pe_ix ix_list (m_var (b := b) (W := W) i ha) hb hs) fun σ H Q ⟨c, G, ρ, S, q⟩ => by
    have q0 := Post.bind q
    cases hv0 : varM i ρ with
    | bad => rw [hv0] at q0; exact q0.elim
    | err k ρ' => unfold varM at hv0; split at hv0 <;> cases hv0
    | ok a0 ρ0 =>
      have e0 := varM_is hv0
      subst e0
      rw [hv0] at q0
      refine ⟨c, G, ρ, S, ?_⟩
      rw [hv0]
      intro H' G' e' S' v hv
      exact ⟨c, G', ρ0, S', (Post.bind (q0 H' G' e' S')).imp fun a ρ1 G1 H1 e1 S1 q1 u hu => by
          obtain ⟨z, h1, h2⟩ := q1.opt S1
          split at h1
          · rename_i ns k h3 h4
            cases hat : atI ns k with
            | none => rw [hat] at h1; cases h1
            | some y =>
              rw [hat] at h1
              cases h1
              obtain ⟨w, hw, p', rfl, r2⟩ := S1.sl i _ h3
              rw [show σ[i]? = some (some v) from hv] at hw
              cases hw
              refine ⟨p', _, k, .int y, rfl, (hu.res S1 h4).int, by rw [hK]; exact S1.gh.seq r2, ?_, h2 _ (.int y)⟩
              unfold atI at hat ⊢
              rw [List.length_map]
              cases hj : ixN ns.length k with
              | none => rw [hj] at hat; cases hat
              | some j =>
                rw [hj] at hat
                have hat : ns[j]? = some y := hat
                show (ns.map V.int)[j]? = _
                rw [List.getElem?_map, hat]
                rfl
          · cases h1⟩
end
/-! min, max, sum, any, all, list, tuple, int -/
def alikeB (xs : List Dt) : Bool := (xs.all fun x => xs.all fun y => PySem.W.alike x y) && xs.all fun x => !isNone x
theorem alikeB_of {xs : List Dt} (h : alikeB xs = true) : PySem.W.AlikeAll xs := by
  unfold alikeB at h
  rw [Bool.and_eq_true, List.all_eq_true, List.all_eq_true] at h
  refine ⟨fun x hx y hy => List.all_eq_true.mp (h.1 x hx) y hy, fun x hx e => ?_⟩
  have := h.2 x hx
  rw [e] at this
  cases this
def bestD (g : Dt → List Dt → Dt) : List Dt → Option Rv
  | [.list (x :: xs)] => if shalL (x :: xs) && alikeB (x :: xs) then some (.d (g x xs)) else none
  | [.int i, .int j] => none
  | _ => none
def rBest (K : Fg) (g : Dt → List Dt → Dt) : List V → Hp → VK → Prop := fun vs H Q => ∃ (a : Addr) (ys : List V) (x : Dt) (xs : List Dt), vs = [.ref a] ∧ SqL K H a ys ∧ DpAll K H ys (x :: xs) ∧ PyData.plainAll (x :: xs) = true ∧ PySem.W.AlikeAll (x :: xs) ∧ PyData.depthAll (x :: xs) ≤ 60 ∧
  ∀ (i : Nat) (y : V) (d : Dt), ys[i]? = some y → (x :: xs)[i]? = some d → d = g x xs → Q y H
theorem readsAll_get {h : Heap} : ∀ {vs : List Value} {xs : List Dt} {as : List Addr} {i : Nat} {v : Value}, ReadsAll h vs xs as → vs[i]? = some v → ∃ d bs, xs[i]? = some d ∧ Reads h v d bs
  | _, _, _, _, _, .nil, e => by simp at e
  | _, _, _, 0, _, .cons r rs, e => by
    simp at e
    subst e
    exact ⟨_, _, rfl, r⟩
  | _, _, _, i + 1, _, .cons r rs, e => by
    obtain ⟨d, bs, h1, h2⟩ := readsAll_get (i := i) rs (by simpa using e)
    exact ⟨d, bs, by simpa using h1, h2⟩
theorem plainAll_get : ∀ {xs : List Dt} {i : Nat} {d : Dt}, PyData.plainAll xs = true → xs[i]? = some d → d.plain = true
  | [], _, _, _, e => by simp at e
  | x :: xs, 0, d, h, e => by
    simp at e
    subst e
    have h : (x.plain && PyData.plainAll xs) = true := h
    rw [Bool.and_eq_true] at h
    exact h.1
  | x :: xs, i + 1, d, h, e => by
    have h : (x.plain && PyData.plainAll xs) = true := h
    rw [Bool.and_eq_true] at h
    exact plainAll_get h.2 (by simpa using e)
section
variable {X : Cx}
theorem best_core {id : String} {g : Dt → List Dt → Dt} (hc : X.calm = true) (hu : X.A.units + 64 < cLine)
    (rule : ∀ {s : Shared} {l : Addr} {vs : Array Value} {x : PyData} {xs : List PyData} {as : List Addr} {Q : Value → Shared → Prop}, X.A.handled = none → s.heap.IsList l vs → ReadsAll s.heap vs.toList (x :: xs) as → PySem.W.AlikeAll (x :: xs) → X.A.units + 1 + PyData.depthAll (x :: xs) < cLine →
      (∀ (i : Nat) v h' tk bs, vs[i]? = some v → Reads h' v (g x xs) bs → (∀ b o, s.heap.get? b = some o → h'.get? b = some o) → Q v { s with heap := h', toks := tk }) → wpAny (model X.prog X.w) X.A (call (.builtin id) [.ref l]) Q X.xe s) : CallR X (.builtin id) (rBest X.K g) := by
  intro pins s σ H vs us Q I r h
  obtain ⟨a, ys, x, xs, rfl, h1, h2, h3, h4, h5, q⟩ := h
  obtain ⟨u, rfl, ru⟩ := vals1 r
  cases ru
  obtain ⟨its, rv, pl, hz⟩ := I.list h1
  obtain ⟨as, rs⟩ := Dp.readsAll I (x :: xs) ys its h2 rv
  obtain ⟨o, n, ho, hcl, _, hd⟩ := pl
  refine rule (I.ok.hd hc) (vs := its.toArray) ⟨o, ho, hcl, n, hd⟩ (by simpa using rs) h4 (by omega) fun i v h' tk bs hi hr hk => ?_
  have hi' : its[i]? = some v := by simpa using hi
  obtain ⟨d, bs', e1, e2⟩ := readsAll_get rs hi'
  have hil : i < ys.length := by
    have := (List.getElem?_eq_some_iff.mp hi').1
    rw [rv.length]
    exact this
  obtain ⟨u, g1, g2⟩ := rv.get (List.getElem?_eq_getElem hil)
  rw [hi'] at g1
  cases g1
  have ed : d = g x xs := SeqAt.plain_unique d (g x xs) v bs' bs (plainAll_get h3 e1) (PyProof.Rows.Reads.keeps hk e2) hr
  exact ⟨ys[i], H, I.kept (t' := tk) hk, g2, q i ys[i] d (List.getElem?_eq_getElem hil) e1 ed⟩
theorem c_max (hc : X.calm = true) (hu : X.A.units + 64 < cLine) : CallR X (.builtin "max") (rBest X.K PySem.W.maxD) := best_core hc hu fun h1 h2 h3 h4 h5 h6 => PySem.W.max_list_data h1 h2 h3 h4 h5 h6
theorem c_min (hc : X.calm = true) (hu : X.A.units + 64 < cLine) : CallR X (.builtin "min") (rBest X.K PySem.W.minD) := best_core hc hu fun h1 h2 h3 h4 h5 h6 => PySem.W.min_list_data h1 h2 h3 h4 h5 h6
end
theorem d_best {b : Bs} (g : Dt → List Dt → Dt) : DoesN b (rBest b.K g) (bestD g) := fun {c G H ρ σ xs ds z Q} S hx e q => by
  unfold bestD at e
  split at e
  · rename_i x xs'
    split at e
    · rename_i hs
      cases e
      rw [Bool.and_eq_true] at hs
      cases hx with
      | cons h1 h2 =>
        cases h2
        obtain ⟨p, vs, rfl, r1, r2⟩ := h1.list S.gh
        refine ⟨p, vs, x, xs', rfl, SqL.of r1, Rps.dp _ _ (Rps.mono S.gh _ _ r2), Rps.plain _ _ r2, alikeB_of hs.2, shL_of hs.1, fun i y d e1 e2 e3 => ?_⟩
        obtain ⟨d', e4, e5⟩ := r2.getV e1
        rw [e2] at e4
        cases e4
        rw [e3] at e5
        exact fin_d S q e5
    · cases e
  · cases e
  · cases e
def two2 (g : Int → Int → Int) : List Dt → Option Rv
  | [.int i, .int j] => some (.d (.int (g i j)))
  | _ => none
def intsOf : List Dt → Option (List Int)
  | [] => some []
  | .int i :: xs => (intsOf xs).map fun r => i :: r
  | _ => none
def boolsOf : List Dt → Option (List Bool)
  | [] => some []
  | .bool i :: xs => (boolsOf xs).map fun r => i :: r
  | _ => none
theorem intsOf_map (ns : List Int) : intsOf (ns.map PyData.int) = some ns := by
  induction ns with
  | nil => rfl
  | cons n ns ih =>
    show (intsOf (ns.map PyData.int)).map (fun r => n :: r) = _
    rw [ih]
    rfl
theorem boolsOf_map (ns : List Bool) : boolsOf (ns.map PyData.bool) = some ns := by
  induction ns with
  | nil => rfl
  | cons n ns ih =>
    show (boolsOf (ns.map PyData.bool)).map (fun r => n :: r) = _
    rw [ih]
    rfl
theorem intsOf_of : ∀ {xs : List Dt} {ns : List Int}, intsOf xs = some ns → xs = ns.map PyData.int
  | [], _, h => by cases h; rfl
  | x :: xs, ns, h => by
    unfold intsOf at h
    split at h
    · rename_i h0
      cases h0
    · rename_i i ys h0
      cases h0
      cases q : intsOf xs with
      | none => rw [q] at h; cases h
      | some r =>
        rw [q] at h
        cases h
        rw [intsOf_of q]
        rfl
    · cases h
theorem boolsOf_of : ∀ {xs : List Dt} {ns : List Bool}, boolsOf xs = some ns → xs = ns.map PyData.bool
  | [], _, h => by cases h; rfl
  | x :: xs, ns, h => by
    unfold boolsOf at h
    split at h
    · rename_i h0
      cases h0
    · rename_i i ys h0
      cases h0
      cases q : boolsOf xs with
      | none => rw [q] at h; cases h
      | some r =>
        rw [q] at h
        cases h
        rw [boolsOf_of q]
        rfl
    · cases h
def sumD : List Dt → Option Rv
  | [.list xs] => (intsOf xs).map fun ns => .d (.int ns.sum)
  | _ => none
def anyD : List Dt → Option Rv
  | [.list xs] => (boolsOf xs).map fun ns => .d (.bool (ns.any id))
  | _ => none
def allD : List Dt → Option Rv
  | [.list xs] => (boolsOf xs).map fun ns => .d (.bool (ns.all id))
  | _ => none
def listD : List Dt → Option Rv
  | [.list xs] => some (.l xs)
  | [.tuple xs] => some (.l xs)
  | _ => none
def tupD : List Dt → Option Rv
  | [.list xs] => some (.d (.tuple xs))
  | _ => none
def intD : List Dt → Option Rv
  | [.int i] => some (.d (.int i))
  | [.bool k] => some (.d (.int (if k then 1 else 0)))
  | _ => none
theorem ros1 {K : Fg} {G H : Hp} {vs : List V} {d : Dt} (h : ROs K G H vs [d]) : ∃ v, vs = [v] ∧ RO K G H v d := by
  cases h with
  | cons h1 h2 => cases h2; exact ⟨_, rfl, h1⟩
theorem ros2 {K : Fg} {G H : Hp} {vs : List V} {d e : Dt} (h : ROs K G H vs [d, e]) : ∃ v u, vs = [v, u] ∧ RO K G H v d ∧ RO K G H u e := by
  cases h with
  | cons h1 h2 =>
    cases h2 with
    | cons h3 h4 => cases h4; exact ⟨_, _, rfl, h1, h3⟩
theorem d_two2 {b : Bs} (g : Int → Int → Int) : DoesN b (fun xs H Q => ∃ i j, xs = [.int i, .int j] ∧ Q (.int (g i j)) H) (two2 g) := fun {c G H ρ σ xs ds z Q} S hx e q => by
  unfold two2 at e
  split at e
  · cases e
    obtain ⟨v, u, rfl, h1, h2⟩ := ros2 hx
    rw [h1.int, h2.int]
    exact ⟨_, _, rfl, fin_d S q (.int _)⟩
  · cases e
theorem d_sum {b : Bs} : DoesN b (rSum b.K) sumD := fun {c G H ρ σ xs ds z Q} S hx e q => by
  unfold sumD at e
  split at e
  · rename_i ys
    obtain ⟨v, rfl, h1⟩ := ros1 hx
    cases hy : intsOf ys with
    | none => rw [hy] at e; cases e
    | some ns =>
      rw [hy] at e
      cases e
      have := intsOf_of hy
      subst this
      obtain ⟨p, vs, rfl, r1, r2⟩ := h1.list S.gh
      rw [r2.ints] at r1
      exact ⟨p, ns, rfl, SqL.of r1, fin_d S q (.int _)⟩
  · cases e
theorem d_any {b : Bs} : DoesN b (rAny b.K) anyD := fun {c G H ρ σ xs ds z Q} S hx e q => by
  unfold anyD at e
  split at e
  · rename_i ys
    obtain ⟨v, rfl, h1⟩ := ros1 hx
    cases hy : boolsOf ys with
    | none => rw [hy] at e; cases e
    | some ns =>
      rw [hy] at e
      cases e
      have := boolsOf_of hy
      subst this
      obtain ⟨p, vs, rfl, r1, r2⟩ := h1.list S.gh
      rw [r2.bools] at r1
      exact ⟨p, ns, rfl, SqL.of r1, fin_d S q (.bl _)⟩
  · cases e
theorem d_all {b : Bs} : DoesN b (rAll b.K) allD := fun {c G H ρ σ xs ds z Q} S hx e q => by
  unfold allD at e
  split at e
  · rename_i ys
    obtain ⟨v, rfl, h1⟩ := ros1 hx
    cases hy : boolsOf ys with
    | none => rw [hy] at e; cases e
    | some ns =>
      rw [hy] at e
      cases e
      have := boolsOf_of hy
      subst this
      obtain ⟨p, vs, rfl, r1, r2⟩ := h1.list S.gh
      rw [r2.bools] at r1
      exact ⟨p, ns, rfl, SqL.of r1, fin_d S q (.bl _)⟩
  · cases e
theorem d_list {b : Bs} : DoesN b (fun xs H Q => ∃ p ys, xs = [.ref p] ∧ (SqL b.K H p ys ∨ SqT b.K H p ys) ∧ ∀ l, H l = none → Q (.ref l) (upd H l (.lst ys))) listD := fun {c G H ρ σ xs ds z Q} S hx e q => by
  unfold listD at e
  split at e
  · cases e
    obtain ⟨v, rfl, h1⟩ := ros1 hx
    obtain ⟨p, vs, rfl, r1, r2⟩ := h1.list S.gh
    exact ⟨p, vs, rfl, .inl (SqL.of r1), fun l hl => fin_l S q hl r2⟩
  · cases e
    obtain ⟨v, rfl, h1⟩ := ros1 hx
    obtain ⟨p, vs, rfl, r1, r2⟩ := h1.tup
    exact ⟨p, vs, rfl, .inr (same_sqT S.gh r1), fun l hl => fin_l S q hl r2⟩
  · cases e
theorem fin_t {b : Bs} {c : Fc} {G H : Hp} {ρ : Ev} {σ : St} {p : Addr} {vs : List V} {xs : List Dt} {Q : VK} (S : SIG b c G ρ σ H) (q : ∀ v H' G', Same G G' → SIG b c G' ρ σ H' → RN b c G' H' v (.d (.tuple xs)) → Apart ρ σ v (.d (.tuple xs)) → Q v H') (hp : H p = none) (r : Rps b.K G vs xs) : Q (.ref p) (upd H p (.tup vs)) := by
  obtain ⟨e2, S2⟩ := S.lay (o := .tup vs) hp
  exact q (.ref p) _ _ e2 S2 (.tup (SqT.of upd_same) (Rps.mono e2 _ _ r)) fun p' _ z => by cases z
theorem d_tup {b : Bs} : DoesN b (fun xs H Q => ∃ p ys, xs = [.ref p] ∧ ((SqL b.K H p ys ∧ ∀ l, H l = none → Q (.ref l) (upd H l (.tup ys))) ∨ (SqT b.K H p ys ∧ Q (.ref p) H))) tupD := fun {c G H ρ σ xs ds z Q} S hx e q => by
  unfold tupD at e
  split at e
  · cases e
    obtain ⟨v, rfl, h1⟩ := ros1 hx
    obtain ⟨p, vs, rfl, r1, r2⟩ := h1.list S.gh
    exact ⟨p, vs, rfl, .inl ⟨SqL.of r1, fun l hl => fin_t S q hl r2⟩⟩
  · cases e
theorem d_int {b : Bs} : DoesN b (fun xs H Q => (∃ i, xs = [.int i] ∧ Q (.int i) H) ∨ ∃ k, xs = [.bl k] ∧ Q (.int (if k then 1 else 0)) H) intD := fun {c G H ρ σ xs ds z Q} S hx e q => by
  unfold intD at e
  split at e
  · cases e
    obtain ⟨v, rfl, h1⟩ := ros1 hx
    rw [h1.int]
    exact .inl ⟨_, rfl, fin_d S q (.int _)⟩
  · cases e
    obtain ⟨v, rfl, h1⟩ := ros1 hx
    rw [h1.bool]
    exact .inr ⟨_, rfl, fin_d S q (.int _)⟩
  · cases e
section
variable {X : Cx} {b : Bs} {W : WX} {p pos : Pos} {e e2 : Expr} {fl : M (List Av)}
theorem m_max1 (hK : X.K = b.K) (hc : X.calm = true) (hu : X.A.units + 64 < cLine) (hg : Gl X "max") (hm : X.mg "max" = none) (ha : PA X [e] (tL b W fl)) (hs : starEach [e] X.env = (false, eval e X.env) :: starEach [] X.env := by rfl) : PE X (.Call (.Name "max" p) [e] [] pos) (tV b W (biM (bestD PySem.W.maxD) fl)) :=
  m_bi (c_max hc hu) (by rw [hK]; exact d_best _) hg hm (by decide +kernel) ha (by decide) (by decide) hs
theorem m_min1 (hK : X.K = b.K) (hc : X.calm = true) (hu : X.A.units + 64 < cLine) (hg : Gl X "min") (hm : X.mg "min" = none) (ha : PA X [e] (tL b W fl)) (hs : starEach [e] X.env = (false, eval e X.env) :: starEach [] X.env := by rfl) : PE X (.Call (.Name "min" p) [e] [] pos) (tV b W (biM (bestD PySem.W.minD) fl)) :=
  m_bi (c_min hc hu) (by rw [hK]; exact d_best _) hg hm (by decide +kernel) ha (by decide) (by decide) hs
theorem m_max2 (hc : X.calm = true) (hg : Gl X "max") (hm : X.mg "max" = none) (ha : PA X [e, e2] (tL b W fl)) (hs : starEach [e, e2] X.env = (false, eval e X.env) :: starEach [e2] X.env := by rfl) (hpl : (backTo pos (starEach [e2] X.env)).any (·.1) = false := by rfl) : PE X (.Call (.Name "max" p) [e, e2] [] pos) (tV b W (biM (two2 fun i j => if j > i then j else i) fl)) :=
  m_bi (call_max2 hc) (d_two2 _) hg hm (by decide +kernel) ha (by decide) (by decide) hs hpl
theorem m_min2 (hc : X.calm = true) (hg : Gl X "min") (hm : X.mg "min" = none) (ha : PA X [e, e2] (tL b W fl)) (hs : starEach [e, e2] X.env = (false, eval e X.env) :: starEach [e2] X.env := by rfl) (hpl : (backTo pos (starEach [e2] X.env)).any (·.1) = false := by rfl) : PE X (.Call (.Name "min" p) [e, e2] [] pos) (tV b W (biM (two2 fun i j => if j < i then j else i) fl)) :=
  m_bi (call_min2 hc) (d_two2 _) hg hm (by decide +kernel) ha (by decide) (by decide) hs hpl
theorem m_sum (hK : X.K = b.K) (hc : X.calm = true) (hg : Gl X "sum") (hm : X.mg "sum" = none) (ha : PA X [e] (tL b W fl)) (hs : starEach [e] X.env = (false, eval e X.env) :: starEach [] X.env := by rfl) : PE X (.Call (.Name "sum" p) [e] [] pos) (tV b W (biM sumD fl)) :=
  m_bi (cr_sum hc) (by rw [hK]; exact d_sum) hg hm (by decide +kernel) ha (by decide) (by decide) hs
theorem m_any (hK : X.K = b.K) (hc : X.calm = true) (hg : Gl X "any") (hm : X.mg "any" = none) (ha : PA X [e] (tL b W fl)) (hs : starEach [e] X.env = (false, eval e X.env) :: starEach [] X.env := by rfl) : PE X (.Call (.Name "any" p) [e] [] pos) (tV b W (biM anyD fl)) :=
  m_bi (cr_any hc) (by rw [hK]; exact d_any) hg hm (by decide +kernel) ha (by decide) (by decide) hs
theorem m_all (hK : X.K = b.K) (hc : X.calm = true) (hg : Gl X "all") (hm : X.mg "all" = none) (ha : PA X [e] (tL b W fl)) (hs : starEach [e] X.env = (false, eval e X.env) :: starEach [] X.env := by rfl) : PE X (.Call (.Name "all" p) [e] [] pos) (tV b W (biM allD fl)) :=
  m_bi (cr_all hc) (by rw [hK]; exact d_all) hg hm (by decide +kernel) ha (by decide) (by decide) hs
theorem m_list (hK : X.K = b.K) (hg : Gl X "list") (hm : X.mg "list" = none) (ha : PA X [e] (tL b W fl)) (hs : starEach [e] X.env = (false, eval e X.env) :: starEach [] X.env := by rfl) : PE X (.Call (.Name "list" p) [e] [] pos) (tV b W (biM listD fl)) :=
  m_ty call_list_of (by rw [hK]; exact d_list) hg hm (by decide +kernel) ha (by decide) (by decide) hs
theorem m_tuple (hK : X.K = b.K) (hg : Gl X "tuple") (hm : X.mg "tuple" = none) (ha : PA X [e] (tL b W fl)) (hs : starEach [e] X.env = (false, eval e X.env) :: starEach [] X.env := by rfl) : PE X (.Call (.Name "tuple" p) [e] [] pos) (tV b W (biM tupD fl)) :=
  m_ty call_tuple_of (by rw [hK]; exact d_tup) hg hm (by decide +kernel) ha (by decide) (by decide) hs
theorem m_intc (hg : Gl X "int") (hm : X.mg "int" = none) (ha : PA X [e] (tL b W fl)) (hs : starEach [e] X.env = (false, eval e X.env) :: starEach [] X.env := by rfl) : PE X (.Call (.Name "int" p) [e] [] pos) (tV b W (biM intD fl)) :=
  m_ty call_int1 d_int hg hm (by decide +kernel) ha (by decide) (by decide) hs
end
end G8
namespace G8
open PySem L2
/-! methods of lists that only look -/
def rLook (K : Fg) (g : List Dt → Dt → Option Int) : V → List V → Hp → VK → Prop := fun x xs H Q => ∃ (a : Addr) (y : V) (d : Dt) (ds : List Dt) (z : Int), x = .ref a ∧ xs = [y] ∧ Dp K H (.ref a) (.list ds) ∧ Dp K H y d ∧ PyData.plainAll ds = true ∧ d.plain = true ∧ d.depth ≤ 60 ∧ g ds d = some z ∧ Q (.int z) H
def countD (ds : List Dt) (d : Dt) : Option Int := some ((ds.countP fun y => PyData.eqv y d : Nat) : Int)
def indexD (ds : List Dt) (d : Dt) : Option Int := (SeqAt.dataPlace ds d).map fun j => ((j : Nat) : Int)
section
variable {X : Cx}
theorem c_count (hu : X.A.units + 64 < cLine) : MtR X "list.count" (rLook X.K countD) := by
  intro pins s σ H x xs v us Q I rx rxs h
  obtain ⟨a, y, d, ds, z, rfl, rfl, hl, hy, h1, h2, h3, hg, q⟩ := h
  cases rx
  obtain ⟨uy, rfl, ry⟩ := vals1 rxs
  cases hg
  obtain ⟨bs, r1⟩ := Dp.reads I d y uy hy ry
  cases hl with
  | lst hs ha =>
    obtain ⟨its, rv, ⟨o, n, ho, hcl, hdn, hdt⟩, hlen⟩ := I.list hs
    obtain ⟨as, h4⟩ := Dp.readsAll I ds _ its ha rv
    refine SeqAt.count_list_data (vs := its.toArray) ⟨o, ho, hcl, n, hdt⟩ (by simpa using h4) r1 h1 h2 (by have := Nat.min_le_right (PyData.depthAll ds) d.depth; omega) ?_
    exact ⟨.int _, H, I.tok _, ⟨_, rfl⟩, q⟩
theorem c_index (hu : X.A.units + 64 < cLine) : MtR X "list.index" (rLook X.K indexD) := by
  intro pins s σ H x xs v us Q I rx rxs h
  obtain ⟨a, y, d, ds, z, rfl, rfl, hl, hy, h1, h2, h3, hg, q⟩ := h
  cases rx
  obtain ⟨uy, rfl, ry⟩ := vals1 rxs
  obtain ⟨bs, r1⟩ := Dp.reads I d y uy hy ry
  cases hl with
  | lst hs ha =>
    obtain ⟨its, rv, ⟨⟨cls, dd, data, sls⟩, n, ho, hcl, hdn, hdt⟩, hlen⟩ := I.list hs
    simp only at hcl hdt
    subst hcl hdt
    obtain ⟨as, h4⟩ := Dp.readsAll I ds _ its ha rv
    unfold indexD at hg
    cases hp : SeqAt.dataPlace ds d with
    | none => rw [hp] at hg; cases hg
    | some j =>
      rw [hp] at hg
      cases hg
      have hs' := sizeLine_eq
      have hvl := rv.length
      obtain ⟨hj, hit, hno⟩ := SeqAt.hit_at (vs := its.toArray) (by simpa using h4) h1 hp
      have hjl : j < its.length := by simpa using hj
      refine call_meets PySem.F.slot_list_index ⟨_, ho, rfl⟩ PySem.F.entry_list_index (PySem.F.args_list_index_2 _ _)
        (SeqAt.list_indexAt a its.toArray n dd sls uy (fun u => PyData.eqv (SeqAt.readOf s.heap u) d) j hj (by omega) hit hno) ⟨ho, SeqAt.items_plain (vs := its.toArray) (by simpa using h4) r1 h1 h2 (by have := Nat.min_le_right (PyData.depthAll ds) d.depth; omega), ?_⟩
      exact ⟨.int (j : Nat), H, I.tok _, ⟨_, rfl⟩, q⟩
end
def isL : Dt → Option Unit
  | .list _ => some ()
  | _ => none
def lookD (g : List Dt → Dt → Option Int) : Dt → List Dt → Option Dt
  | .list xs, [d] => if shal d then (g xs d).map fun z => .int z else none
  | _, _ => none
def meM (g : Dt → List Dt → Option Dt) (fo : M Av) (fl : M (List Av)) : M Av := bindM fo fun o => bindM (optM fun ρ => (res ρ o).bind isL) fun _ => bindM fl fun as => optM fun ρ => (res ρ o).bind fun x => (ress ρ as).bind fun ds => (g x ds).map Av.d
section
variable {X : Cx} {b : Bs} {W : WX} {o e : Expr} {es : List Expr} {name : Str} {id : String} {fo : M Av} {fl : M (List Av)} {apos cpos : Pos}
theorem look_core {g : List Dt → Dt → Option Int} {σ : St} {H : Hp} {Q : VK} (h : tE b W (meM (lookD g) fo fl) σ H Q) : tBM b.K "list" (rLook b.K g) (tE b W fo) (tL b W fl) σ H Q := by
  obtain ⟨c, G, ρ, S, q⟩ := h
  refine ⟨c, G, ρ, S, (Post.bind q).imp fun oa ρ1 G1 H1 e1 S1 q1 v hv => ?_⟩
  obtain ⟨u, h1, h2⟩ := (Post.bind q1).opt S1
  cases hx : res ρ1 oa with
  | none => rw [hx] at h1; cases h1
  | some x =>
    rw [hx] at h1
    cases x with
    | list xs =>
      obtain ⟨p, vs, rfl, r1, r2⟩ := (hv.res S1 hx).list S1.gh
      refine ⟨.inl ⟨rfl, vs, SqL.of r1⟩, c, G1, ρ1, S1, (Post.bind h2).imp fun as ρ2 G2 H2 e2 S2 q2 ws hws => ?_⟩
      obtain ⟨z, h3, h4⟩ := q2.opt S2
      cases hx2 : res ρ2 oa with
      | none => rw [hx2] at h3; cases h3
      | some x2 =>
        rw [hx2] at h3
        dsimp only [Option.bind_some] at h3
        cases hd : ress ρ2 as with
        | none => rw [hd] at h3; cases h3
        | some ds =>
          rw [hd] at h3
          dsimp only [Option.bind_some] at h3
          have rr := (hv.mono e2).res S2 hx2
          have ra := ress_of S2 hws hd
          unfold lookD at h3
          split at h3
          · rename_i ys d
            split at h3
            · rename_i hs
              cases hg : g ys d with
              | none => rw [hg] at h3; cases h3
              | some n =>
                rw [hg] at h3
                cases h3
                obtain ⟨y, rfl, ry⟩ := ros1 ra
                exact ⟨p, y, d, ys, n, rfl, rfl, rr.dp S2.gh, ry.dp S2.gh, rr.plain, ry.plain, sh_of hs, hg, h4 _ (.int n)⟩
            · cases h3
          · cases h3
    | _ => cases h1
theorem m_count (hK : X.K = b.K) (hu : X.A.units + 64 < cLine) (ho : PE X o (tE b W fo)) (ha : PA X [e] (tL b W fl)) (hbase : attributeBase o "count" X.env (eval o X.env) = eval o X.env := by rfl)
    (hp : ∀ {to : TE} {t : TA} {r : V → List V → Hp → VK → Prop}, MtR X "list.count" r → PE X o to → PA X [e] t → PE X (.Call (.Attribute o "count" apos) [e] [] cpos) (tBM X.K "list" r to t)) : PE X (.Call (.Attribute o "count" apos) [e] [] cpos) (tE b W (meM (lookD countD) fo fl)) :=
  weakE (hp (c_count hu) ho ha) fun σ H Q h => by rw [hK]; exact look_core h
theorem m_index (hK : X.K = b.K) (hu : X.A.units + 64 < cLine) (ho : PE X o (tE b W fo)) (ha : PA X [e] (tL b W fl))
    (hp : ∀ {to : TE} {t : TA} {r : V → List V → Hp → VK → Prop}, MtR X "list.index" r → PE X o to → PA X [e] t → PE X (.Call (.Attribute o "index" apos) [e] [] cpos) (tBM X.K "list" r to t)) : PE X (.Call (.Attribute o "index" apos) [e] [] cpos) (tE b W (meM (lookD indexD) fo fl)) :=
  weakE (hp (c_index hu) ho ha) fun σ H Q h => by rw [hK]; exact look_core h
end
/-! methods that change a list -/
def MutOk (b : Bs) (r : V → List V → Hp → VK → Prop) (g : List Dt → List Dt → Option (Dt × List Dt)) : Prop := ∀ {G H : Hp} {p : Addr} {vl : List V} {xs : List Dt} {args : List V} {ds : List Dt} {y : Dt} {ys : List Dt} {Q : VK}, Same G H → H p = some (.lst vl) → Rps b.K G vl xs → Rps b.K G args ds → g xs ds = some (y, ys) →
  (∀ v vs', Rp b.K G v y → Rps b.K G vs' ys → Q v (upd H p (.lst vs'))) → r (.ref p) args H Q
def slotL : Option (Option Sv) → Option (Bool × List Dt)
  | some (some (.ls r xs)) => some (r, xs)
  | _ => none
def mutM (i : Nat) (g : List Dt → List Dt → Option (Dt × List Dt)) (fl : M (List Av)) : M Rv := bindM (optM fun ρ => slotL ρ[i]?) fun _ => bindM fl fun as ρ => match slotL ρ[i]?, fzs ρ as with
  | some (r, xs), some ds => (match g xs ds with
    | some (y, ys) => .ok (.d y) (ρ.set i (some (.ls r ys)))
    | none => .bad)
  | _, _ => .bad
theorem slotL_of {o : Option (Option Sv)} {r : Bool} {xs : List Dt} (h : slotL o = some (r, xs)) : o = some (some (.ls r xs)) := by
  unfold slotL at h
  split at h
  · cases h; rfl
  · cases h
section
variable {X : Cx} {b : Bs} {W : WX} {x : Str} {e : Expr} {es : List Expr} {fl : M (List Av)} {i : Nat} {pos : Pos}
theorem mut_core {r : V → List V → Hp → VK → Prop} {g : List Dt → List Dt → Option (Dt × List Dt)} (mo : MutOk b r g) {σ : St} {H : Hp} {Q : VK} (h : tV b W (mutM i g fl) σ H Q) : tBM b.K "list" r (tVar i) (tL b W fl) σ H Q := by
  obtain ⟨c, G, ρ, S, q⟩ := h
  obtain ⟨⟨r0, xs0⟩, h1, h2⟩ := (Post.bind q).opt S
  have hs0 := slotL_of h1
  obtain ⟨v, hv, p, vs, rfl, a2, a3, a4⟩ := S.sl i _ hs0
  refine ⟨.ref p, hv, .inl ⟨rfl, vs, SqL.of a2⟩, c, G, ρ, S, (Post.bind h2).imp fun as ρ1 G1 H1 e1 S1 q1 ws hws => ?_⟩
  split at q1
  · rename_i r1 xs ds hsl hf
    have hs1 := slotL_of hsl
    split at q1
    · rename_i y ys hg
      obtain ⟨v', hv', p', vs', e', b2, b3, b4⟩ := S1.sl i _ hs1
      rw [hv] at hv'
      cases hv'
      cases e'
      refine mo S1.gh b2 b4 (fzs_of S1 hws hf) hg fun w ws' rw_ rws => ?_
      have S2 := S1.mut (o := .lst ws') (sv' := .ls r1 ys) hs1 rfl hv rfl rfl ⟨p, ws', rfl, upd_same, b3, rws⟩
      exact q1 _ G1 (Same.refl G1) S2 w rw_ fun _ _ z => by cases z
    · exact q1.elim
  · exact q1.elim
theorem mut_core0 {r : V → List V → Hp → VK → Prop} {g : List Dt → List Dt → Option (Dt × List Dt)} (mo : MutOk b r g) {σ : St} {H : Hp} {Q : VK} (h : tV b W (mutM i g (retM [])) σ H Q) : tBM0 b.K "list" r (tVar i) σ H Q := by
  obtain ⟨v, hv, ty, c, G, ρ, S, q⟩ := mut_core mo h
  exact ⟨v, hv, ty, q.ret S [] .nil⟩
end
def appD (xs ds : List Dt) : Option (Dt × List Dt) := match ds with
  | [d] => if xs.length < 1000000 then some (.none, xs ++ [d]) else none
  | _ => none
def extD (xs ds : List Dt) : Option (Dt × List Dt) := match ds with
  | [.list ys] => if xs.length + ys.length ≤ 1000000 then some (.none, xs ++ ys) else none
  | _ => none
def insD (xs ds : List Dt) : Option (Dt × List Dt) := match ds with
  | [.int i, d] => if xs.length < 1000000 ∧ 0 ≤ i ∧ i < 2 ^ 62 then some (.none, xs.take i.toNat ++ [d] ++ xs.drop i.toNat) else none
  | _ => none
def popD (xs ds : List Dt) : Option (Dt × List Dt) := match ds with
  | [] => (xs[xs.length - 1]?).map fun y => (y, xs.dropLast)
  | _ => none
def popAtD (xs ds : List Dt) : Option (Dt × List Dt) := match ds with
  | [.int i] => if 0 ≤ i ∧ i < xs.length ∧ i < 2 ^ 62 then (xs[i.toNat]?).map fun y => (y, xs.eraseIdx i.toNat) else none
  | _ => none
def remD (xs ds : List Dt) : Option (Dt × List Dt) := match ds with
  | [d] => if shal d && decide (xs.length ≤ 1000000) then (SeqAt.dataPlace xs d).map fun j => (.none, xs.eraseIdx j) else none
  | _ => none
theorem rps1 {K : Fg} {G : Hp} {vs : List V} {d : Dt} (h : Rps K G vs [d]) : ∃ v, vs = [v] ∧ Rp K G v d := by
  cases h with
  | cons h1 h2 => cases h2; exact ⟨_, rfl, h1⟩
theorem rps2 {K : Fg} {G : Hp} {vs : List V} {d e : Dt} (h : Rps K G vs [d, e]) : ∃ v u, vs = [v, u] ∧ Rp K G v d ∧ Rp K G u e := by
  cases h with
  | cons h1 h2 =>
    cases h2 with
    | cons h3 h4 => cases h4; exact ⟨_, _, rfl, h1, h3⟩
theorem lt_line {n : Nat} (h : n < 1000000) : n < sizeLine := Nat.lt_of_lt_of_le h (by decide)
theorem k_app {b : Bs} : MutOk b rAppend appD := fun {G H p vl xs args ds y ys Q} sg hp r ra e q => by
  unfold appD at e
  split at e
  · split at e
    · rename_i d hl
      cases e
      obtain ⟨v, rfl, rv⟩ := rps1 ra
      exact ⟨p, vl, v, rfl, rfl, hp, by rw [r.length]; exact lt_line hl, q _ _ .non (r.append (.cons rv .nil))⟩
    · cases e
  · cases e
theorem k_ext {b : Bs} : MutOk b rExtend extD := fun {G H p vl xs args ds y ys Q} sg hp r ra e q => by
  unfold extD at e
  split at e
  · split at e
    · rename_i zs hl
      cases e
      obtain ⟨v, rfl, rv⟩ := rps1 ra
      cases rv with
      | lst r1 r2 => exact ⟨p, _, vl, _, rfl, rfl, hp, sg _ _ r1, by rw [r.length, r2.length]; exact le_line hl, q _ _ .non (r.append r2)⟩
    · cases e
  · cases e
theorem k_ins {b : Bs} : MutOk b (fun x vs H Q => ∃ (l : Addr) (xs : List V) (i : Int) (y : V), x = .ref l ∧ vs = [.int i, y] ∧ H l = some (.lst xs) ∧ xs.length < sizeLine ∧ 0 ≤ i ∧ i < 2 ^ 63 ∧ Q .non (upd H l (.lst (xs.take i.toNat ++ [y] ++ xs.drop i.toNat)))) insD := fun {G H p vl xs args ds y ys Q} sg hp r ra e q => by
  unfold insD at e
  split at e
  · split at e
    · rename_i i d hl
      cases e
      obtain ⟨v, u, rfl, rv, ru⟩ := rps2 ra
      cases rv
      exact ⟨p, vl, i, u, rfl, rfl, hp, by rw [r.length]; exact lt_line hl.1, hl.2.1, by omega, q _ _ .non (((r.take _).append (.cons ru .nil)).append (r.drop _))⟩
    · cases e
  · cases e
theorem Rps.dropLast {K : Fg} {G : Hp} {vs : List V} {ds : List Dt} (h : Rps K G vs ds) : Rps K G vs.dropLast ds.dropLast := by
  rw [List.dropLast_eq_take, List.dropLast_eq_take, h.length]
  exact h.take _
theorem k_pop {b : Bs} : MutOk b rPop popD := fun {G H p vl xs args ds y ys Q} sg hp r ra e q => by
  unfold popD at e
  split at e
  · cases hx : xs[xs.length - 1]? with
    | none => rw [hx] at e; cases e
    | some z =>
      rw [hx] at e
      cases e
      cases ra
      obtain ⟨v, h1, h2⟩ := r.get hx
      exact ⟨p, vl, v, rfl, rfl, hp, by rw [r.length]; exact h1, q _ _ h2 r.dropLast⟩
  · cases e
theorem k_popAt {b : Bs} : MutOk b rPopAt popAtD := fun {G H p vl xs args ds y ys Q} sg hp r ra e q => by
  unfold popAtD at e
  split at e
  · split at e
    · rename_i i hl
      cases hx : xs[i.toNat]? with
      | none => rw [hx] at e; cases e
      | some z =>
        rw [hx] at e
        cases e
        obtain ⟨v, rfl, rv⟩ := rps1 ra
        cases rv
        obtain ⟨w, h1, h2⟩ := r.get hx
        refine ⟨p, vl, i, i.toNat, w, rfl, rfl, hp, by omega, by omega, ?_, h1, q _ _ h2 (r.erase _)⟩
        rw [r.length]
        exact (ixN_seq (by unfold ixN; rw [if_pos hl.1, if_pos hl.2.1])).1
    · cases e
  · cases e
/-- l.remove(x), x there -/
def rRemD (K : Fg) : V → List V → Hp → VK → Prop := fun x vs H Q => ∃ (l : Addr) (xs : List V) (y : V) (d : Dt) (ds : List Dt) (j : Nat), x = .ref l ∧ vs = [y] ∧ H l = some (.lst xs) ∧ DpAll K H xs ds ∧ Dp K H y d ∧ PyData.plainAll ds = true ∧ d.plain = true ∧ d.depth ≤ 60 ∧ SeqAt.dataPlace ds d = some j ∧ Q .non (upd H l (.lst (xs.eraseIdx j)))
theorem c_rem {X : Cx} (hu : X.A.units + 64 < cLine) : MtR X "list.remove" (rRemD X.K) := by
  intro pins s σ H x vs v us Q I rx rv h
  obtain ⟨l, xs, y, d, ds, j, rfl, rfl, hH, ha, hy, h1, h2, h3, hp, q⟩ := h
  cases rx
  obtain ⟨u, rfl, ru⟩ := vals1 rv
  obtain ⟨bs, r1⟩ := Dp.reads I d y u hy ru
  obtain ⟨z, its, n, r, hl, e⟩ := I.lstM hH
  obtain ⟨as, h4⟩ := Dp.readsAll I ds _ its ha r
  refine SeqAt.remove_list_data (vs := its.toArray) ⟨_, e, rfl, n, rfl⟩ (by simpa using h4) r1 h1 h2 (by have := Nat.min_le_right (PyData.depthAll ds) d.depth; omega) hp (by rw [List.size_toArray]; omega) ?_
  refine ⟨.non, _, I.lset (its' := its.eraseIdx j) (t' := s.toks) hH e ?_ (r.eraseIdx j) ?_, rfl, q⟩
  · show its.toArray.eraseIdxIfInBounds j = (its.eraseIdx j).toArray
    rw [List.eraseIdxIfInBounds_toArray]
  · exact Nat.le_trans (len_erase xs j) z
theorem k_rem {b : Bs} : MutOk b (rRemD b.K) remD := fun {G H p vl xs args ds y ys Q} sg hp r ra e q => by
  unfold remD at e
  split at e
  · rename_i d
    split at e
    · rename_i hl
      cases hx : SeqAt.dataPlace xs d with
      | none => rw [hx] at e; cases e
      | some j =>
        rw [hx] at e
        cases e
        rw [Bool.and_eq_true] at hl
        obtain ⟨v, rfl, rv⟩ := rps1 ra
        exact ⟨p, vl, v, d, xs, j, rfl, rfl, hp, Rps.dp _ _ (Rps.mono sg _ _ r), Rp.dp _ _ (Rp.mono sg _ _ rv), Rps.plain _ _ r, Rp.plain _ _ rv, sh_of hl.1, hx, q _ _ .non (r.erase _)⟩
    · cases e
  · cases e
section
variable {X : Cx} {b : Bs} {W : WX} {x : Str} {e : Expr} {es : List Expr} {fl : M (List Av)} {pos apos cpos : Pos}
theorem m_mut {r : V → List V → Hp → VK → Prop} {g : List Dt → List Dt → Option (Dt × List Dt)} (hK : X.K = b.K) (i : Nat) (mo : MutOk b r g) (h : PE X e (tBM X.K "list" r (tVar i) (tL b W fl))) : PE X e (tV b W (mutM i g fl)) :=
  weakE h fun σ H Q h => by rw [hK]; exact mut_core mo h
theorem m_mut0 {r : V → List V → Hp → VK → Prop} {g : List Dt → List Dt → Option (Dt × List Dt)} (hK : X.K = b.K) (i : Nat) (mo : MutOk b r g) (h : PE X e (tBM0 X.K "list" r (tVar i))) : PE X e (tV b W (mutM i g (retM []))) :=
  weakE h fun σ H Q h => by rw [hK]; exact mut_core0 mo h
/-- an expression as a statement -/
def exprS (f : M Rv) : M Fl := bindM f fun _ => retM .nx
theorem s_expr {f : M Rv} (he : PE X e (tV b W f)) (hs : swapsWith e none pos.line X.env = pure false := by rfl) : PS X (.Expr e pos) (tS b W (exprS f)) := weakS (ps_expr he hs) fun D σ H ⟨c, G, ρ, hb, S, q⟩ =>
  ⟨c, G, ρ, S, (PostS.bind σ q).imp fun r ρ1 G1 H1 e1 S1 q1 v hv ap => q1 σ H1 G1 (Same.refl G1) S1⟩
/-- x[k] = e, x a slot's own list -/
def setIt (i : Nat) (fe fk : M Av) : M Fl := bindM fe fun a => bindM (optM fun ρ => slotL ρ[i]?) fun _ => bindM fk fun k ρ => match slotL ρ[i]?, fzv ρ a, res ρ k with
  | some (r, xs), some d, some (.int n) => (match ixN xs.length n with
    | some j => .ok .nx (ρ.set i (some (.ls r (xs.set j d))))
    | none => .bad)
  | _, _, _ => .bad
theorem s_setIt {o k : Expr} {fe fk : M Av} {tp : Pos} (i : Nat) (hp : PS X (.Assign [.Subscript o k tp] e pos) (tAsg (tE b W fe) (gSub (tVar i) (tE b W fk) rSetL))) : PS X (.Assign [.Subscript o k tp] e pos) (tS b W (setIt i fe fk)) := weakS hp fun D σ H ⟨c, G, ρ, hb, S, q⟩ =>
  ⟨c, G, ρ, S, (PostS.bind σ q).imp fun a ρ1 G1 H1 e1 S1 q1 v hv => by
    obtain ⟨⟨r0, xs0⟩, h1, h2⟩ := (PostS.bind σ q1).opt S1
    have hs0 := slotL_of h1
    obtain ⟨w, hw, p, vs, rfl, a2, a3, a4⟩ := S1.sl i _ hs0
    refine ⟨.ref p, hw, c, G1, ρ1, S1, (PostS.bind σ h2).imp fun kk ρ2 G2 H2 e2 S2 q2 u hu => ?_⟩
    split at q2
    · rename_i r1 xs d n hsl hf hk
      have hs1 := slotL_of hsl
      split at q2
      · rename_i j hj
        obtain ⟨v', hv', p', vs', e', b2, b3, b4⟩ := S2.sl i _ hs1
        rw [hw] at hv'
        cases hv'
        cases e'
        refine ⟨p, vs', n, j, rfl, (hu.res S2 hk).int, b2, by rw [b4.length]; exact hj, ?_⟩
        have S3 := S2.mut (o := .lst (vs'.set j v)) (sv' := .ls r1 (xs.set j d)) hs1 rfl hw rfl rfl ⟨p, _, rfl, upd_same, b3, Rps.set ((hv.mono e2).fz S2 hf) j b4⟩
        exact q2 σ _ G2 (Same.refl G2) S3
      · exact q2.elim
    · exact q2.elim⟩
end
end G8
namespace G8
open PySem L2
/-! raise -/
def raiseM {α : Type} (k : Nat) : M α := fun ρ => .err k ρ
section
variable {X : Cx} {b : Bs} {W : WX} {e : Expr} {pos : Pos}
theorem s_raise (k : Nat) (hc : X.calm = true) (tk : Takes X W) (he : PMk X e (fun _ H Q => Q (.ref (b.C k)) none H)) : PS X (.Raise (some e) none pos) (tS b W (raiseM k)) :=
  weakS (ps_raise hc tk he) fun D σ H ⟨c, G, ρ, hb, S, q⟩ => q σ H G (Same.refl G) S
theorem s_never {st : Stmt} : PS X st (tS b W badM) := weakS ps_never fun D σ H ⟨c, G, ρ, hb, S, q⟩ => q.elim
theorem ss_never {st : List Stmt} : PSs X st (tS b W badM) := weakB pss_never fun D σ H ⟨c, G, ρ, hb, S, q⟩ => q.elim
end
/-! try: .. except X as n: .. ; the exception is kept in sight behind the suite -/
def exT (cls : Value) (d : Option Addr) (a : Addr) : HO := .ext fun h => ∃ (oe : Obj) (vs : Array Value), h.get? a = some oe ∧ Zc cls d oe ∧ oe.data = .fields vs
section
variable {X : Cx} {pins : List (Addr × Obj)} {σ : St} {H : Hp} {s : Shared}
theorem inv_track {a : Addr} {oe : Obj} {vs : Array Value} {cls : Value} {d : Option Addr} (J : Inv X pins σ H s) (ha : s.heap.get? a = some oe) (hz : Zc cls d oe) (hd : oe.data = .fields vs) (hn : H a = none) (nL : a ≠ X.env.locals) (n0 : X.s_0.heap.get? a = none) (np : ∀ p ∈ X.pn ++ pins, p.1 ≠ a) :
    Inv X pins σ (upd H a (exT cls d a)) s := by
  have un : ∀ {t u}, H t = some u → upd H a (exT cls d a) t = some u := fun {t u} z => by rw [upd_ne (ne_of_none z hn)]; exact z
  refine ⟨J.ok, J.os, J.bare, ⟨J.base.keep, J.base.slot, fun t u h1 h2 h3 => ?_, J.base.there, fun t u h1 => un (J.base.tups t u h1), fun t u w h1 => un (J.base.frzs t u w h1), fun t u h1 => ?_⟩, J.loc, J.cell, ?_, fun y t h1 => ?_, fun p hp => ?_, fun t u h1 => ?_, J.len⟩
  · rw [upd_ne (fun z => by rw [z, n0] at h1; cases h1)]
    exact J.base.free t u h1 h2 h3
  · obtain ⟨m, z⟩ := J.base.tbls t u h1
    exact ⟨m, un z⟩
  · rw [upd_ne (Ne.symm nL)]
    exact J.free
  · have hne : t ≠ a := fun z => by
      obtain ⟨w, o, h2, h3⟩ := J.cell y t h1
      rw [z, ha] at h2
      cases h2
      rw [hd] at h3
      cases h3
    rw [upd_ne hne]
    exact J.freeC y t h1
  · obtain ⟨h1, h2, h3, h4, h5⟩ := J.pin p hp
    exact ⟨h1, by rw [upd_ne (np p hp)]; exact h2, h3, h4, h5⟩
  · by_cases ht : t = a
    · subst ht
      rw [upd_same] at h1
      cases h1
      exact ⟨⟨oe, vs, ha, hz, hd⟩, ⟨oe, ha⟩, fun _ _ ⟨o, w, q, r⟩ k => ⟨o, w, k o q, r⟩⟩
    · rw [upd_ne ht] at h1
      exact (J.hok t u h1).stay (fun _ _ _ z => z) (fun _ z => un z) fun _ _ z => un z
end
def wAsT (K : Fg) (c : Value) (i : Nat) (ts : Addr → Value → Option Addr → TS) (Wo : WX) (D : Ends) : WX := fun cls d σ H =>
  ∃ k, PySem.W.exmOne K cls c = some k ∧
    (k = true → ∀ a, H a = none → ts a cls d { nx := fun σ' H' => H' a = none → D.nx (σ'.set i none) (upd H' a (exT cls d a)), rt := fun _ _ => False } (σ.set i (some (.ref a))) H) ∧ (k = false → Wo cls d σ H)
section
variable {X : Cx} {x n : Str} {c : Value} {i : Nat} {body suite : List Stmt} {s0 : Stmt} {np pos pos' : Pos} {tb : WX → TS} {ts : Addr → Value → Option Addr → TS} {Wo : WX}
theorem ps_tryT (hs : X.stack = X.env :: X.outer) (hf : X.env.frame = some X.env.locals) (hex : X.ex = []) (hN : X.N.Nodup) (hi : X.N[i]? = some n) (hln : X.env.kindOf n = some .local) (hc : Names X x c) (tk : Takes X Wo)
    (hb : ∀ (W : WX) (pn : List (Addr × Obj)) (xe : Value → Shared → Prop), Takes (X.tr pn xe) W → PassesOwn (model X.prog X.w) X.A X.env xe → PSs (X.tr pn xe) body (tb W))
    (hsu : ∀ (a : Addr) (oe : Obj) (cls : Value) (d : Option Addr) (pn : List (Addr × Obj)), PSs (X.suite a ((a, oe) :: pn)) (s0 :: suite) (ts a cls d)) :
    PS X (.Try body [.ExceptHandler (some (.Name x np)) (some n) (s0 :: suite) pos'] [] [] pos) (fun D σ H => tb (wAsT X.K c i ts Wo D) D σ H) := by
  refine ⟨fun pins s σ H D J0 h => ?_⟩
  have okX := J0.ok
  have frm : X.A.frames = some (X.env :: X.outer) := by rw [okX.frames, hs]
  refine wpAny_Try_except ?_
  refine wpAny_mono ((hb (wAsT X.K c i ts Wo D) (X.pn ++ pins) _ (fun u s1 xx => ?_) PassesOwn.looking).run [] s σ H D (J0.toTry _) h) (fun fl s1 sp => ?_) (fun e s1 he => he)
  · obtain ⟨a, B, sI, pin2, σ1, H1, cls, d, rfl, Jx, nb, up, sky, na, os, ag, k, hk, yes, no⟩ := xx
    have JI : Inv X pins σ1 H1 sI := Jx.ofTry okX
    have sky2 : Sky B (X.env :: X.outer) a (Zc cls d) X.env.locals s1.heap := by rw [← hs]; exact sky
    show wpAny (model X.prog X.w) X.A (noteFrame (.ref a) X.env) _ _ _
    refine Sky.land Zc.steady frm hf sky2 fun h2 fl2 up2 => ?_
    have J2 : Inv X pins σ1 H1 { s1 with heap := h2 } := JI.landed nb fl2.1 (up.trans up2) os ag
    obtain ⟨o2, v2, g2, z2, d2⟩ := fl2.there
    have away : a ∉ frs (X.env :: X.outer) := fun hm => by
      obtain ⟨_, o', e', nf⟩ := (fl2.2.2.1).mem hm
      rw [g2] at e'
      cases e'
      exact nf _ d2
    have nL : a ≠ X.env.locals := fun z => away (List.mem_filterMap.mpr ⟨X.env, List.mem_cons_self, by rw [hf, z]⟩)
    have nF : a ∉ X.fs := fun hm => by
      obtain ⟨e, he, q⟩ := List.mem_filterMap.mp hm
      exact away (List.mem_filterMap.mpr ⟨e, List.mem_cons_of_mem _ he, q⟩)
    have nI : sI.heap.get? a = none := by
      cases z : sI.heap.get? a with
      | none => rfl
      | some o =>
        have y := nb a o z (by rw [hs]; exact away)
        rw [fl2.2.1] at y
        cases y
    have n0 : X.s_0.heap.get? a = none := by
      cases z : X.s_0.heap.get? a with
      | none => rfl
      | some o =>
        obtain ⟨o', y⟩ := JI.base.there a o z (by rw [hex]; exact List.not_mem_nil)
        rw [nI] at y
        cases y
    have npin : ∀ p ∈ X.pn ++ pins, p.1 ≠ a := fun p hp z => by
      have y := (JI.pin p hp).1
      rw [z, nI] at y
      cases y
    have T2 := J2.suite g2 d2 na nL nF
    refine wpAny_handleBy_cons (codeAny_handlers_test ?_) (by intro q; cases q)
    have lty : PySem.W.Looks (model X.prog X.w) h2 (typeOf (.ref a)) cls := fun A Q E t kk q => wpAny_typeOf_ref (kk _ _ g2) (by rw [z2.1]; exact q)
    have lm := PySem.W.exm_one (M := model X.prog X.w) (J2.kIn) lty hk
    have named : ∀ {Q : Value → Shared → Prop} {E : Value → Shared → Prop}, Q c { s1 with heap := h2 } → wpAny (model X.prog X.w) (X.A.mark (some (.ref a))) (eval (.Name x np) X.env) Q E { s1 with heap := h2 } := fun {Q E} q => by
      obtain ⟨hg, hdbg, hm | ⟨hm, hv, hnn⟩⟩ := hc
      · exact ld_glob (X := X.suite a ((a, o2) :: (X.pn ++ pins))) T2 hg hm q hdbg
      · exact ld_blt (X := X.suite a ((a, o2) :: (X.pn ++ pins))) T2 hg hm hv q hnn hdbg
    refine named (lm.here ?_)
    cases k with
    | true =>
      refine codeAny_handlers_suite_as ?_
      refine HandSPX.lands_againZ fl2 fun h3 fl3 up3 => ?_
      have J3 : Inv X pins σ1 H1 { s1 with heap := h3 } := JI.landed nb fl3.1 ((up.trans up2).trans up3) os ag
      obtain ⟨o3, v3, g3, z3, d3⟩ := fl3.there
      have T3 := J3.suite g3 d3 na nL nF
      refine store_ok (X := X.suite a ((a, o3) :: (X.pn ++ pins))) (v := .ref a) T3 hN hi (.inl hln) rfl (fun s5 T5 => ?_) (.inr hln)
      refine wpAny_mono ((hsu a o3 cls d (X.pn ++ pins)).run [] s5 _ H1 _ T5 (yes rfl a na)) (fun fl s6 sp => ?_) (fun _ _ z => False.elim z)
      cases fl with
      | next =>
        obtain ⟨σ6, H6, T6, q6⟩ := sp
        obtain ⟨p1, p2, _⟩ := T6.pin (a, o3) (List.mem_append_left _ List.mem_cons_self)
        have J6 := inv_track (T6.unsuite okX) p1 z3 d3 p2 nL n0 npin
        exact gone_ok J6 hN hi hln fun s7 J7 => ⟨_, _, J7, q6 p2⟩
      | brk =>
        obtain ⟨_, _, _, q6⟩ := sp
        exact False.elim q6
      | cont =>
        obtain ⟨_, _, _, q6⟩ := sp
        exact False.elim q6
      | ret u =>
        obtain ⟨_, _, _, _, _, q6⟩ := sp
        exact False.elim q6
    | false =>
      show wpAny _ X.A (handleBy (.ref a) X.env []) _ _ _
      refine wpAny_handleBy_nil ?_
      obtain ⟨w1, w2, w3, oe, vs, T, oT, tl, he, hz, hd, h1, hr⟩ := id fl2
      unfold PySem.passOn
      refine wpAny_bind (wpAny_field he hd h1 ?_)
      rw [if_neg (show ¬ ((Value.ref T == Value.none) = true) from by simp)]
      have fin : wpAny (model X.prog X.w) X.A (setFlight (.ref a) X.env.frame) (fun _ s4 => wpAny (model X.prog X.w) X.A (throw (.ref a) : Sem Flow) (SP X pins D) X.xe s4) X.xe { s1 with heap := h2 } := by
        rw [hf]
        refine HandSPX.setFlight_upZ fl2 fun h4 hh4 up4 => wpAny_throw (tk _ _ ?_)
        exact ⟨a, B, sI, pins, σ1, H1, cls, d, rfl, JI, nb, (up.trans up2).trans up4, .inr (.inr (by rw [hs]; exact hh4)), na, os, ag, no rfl⟩
      first
        | exact wpAny_bind (wpAny_pure (wpAny_bind fin))
        | exact wpAny_bind fin
  · cases fl with
    | next =>
      obtain ⟨σ1, H1, J1, q⟩ := sp
      exact wpAny_execs_nil ⟨σ1, H1, J1.ofTry okX, q⟩
    | brk =>
      obtain ⟨σ1, H1, J1, q⟩ := sp
      exact ⟨σ1, H1, J1.ofTry okX, q⟩
    | cont =>
      obtain ⟨σ1, H1, J1, q⟩ := sp
      exact ⟨σ1, H1, J1.ofTry okX, q⟩
    | ret u =>
      obtain ⟨v, σ1, H1, J1, r, q⟩ := sp
      exact ⟨v, σ1, H1, J1.ofTry okX, r, q⟩
end
/-- the classes: which are caught -/
structure Exs (b : Bs) (c : Value) (g : Nat → Bool) : Prop where
  is : ∀ k, PySem.W.exmOne b.K (.ref (b.C k)) c = some (g k)
/-- try: body / except X as e: y = e -/
def tryM (g : Nat → Bool) (i j : Nat) (f : M Fl) : M Fl := fun ρ => match f ρ with
  | .err k ρ' => if g k then (if ownAt ρ'[i]? || refAt ρ'[j]? then .bad else if i = j ∨ ρ'.length ≤ i then .bad else .ok .nx ((ρ'.set i none).set j (some (.ex k)))) else .err k ρ'
  | o => o
section
variable {X : Cx} {b : Bs} {W : WX} {x n y : Str} {c : Value} {i j : Nat} {body : List Stmt} {np pos pos' p1 p2 p3 : Pos} {g : Nat → Bool} {f : M Fl}
theorem s_try (hK : X.K = b.K) (hs : X.stack = X.env :: X.outer) (hf : X.env.frame = some X.env.locals) (hex : X.ex = []) (hN : X.N.Nodup) (hi : X.N[i]? = some n) (hln : X.env.kindOf n = some .local) (hc : Names X x c) (tk : Takes X W) (E : Exs b c g)
    (hj : X.N[j]? = some y) (hjl : X.env.kindOf y = some .local)
    (hb : ∀ (W' : WX) (pn : List (Addr × Obj)) (xe : Value → Shared → Prop), Takes (X.tr pn xe) W' → PassesOwn (model X.prog X.w) X.A X.env xe → PSs (X.tr pn xe) body (tS b W' f))
    (hsu : ∀ (a : Addr) (oe : Obj) (pn : List (Addr × Obj)), PS (X.suite a ((a, oe) :: pn)) (.Assign [.Name y p1] (.Name n p2) p3) (tAsg (tVar i) (gName j))) :
    PS X (.Try body [.ExceptHandler (some (.Name x np)) (some n) [.Assign [.Name y p1] (.Name n p2) p3] pos'] [] [] pos) (tS b W (tryM g i j f)) := by
  refine weakS (ps_tryT (tb := fun W' => tS b W' f) (ts := fun _ _ _ => tAsg (tVar i) (gName j)) hs hf hex hN hi hln hc tk hb (fun a oe _ _ pn => pss_one (hsu a oe pn))) fun D σ H ⟨cc, G, ρ, hfn, S, q⟩ => ?_
  refine ⟨cc, G, ρ, hfn, S, ?_⟩
  unfold tryM at q
  cases e : f ρ with
  | bad => rw [e] at q; exact q
  | ok fl ρ1 =>
    rw [e] at q
    cases fl <;> exact q
  | err k ρ1 =>
    rw [e] at q
    have q : PostS b cc W G D (if g k = true then (if (ownAt ρ1[i]? || refAt ρ1[j]?) = true then .bad else if i = j ∨ ρ1.length ≤ i then .bad else .ok .nx ((ρ1.set i none).set j (some (.ex k)))) else .err k ρ1) := q
    intro σ1 H1 G1 e1 S1
    refine ⟨g k, by rw [hK]; exact E.is k, fun hg a ha => ?_, fun hg => ?_⟩
    · rw [if_pos hg] at q
      split at q
      · exact q.elim
      · rename_i ho
        split at q
        · exact q.elim
        · rename_i hij
          rw [Bool.or_eq_true, not_or] at ho
          rw [not_or] at hij
          have hlt := hij.2
          have hij := hij.1
          refine ⟨.ref a, ?_, fun hna => ?_⟩
          · rw [getElem?_set_eq', if_pos rfl, if_pos (by rw [← S1.len]; omega)]
          · obtain ⟨e2, S2⟩ := S1.lay (o := exT (.ref (b.C k)) none a) ha
            have S3 := S2.drop (i := i) (ownAt_of ho.1) none
            have hop : Open cc (ρ1.set i none) j := fun s hsj => by
              rw [List.getElem?_set_ne hij] at hsj
              exact refAt_of hfn ho.2 s hsj
            have S4 := S3.set (i := j) (v := .ref a) (sv := .ex k) ⟨a, rfl, upd_same⟩ hop (fun _ _ z => by cases z)
            have eσ : ((σ1.set i (some (.ref a))).set j (some (.ref a))).set i none = (σ1.set i none).set j (some (.ref a)) := by
              rw [List.set_comm _ _ (Ne.symm hij), List.set_set]
            show D.nx (((σ1.set i (some (.ref a))).set j (some (.ref a))).set i none) (upd H1 a _)
            rw [eσ]
            exact q _ _ _ (e1.trans e2) S4
    · rw [if_neg (by rw [hg]; exact Bool.false_ne_true)] at q
      exact q σ1 H1 G1 e1 S1
end
/-! try: .. except X: y = constant -/
def tryO (g : Nat → Bool) (h f : M Fl) : M Fl := fun ρ => match f ρ with
  | .err k ρ' => if g k then h ρ' else .err k ρ'
  | o => o
section
variable {X : Cx} {b : Bs} {W : WX} {x : Str} {c : Value} {body suite : List Stmt} {s0 : Stmt} {np pos pos' : Pos} {g : Nat → Bool} {f h : M Fl}
theorem s_tryO (hK : X.K = b.K) (hs : X.stack = X.env :: X.outer) (hf : X.env.frame = some X.env.locals) (hc : Names X x c) (tk : Takes X W) (E : Exs b c g) (hn : ∀ ρ k ρ', h ρ ≠ .err k ρ')
    (hb : ∀ (W' : WX) (pn : List (Addr × Obj)) (xe : Value → Shared → Prop), Takes (X.tr pn xe) W' → PassesOwn (model X.prog X.w) X.A X.env xe → PSs (X.tr pn xe) body (tS b W' f))
    (hsu : ∀ (a : Addr) (oe : Obj) (pn : List (Addr × Obj)), PSs (X.suite a ((a, oe) :: pn)) (s0 :: suite) (tS b W0 h)) :
    PS X (.Try body [.ExceptHandler (some (.Name x np)) none (s0 :: suite) pos'] [] [] pos) (tS b W (tryO g h f)) := by
  refine weakS (ps_try_only (tb := fun W' => tS b W' f) (ts := fun _ _ _ => tS b W0 h) hs hf hc tk hb (fun a oe _ _ pn _ _ => hsu a oe pn)) fun D σ H ⟨cc, G, ρ, hfn, S, q⟩ => ?_
  refine ⟨cc, G, ρ, hfn, S, ?_⟩
  unfold tryO at q
  cases e : f ρ with
  | bad => rw [e] at q; exact q
  | ok fl ρ1 =>
    rw [e] at q
    cases fl <;> exact q
  | err k ρ1 =>
    rw [e] at q
    have q : PostS b cc W G D (if g k = true then h ρ1 else .err k ρ1) := q
    intro σ1 H1 G1 e1 S1
    refine ⟨g k, by rw [hK]; exact E.is k, fun hg a ha => ?_, fun hg => ?_⟩
    · rw [if_pos hg] at q
      refine ⟨cc, G1, ρ1, hfn, S1, ?_⟩
      have q := PostS.mono e1 q
      cases e2 : h ρ1 with
      | bad => rw [e2] at q; exact q.elim
      | err k2 ρ2 => exact absurd e2 (hn _ _ _)
      | ok fl ρ2 =>
        rw [e2] at q
        cases fl <;> exact q
    · rw [if_neg (by rw [hg]; exact Bool.false_ne_true)] at q
      exact q σ1 H1 G1 e1 S1
end
/-! isinstance(e, C), e a slot that holds an exception -/
def rIsX (K : Fg) (cv : Value) (D : Addr) : List V → Hp → VK → Prop := fun xs H Q => ∃ (a : Addr) (t : V) (k : Bool), xs = [.ref a, t] ∧ (∀ u, RelV t u → u = cv) ∧ H a = some (exO D a) ∧ ExcC K D ∧ PySem.W.kitOne K (.ref D) cv = some k ∧ Q (.bl k) H
theorem c_isX {X : Cx} (cv : Value) : CallR X (.builtin "isinstance") (fun xs H Q => ∃ D, rIsX X.K cv D xs H Q) := by
  intro pins s σ H xs us Q I r h
  obtain ⟨D, a, t, k, rfl, hcv, hH, C, e, q⟩ := h
  obtain ⟨u1, u2, rfl, r1, r2⟩ := vals2 r
  cases r1
  have := hcv _ r2
  subst this
  obtain ⟨⟨oe, vs, h1, h2, h3⟩, _⟩ := (show ObjOk X.prog X.w H s.heap a (exO D a) from I.hok a _ hH)
  have J : PySem.W.InstAt s.heap a oe D none := by
    obtain ⟨oc, od, oda, osl⟩ := oe
    obtain ⟨h4, h5⟩ := h2
    dsimp only at h4 h5 h3
    subst h4 h5 h3
    exact ⟨h1, rfl, rfl, trivial⟩
  exact PySem.W.kia_one (PySem.W.handS_kitx_exc C.hg C.hk C.hs C.hd C.ha C.hn C.ht C.hm) I.kIn J e (fun z => nomatch z) fun tk => ⟨.bl k, H, I.kept (t' := tk) fun _ _ z => z, rfl, q⟩
structure Isi (b : Bs) (cv : Value) (g : Nat → Bool) : Prop where
  ex : ∀ k, ExcC b.K (b.C k)
  is : ∀ k, PySem.W.kitOne b.K (.ref (b.C k)) cv = some (g k)
def isiM (i : Nat) (g : Nat → Bool) : M Av := fun ρ => match ρ[i]? with
  | some (some (.ex k)) => .ok (.d (.bool (g k))) ρ
  | _ => .bad
section
variable {X : Cx} {b : Bs} {W : WX} {p1 p2 p3 pos : Pos} {x : Str} {e2 : Expr} {cv : Value} {v : V} {g : Nat → Bool}
theorem m_isi (hK : X.K = b.K) (i : Nat) (I : Isi b cv g) (ha : PE X (.Name x p2) (tVar i)) (hb : PE X e2 (tC v)) (hv : ∀ u, RelV v u → u = cv) (hg : Gl X "isinstance") (hm : X.mg "isinstance" = none)
    (hs : starEach [.Name x p2, e2] X.env = (false, eval (.Name x p2) X.env) :: starEach [e2] X.env := by rfl) (hs2 : starEach [e2] X.env = (false, eval e2 X.env) :: starEach [] X.env := by rfl) (hpl : (backTo pos (starEach [e2] X.env)).any (·.1) = false := by rfl) :
    PE X (.Call (.Name "isinstance" p1) [.Name x p2, e2] [] pos) (tE b W (isiM i g)) :=
  weakE (pe_callB (c_isX cv) hg hm (by decide +kernel) (pa_cons ha (pa_cons hb pa_nil hs2) hs) (by decide) (by decide) hs hpl) fun σ H Q ⟨c, G, ρ, S, q⟩ => by
    unfold isiM at q
    split at q
    · rename_i k hk
      obtain ⟨u, hu, a, rfl, r⟩ := S.sl i _ hk
      exact ⟨.ref a, hu, b.C k, a, v, g k, rfl, hv, S.gh _ _ r, by rw [hK]; exact I.ex k, by rw [hK]; exact I.is k, q H G (Same.refl G) S _ (.bl _)⟩
    · exact q.elim
end
end G8
namespace G8
open PySem L2
/-! what the top leaves, by facts -/
def obsM (fa : List (Fg → Bool)) (fn : List He.DefD) (K : Fg) : He.AlD := ((fa.all fun f => f K) && fn.all fun d => d.ok K, fn.map fun d => He.fnW K d.at_)
def SaysM (fa : List (Fg → Bool)) (fn : List He.DefD) (K : Fg) : Prop := obsM fa fn K = He.valD fn
def obsMG (n : Nat) (fa : List (Fg → Bool)) (fn : List He.DefD) (g : Addr → Option Obj) : He.AlD := obsM fa fn (He.frG g (He.asD g n))
def hookM (n : Nat) (fa : List (Fg → Bool)) (fn : List He.DefD) : PySem.W.Hook where
  α := He.AlD
  obs := fun s => obsMG n fa fn s.heap.get?
  val := fun _ => He.valD fn
  says := fun _ h => ∃ K : Fg, K.In h ∧ SaysM fa fn K
  of := fun _ _ e => ⟨_, He.frG_in, e⟩
  keeps := fun _ _ _ ⟨K, h1, h2⟩ k => ⟨K, PySem.W.Frag.In.keeps h1 k, h2⟩
theorem obsMG_eq {n : Nat} {fa : List (Fg → Bool)} {fn : List He.DefD} {g : Addr → Option Obj} {s : Shared} (h : ∀ a, g a = s.heap.get? a) : obsMG n fa fn g = (hookM n fa fn).obs s := by
  rw [show g = s.heap.get? from funext h]
  rfl
section
variable {fa : List (Fg → Bool)} {fn : List He.DefD} {K : Fg}
theorem SaysM.fact (c : SaysM fa fn K) (i : Nat) {f : Fg → Bool} (h : fa[i]? = some f := by rfl) : f K = true := by
  have c1 : ((fa.all fun f => f K) && fn.all fun d => d.ok K) = true := congrArg Prod.fst c
  rw [Bool.and_eq_true, List.all_eq_true] at c1
  exact c1.1 f (List.mem_of_getElem? h)
theorem SaysM.def_ (c : SaysM fa fn K) (i : Nat) {d : He.DefD} (h : fn[i]? = some d := by rfl) : ∃ fd, FunD K d.name d.qual d.params d.body d.scope (d.dvs K) (d.kws K) (He.fAd K d.at_) fd := by
  have c1 : ((fa.all fun f => f K) && fn.all fun d => d.ok K) = true := congrArg Prod.fst c
  rw [Bool.and_eq_true, List.all_eq_true, List.all_eq_true] at c1
  have e : fn.map (fun d => He.fnW K d.at_) = fn.map He.DefD.val := congrArg Prod.snd c
  have e2 : (fn.map fun d => He.fnW K d.at_)[i]? = (fn.map He.DefD.val)[i]? := by rw [e]
  rw [List.getElem?_map, List.getElem?_map, h] at e2
  exact He.DefD.funD (Option.some.inj e2) (c1.2 d (List.mem_of_getElem? h))
end
/-! the eight refusals -/
def exName : Nat → Str
  | 0 => "BadRow"
  | 1 => "BadRoom"
  | 2 => "BadRule"
  | 3 => "BadPlan"
  | 4 => "BadDepths"
  | 5 => "BadTurns"
  | 6 => "BadAsk"
  | _ => "BadText"
def exC (K : Fg) (k : Nat) : Addr := He.ga K (exName k)
abbrev bs (K : Fg) : Bs := ⟨K, exC K⟩
def eqOV (a b : Option (Option Value)) : Bool := He.eqO a b
/-- what is looked at of one of them -/
def fExc (k : Nat) (K : Fg) : Bool := He.Fa.ok K (.exc (exName k)) && (He.Fa.ok K (.glo (exName k)) && (PySem.W.hasDictIn K (exC K k) && (He.eqO (PySem.W.findIn K (.ref (exC K k)) "__getattribute__") (some (some (.builtin "BaseException.__getattribute__"))) &&
  (He.eqO (PySem.W.findIn K (.ref (exC K k)) "__getattr__") (some none) && (He.eqO (PySem.W.findIn K (.ref (exC K k)) "__class__") (some (some (.builtin "object.__class__"))) && (He.eqO (PySem.W.specialIn K (.builtin "object.__class__") "__get__") (some (some (.builtin "getset_descriptor.__get__"))) &&
  (decide (PySem.W.takesIn K (.builtin "object.__class__") = some true) && decide (PySem.W.mroIn K (exC K k) (.type "object") = some true))))))))
theorem fExc_c {k : Nat} {K : Fg} (h : fExc k K = true) : ExcC K (exC K k) := by
  obtain ⟨h1, h⟩ := He.ba h
  obtain ⟨h2, h⟩ := He.ba h
  obtain ⟨h3, h⟩ := He.ba h
  obtain ⟨h4, h⟩ := He.ba h
  obtain ⟨h5, h⟩ := He.ba h
  obtain ⟨h6, h⟩ := He.ba h
  obtain ⟨h7, h⟩ := He.ba h
  obtain ⟨h8, h9⟩ := He.ba h
  exact ⟨He.eqO_ok h4, He.eqO_ok h5, (He.exc_ok h1).2.2.1, h3, He.eqO_ok h6, He.eqO_ok h7, of_decide_eq_true h8, of_decide_eq_true h9⟩
structure ExFact (K : Fg) (mg : Str → Option Value) (k : Nat) : Prop where
  exc : PySem.W.excIn K (exC K k) He.veBase "ValueError.__new__" = true
  kp : PySem.W.keepIn K (.ref (exC K k)) = true
  sub : PySem.W.subIn K (.ref (exC K k)) (.type "BaseException") = some true
  ty : PySem.W.typeIn K (.ref (exC K k)) = some (.type "type")
  g : mg (exName k) = some (.ref (exC K k))
  c : ExcC K (exC K k)
theorem exFact {K : Fg} {h : Heap} {mg : Str → Option Value} (X : K.In h) (G : h.Ns mainGlobals mg) {k : Nat} (f : fExc k K = true) : ExFact K mg k := by
  obtain ⟨h1, h2⟩ := He.ba f
  obtain ⟨h3, _⟩ := He.ba h2
  obtain ⟨e1, e2, e3, e4⟩ := He.exc_ok h1
  exact ⟨e1, e2, e3, e4, He.glo_ok X G h3, fExc_c f⟩
/-- all eight -/
def fAll (K : Fg) : Bool := (List.range 8).all fun k => fExc k K
theorem exC_ge {K : Fg} {k : Nat} (h : 7 ≤ k) : exC K k = exC K 7 := by
  unfold exC
  match k, h with
  | 7, _ => rfl
  | n + 8, _ => rfl
theorem exName_ge {k : Nat} (h : 7 ≤ k) : exName k = exName 7 := by
  match k, h with
  | 7, _ => rfl
  | n + 8, _ => rfl
theorem fAll_of {K : Fg} (h : fAll K = true) (k : Nat) : fExc k K = true := by
  unfold fAll at h
  rw [List.all_eq_true] at h
  by_cases hk : k < 8
  · exact h k (List.mem_range.mpr hk)
  · have := h 7 (List.mem_range.mpr (by decide))
    unfold fExc at this ⊢
    rw [exC_ge (K := K) (k := k) (by omega), exName_ge (k := k) (by omega)]
    exact this
/-- isinstance and except against one of them, or ValueError, RoomError -/
def fKit (cv : Fg → Value) (g : Nat → Bool) (K : Fg) : Bool := (List.range 8).all fun k => decide (PySem.W.kitOne K (.ref (exC K k)) (cv K) = some (g k))
def fExm (cv : Fg → Value) (g : Nat → Bool) (K : Fg) : Bool := (List.range 8).all fun k => decide (PySem.W.exmOne K (.ref (exC K k)) (cv K) = some (g k))
def is8 (j k : Nat) : Bool := decide (min k 7 = j)
theorem all8 {p : Nat → Bool} (h : ((List.range 8).all p) = true) (hs : ∀ k, 7 ≤ k → p k = p 7) (k : Nat) : p k = true := by
  rw [List.all_eq_true] at h
  by_cases hk : k < 8
  · exact h k (List.mem_range.mpr hk)
  · rw [hs k (by omega)]
    exact h 7 (List.mem_range.mpr (by decide))
theorem fKit_of {K : Fg} {cv : Fg → Value} {g : Nat → Bool} (hg : ∀ k, 7 ≤ k → g k = g 7) (ha : fAll K = true) (h : fKit cv g K = true) : Isi (bs K) (cv K) g :=
  ⟨fun k => fExc_c (fAll_of ha k), fun k => of_decide_eq_true (all8 h (fun k hk => by rw [exC_ge hk, hg k hk]) k)⟩
theorem fExm_of {K : Fg} {cv : Fg → Value} {g : Nat → Bool} (hg : ∀ k, 7 ≤ k → g k = g 7) (h : fExm cv g K = true) : Exs (bs K) (cv K) g :=
  ⟨fun k => of_decide_eq_true (all8 h (fun k hk => by rw [exC_ge hk, hg k hk]) k)⟩
theorem is8_ge (j : Nat) : ∀ k, 7 ≤ k → is8 j k = is8 j 7 := fun k hk => by
  unfold is8
  rw [Nat.min_eq_right hk]
  rfl
/-! constants of the top -/
section
variable {X : Cx} {b : Bs} {W : WX} {x : Str} {pos : Pos}
theorem m_gint {i : Int} (hg : Gl X x) (hm : ∃ t, X.mg x = some (.int i t)) (hd : (x == ("__debug__" : Str)) = false := by decide) : PE X (.Name x pos) (tE b W (retM (.d (.int i)))) := by
  obtain ⟨t, ht⟩ := hm
  exact m_const (pe_glob (v := .int i) hg ht ⟨_, rfl⟩ hd) fun _ _ => .int i
theorem m_gstr {i : Str} (hg : Gl X x) (hm : ∃ t, X.mg x = some (.str i t)) (hd : (x == ("__debug__" : Str)) = false := by decide) : PE X (.Name x pos) (tE b W (retM (.d (.str i)))) := by
  obtain ⟨t, ht⟩ := hm
  exact m_const (pe_glob (v := .str i) hg ht ⟨_, rfl⟩ hd) fun _ _ => .str i
/-- a tuple of texts of the top -/
theorem m_gtup {ss : List Str} {a : Addr} (hg : Gl X x) (hm : X.mg x = some (.ref a)) (ht : ∀ H, SqT b.K H a (ss.map V.str)) (hd : (x == ("__debug__" : Str)) = false := by decide) : PE X (.Name x pos) (tE b W (retM (.d (.tuple (ss.map PyData.str))))) := by
  refine weakE (pe_glob (v := .ref a) hg hm rfl hd) fun σ H Q ⟨c, G, ρ, S, q⟩ => q.ret S (.ref a) (.tup (ht G) ?_)
  induction ss with
  | nil => exact .nil
  | cons s ss ih => exact .cons (.str s) (ih' ss)
where ih' {K : Fg} {G : Hp} : ∀ ss : List Str, Rps K G (ss.map V.str) (ss.map PyData.str)
  | [] => .nil
  | s :: ss => .cons (.str s) (ih' ss)
theorem s_raiseX {m : Str} {j k : Nat} {K : Fg} {p1 p2 p3 : Pos} (hK : X.K = K) (f : ExFact K X.mg k) (hx : exName k = x) (hg : Gl X x) (hc : X.calm = true) (tk : Takes X W) (hd : (x == ("__debug__" : Str)) = false := by decide) :
    PS X (.Raise (some (.Call (.Name x p1) [.Constant (.str m) j p2] [] p3)) none pos) (tS (bs K) W (raiseM k)) := by
  subst hx
  subst hK
  exact s_raise k hc tk (pmk_own PySem.F.excBase_ValueError f.exc f.g f.kp (raises_own f.sub f.ty) hg hd)
end
end G8
namespace G8
open PySem L2
/-! the end of a law -/
def spLaw (K : Fg) : Sp := fun vs H Q _ => ∃ (a : Addr) (ns : List Int), vs = [.ref a] ∧ ns.length ≤ 63 ∧ SqL K H a (ns.map V.int) ∧ ∀ H', Q (.bl true) H'
def Keeps (F : Fn) : Prop := ∀ ns : List Int, ns.length ≤ 63 → ∃ ρ, F [.scr ns] = .ok (.d (.bool true)) ρ
theorem sig_scr {b : Bs} {H : Hp} {a : Addr} {ns : List Int} (h : SqL b.K H a (ns.map V.int)) : SIG b (ctx0 H H [.scr ns] [.ref a]) H (svsE [.scr ns]) (vsE [.ref a]) H := by
  have one : ∀ {i : Nat} {sv : Sv}, (svsE [.scr ns])[i]? = some (some sv) → i = 0 ∧ sv = .scr ns := fun {i sv} e => by
    cases i with
    | zero => simp [svsE] at e; exact ⟨rfl, e.symm⟩
    | succ i => simp [svsE] at e
  have nr : ∀ i p f, (i, p, f) ∉ (ctx0 H H [.scr ns] [.ref a]).refs := fun i p f m => by
    revert m
    simp [ctx0, inner, svsE, vsE, refsOf, Sv.own]
  refine ⟨rfl, Same.refl H, Same.refl H, fun a o e _ => e, fun a o e => .inl e, fun i sv e => ?_, fun i j si sj p e1 _ o1 => ?_, fun i si p e1 o1 => ?_, fun i p f m => (nr i p f m).elim⟩
  · obtain ⟨rfl, rfl⟩ := one e
    exact ⟨.ref a, rfl, a, rfl, h⟩
  · obtain ⟨rfl, rfl⟩ := one e1
    cases o1
  · obtain ⟨rfl, rfl⟩ := one e1
    cases o1
theorem law_end {P : Program} {w : World} {K : Fg} {mg : Str → Option Value} {base : Heap} {k : Nat} {f : Addr} {fd : FuncData} {F : Fn} (hF : Keeps F)
    (FN : FnOk P w K mg base (L2.CX P w) k f fd ["script"] (spF (bs K) 1 F)) : FnOk P w K mg base CX0 k f fd ["script"] (spLaw K) := by
  refine ⟨fun vs H Q E ⟨a, ns, e, _⟩ => by rw [e]; rfl, fun A outer s H args us vs Q E hr he hb hv ⟨a, ns, e, hl, hs, hq⟩ => ?_⟩
  subst e
  obtain ⟨ρ, hρ⟩ := hF ns hl
  refine PySem.codeAny_mono (FN.run A outer s H args us [.ref a] Q (fun _ _ _ => False) hr he hb hv ⟨H, [.scr ns], rfl, sig_scr hs, fun s m o => ?_, ?_⟩) fun r s' h => ?_
  · rcases List.mem_singleton.mp m with rfl
    cases o
  · rw [hρ]
    intro v H' G' S r
    have r : Rp K G' v (.bool true) := r
    cases r
    exact hq H'
  · cases r with
    | ok u => cases u <;> exact h
    | error e =>
      obtain ⟨_, _, _, _, _, _, _, _, _, _, _, _, z⟩ := h
      exact z
/-! the draws: one number of a script, from 0 to less than many -/
def cellI (ns : List Int) (k : Nat) : Int := if ns.isEmpty then 0 else ns.getD (k % ns.length) 0
def mixI (ns : List Int) (k : Nat) : Int :=
  let a := (cellI ns k + 104729 * ((k : Int) + 1)) % 4294967291
  let b := a ^ 5 % 4294967279
  (b / 64 * 69621 + b) % 4294967231
def drw (ns : List Int) (k : Nat) (m : Int) : Int := mixI ns k / 8 % m
theorem drw_lo (ns : List Int) (k : Nat) {m : Int} (h : 0 < m) : 0 ≤ drw ns k m := Int.emod_nonneg _ (by omega)
theorem drw_hi (ns : List Int) (k : Nat) {m : Int} (h : 0 < m) : drw ns k m < m := Int.emod_lt_of_pos _ h
def fcell : M Fl :=
    (seqM (ifM (testM (varM 0)) (retS (dataM (ixS 0 (frzM (bin2 modD (varM 1) (lenM (varM 0))))))) (retM .nx))
    (retS (dataM (retM (.d (.int 0))))))
def Fcell : Fn := bodyF 2 fcell
def fmix : M Fl :=
    (seqM (setM 2 (bin2 modD (frzM (bin2 addD (frzM (callM 2 Fcell (consM (varM 0) (consM (varM 1) (retM []))))) (frzM (bin2 mulD (retM (.d (.int 104729))) (frzM (bin2 addD (varM 1) (retM (.d (.int 1))))))))) (retM (.d (.int 4294967291)))))
    (seqM (setM 2 (bin2 modD (frzM (bin2 powD (varM 2) (retM (.d (.int 5))))) (retM (.d (.int 4294967279)))))
    (retS (bin2 modD (frzM (bin2 addD (frzM (bin2 mulD (frzM (bin2 fdivD (varM 2) (retM (.d (.int 64))))) (retM (.d (.int 69621))))) (varM 2))) (retM (.d (.int 4294967231)))))))
def Fmix : Fn := bodyF 3 fmix
def fdraw : M Fl :=
    (seqM (exprS (mutM 1 appD (consM (retM (.d (.int 0))) (retM []))))
    (retS (bin2 modD (frzM (bin2 fdivD (frzM (callM 2 Fmix (consM (varM 0) (consM (lenM (varM 1)) (retM []))))) (retM (.d (.int 8))))) (varM 2))))
def Fdraw : Fn := bodyF 3 fdraw
/-! what the parts do, one by one -/
@[simp] theorem bindM_ap {α β : Type} (f : M α) (g : α → M β) (ρ : Ev) : bindM f g ρ = (match f ρ with
  | .ok a ρ' => g a ρ'
  | .err k ρ' => .err k ρ'
  | .bad => .bad) := rfl
@[simp] theorem retM_ap {α : Type} (a : α) (ρ : Ev) : retM a ρ = .ok a ρ := rfl
@[simp] theorem badM_ap {α : Type} (ρ : Ev) : (badM : M α) ρ = .bad := rfl
@[simp] theorem optM_ap {α : Type} (g : Ev → Option α) (ρ : Ev) : optM g ρ = (match g ρ with
  | some a => .ok a ρ
  | none => .bad) := rfl
@[simp] theorem varM_ap (i : Nat) (ρ : Ev) : varM i ρ = (match ρ[i]? with
  | some (some _) => .ok (.s i) ρ
  | _ => .bad) := rfl
@[simp] theorem frzM_ap (f : M Rv) (ρ : Ev) : frzM f ρ = (match f ρ with
  | .ok (.d x) ρ' => .ok (.d x) ρ'
  | .ok (.l xs) ρ' => .ok (.d (.list xs)) ρ'
  | .ok _ _ => .bad
  | .err k ρ' => .err k ρ'
  | .bad => .bad) := by
  unfold frzM bindM
  cases f ρ with
  | ok r ρ' => cases r <;> rfl
  | err k ρ' => rfl
  | bad => rfl
@[simp] theorem dataM_ap (f : M Av) (ρ : Ev) : dataM f ρ = bindM f (fun a => optM fun ρ => (fzv ρ a).map Rv.d) ρ := rfl
@[simp] theorem bin2_ap (g : Dt → Dt → Option Rv) (fa fb : M Av) (ρ : Ev) : bin2 g fa fb ρ = bindM fa (fun a => bindM fb fun b => optM fun ρ => (res ρ a).bind fun x => (res ρ b).bind fun y => g x y) ρ := rfl
@[simp] theorem un1_ap (g : Dt → Option Rv) (fa : M Av) (ρ : Ev) : un1 g fa ρ = bindM fa (fun a => optM fun ρ => (res ρ a).bind g) ρ := rfl
@[simp] theorem testM_ap (fa : M Av) (ρ : Ev) : testM fa ρ = bindM fa (fun a => optM fun ρ => tru ρ a) ρ := rfl
@[simp] theorem notM_ap (fa : M Bool) (ρ : Ev) : notM fa ρ = bindM fa (fun b => retM (!b)) ρ := rfl
@[simp] theorem notV_ap (fa : M Av) (ρ : Ev) : notV fa ρ = bindM (testM fa) (fun b => retM (.d (.bool (!b)))) ρ := rfl
@[simp] theorem consM_ap (fe : M Av) (fs : M (List Av)) (ρ : Ev) : consM fe fs ρ = bindM fe (fun a => bindM fs fun as => retM (a :: as)) ρ := rfl
@[simp] theorem lstM_ap (fl : M (List Av)) (ρ : Ev) : lstM fl ρ = bindM fl (fun as => optM fun ρ => if as.length ≤ 1000 then (fzs ρ as).map Rv.l else none) ρ := rfl
@[simp] theorem tupM_ap (fl : M (List Av)) (ρ : Ev) : tupM fl ρ = bindM fl (fun as => bindM (optM fun ρ => if as.length ≤ 1000 then fzs ρ as else none) fun xs => retM (.d (.tuple xs))) ρ := rfl
@[simp] theorem putM_ap (i : Nat) (s : Option Sv) (ρ : Ev) : putM i s ρ = if refAt ρ[i]? then .bad else .ok () (ρ.set i s) := rfl
@[simp] theorem setM_ap (i : Nat) (f : M Rv) (ρ : Ev) : setM i f ρ = bindM f (fun r => bindM (putM i (some r.sv)) fun _ => retM .nx) ρ := rfl
@[simp] theorem retS_ap (f : M Rv) (ρ : Ev) : retS f ρ = bindM f (fun r => retM (.rt r)) ρ := rfl
@[simp] theorem retO_ap (i : Nat) (ρ : Ev) : retO i ρ = bindM (optM fun ρ => slotR ρ[i]?) (fun r => retM (.rt r)) ρ := rfl
@[simp] theorem withS_ap {α : Type} (i : Nat) (f : M α) (ρ : Ev) : withS i f ρ = bindM (shareM i) (fun _ => f) ρ := rfl
@[simp] theorem putD_ap (i : Nat) (d : Dt) (ρ : Ev) : putD i d ρ = if ownAt ρ[i]? then .bad else .ok () (ρ.set i (some (.d d))) := rfl
@[simp] theorem asgM_ap (fe : M Av) (t : Tgt) (ρ : Ev) : asgM fe t ρ = bindM fe (fun a => bindM (optM fun ρ => fzv ρ a) fun d => bindM (putT t d) fun _ => retM .nx) ρ := rfl
@[simp] theorem itM_ap (fa : M Av) (ρ : Ev) : itM fa ρ = bindM fa (fun a => optM fun ρ => (fzv ρ a).bind seqOf) ρ := rfl
@[simp] theorem itT_ap (fa : M Av) (ρ : Ev) : itT fa ρ = bindM fa (fun a => optM fun ρ => (fzv ρ a).bind tupOf) ρ := rfl
@[simp] theorem rg1_ap (fl : M (List Av)) (ρ : Ev) : rg1 fl ρ = bindM fl (fun as => optM fun ρ => (fzs ρ as).bind fun xs => (int1 xs).bind fun j => if mid j then some (rangeD 0 j.toNat) else none) ρ := rfl
@[simp] theorem rg2_ap (fl : M (List Av)) (ρ : Ev) : rg2 fl ρ = bindM fl (fun as => optM fun ρ => (fzs ρ as).bind fun xs => (int2 xs).bind fun q => if mid q.1 && mid q.2 then some (rangeD q.1 (q.2 - q.1).toNat) else none) ρ := rfl
@[simp] theorem rg3_ap (fl : M (List Av)) (ρ : Ev) : rg3 fl ρ = bindM fl (fun as => optM fun ρ => (fzs ρ as).bind fun xs => (int3 xs).bind fun q => if mid q.1 && mid q.2.1 && decide (q.2.2 = -1) then some (rangeC q.1 (-1) (q.1 - q.2.1).toNat) else none) ρ := rfl
@[simp] theorem forM_ap (fi : M (List Dt)) (t : Tgt) (body : M Fl) (ρ : Ev) : forM fi t body ρ = bindM fi (fun ds => forL t body ds) ρ := rfl
@[simp] theorem lcM_ap (fi : M (List Dt)) (t : Tgt) (ft : M Bool) (fe : M Av) (ρ : Ev) : lcM fi t ft fe ρ = bindM fi (fun ds => bindM (compL t ft fe ds []) fun xs => retM (.l xs)) ρ := rfl
@[simp] theorem callM_ap (n : Nat) (F : Fn) (fl : M (List Av)) (ρ : Ev) : callM n F fl ρ = bindM fl (fun as => callF n F as) ρ := rfl
@[simp] theorem cmpM_ap (g : Dt → Dt → Option Bool) (fa fb : M Av) (ρ : Ev) : cmpM g fa fb ρ = bindM fa (fun a => bindM fb fun b => optM fun ρ => (res ρ a).bind fun x => (res ρ b).bind fun y => (g x y).map fun z => .d (.bool z)) ρ := rfl
@[simp] theorem cmpT_ap (g : Dt → Dt → Option Bool) (fa fb : M Av) (ρ : Ev) : cmpT g fa fb ρ = bindM fa (fun a => bindM fb fun b => optM fun ρ => (res ρ a).bind fun x => (res ρ b).bind fun y => g x y) ρ := rfl
@[simp] theorem isN_ap (n : Bool) (fa : M Av) (ρ : Ev) : isN n fa ρ = bindM fa (fun a => optM fun ρ => (nonA ρ a).map fun k => .d (.bool (if n then !k else k))) ρ := rfl
@[simp] theorem isNT_ap (n : Bool) (fa : M Av) (ρ : Ev) : isNT n fa ρ = bindM fa (fun a => optM fun ρ => (nonA ρ a).map fun k => if n then !k else k) ρ := rfl
@[simp] theorem partN_ap  (ρ : Ev) : partN ρ = .ok none ρ := rfl
@[simp] theorem partS_ap (f : M Av) (ρ : Ev) : partS f ρ = bindM f (fun a => optM fun ρ => match res ρ a with
  | some (.int i) => some (some i)
  | _ => none) ρ := rfl
@[simp] theorem sliceM_ap (fa : M Av) (fl fh : M (Option Int)) (ρ : Ev) : sliceM fa fl fh ρ = bindM fa (fun a => bindM fl fun lo => bindM fh fun hi => optM fun ρ => (res ρ a).bind fun x => slD x lo hi) ρ := rfl
@[simp] theorem biM_ap (g : List Dt → Option Rv) (fl : M (List Av)) (ρ : Ev) : biM g fl ρ = bindM fl (fun as => optM fun ρ => (ress ρ as).bind g) ρ := rfl
@[simp] theorem lenM_ap (fa : M Av) (ρ : Ev) : lenM fa ρ = bindM fa (fun a => optM fun ρ => (lenA ρ a).map fun (n : Nat) => Av.d (.int (n : Int))) ρ := rfl
@[simp] theorem meM_ap (g : Dt → List Dt → Option Dt) (fo : M Av) (fl : M (List Av)) (ρ : Ev) : meM g fo fl ρ = bindM fo (fun o => bindM (optM fun ρ => (res ρ o).bind isL) fun _ => bindM fl fun as => optM fun ρ => (res ρ o).bind fun x => (ress ρ as).bind fun ds => (g x ds).map Av.d) ρ := rfl
@[simp] theorem exprS_ap (f : M Rv) (ρ : Ev) : exprS f ρ = bindM f (fun _ => retM .nx) ρ := rfl
@[simp] theorem raiseM_ap {α : Type} (k : Nat) (ρ : Ev) : (raiseM k : M α) ρ = .err k ρ := rfl
@[simp] theorem andM_ap (fa fb : M Bool) (ρ : Ev) : andM fa fb ρ = (match fa ρ with
  | .ok true ρ' => fb ρ'
  | .ok false ρ' => .ok false ρ'
  | .err k ρ' => .err k ρ'
  | .bad => .bad) := by
  unfold andM bindM
  cases fa ρ with
  | ok b ρ' => cases b <;> rfl
  | err k ρ' => rfl
  | bad => rfl
@[simp] theorem orM_ap (fa fb : M Bool) (ρ : Ev) : orM fa fb ρ = (match fa ρ with
  | .ok true ρ' => .ok true ρ'
  | .ok false ρ' => fb ρ'
  | .err k ρ' => .err k ρ'
  | .bad => .bad) := by
  unfold orM bindM
  cases fa ρ with
  | ok b ρ' => cases b <;> rfl
  | err k ρ' => rfl
  | bad => rfl
@[simp] theorem ifM_ap {α : Type} (ft : M Bool) (fa fb : M α) (ρ : Ev) : ifM ft fa fb ρ = (match ft ρ with
  | .ok true ρ' => fa ρ'
  | .ok false ρ' => fb ρ'
  | .err k ρ' => .err k ρ'
  | .bad => .bad) := by
  unfold ifM bindM
  cases ft ρ with
  | ok b ρ' => cases b <;> rfl
  | err k ρ' => rfl
  | bad => rfl
@[simp] theorem andV_ap (fa fb : M Av) (ρ : Ev) : andV fa fb ρ = (match fa ρ with
  | .ok a ρ' => (match tru ρ' a with
    | some true => fb ρ'
    | some false => .ok a ρ'
    | none => .bad)
  | .err k ρ' => .err k ρ'
  | .bad => .bad) := by
  unfold andV
  simp only [bindM_ap, optM_ap]
  cases fa ρ with
  | ok b ρ' =>
    dsimp only
    cases tru ρ' b with
    | none => rfl
    | some k => cases k <;> rfl
  | err k ρ' => rfl
  | bad => rfl
@[simp] theorem orV_ap (fa fb : M Av) (ρ : Ev) : orV fa fb ρ = (match fa ρ with
  | .ok a ρ' => (match tru ρ' a with
    | some true => .ok a ρ'
    | some false => fb ρ'
    | none => .bad)
  | .err k ρ' => .err k ρ'
  | .bad => .bad) := by
  unfold orV
  simp only [bindM_ap, optM_ap]
  cases fa ρ with
  | ok b ρ' =>
    dsimp only
    cases tru ρ' b with
    | none => rfl
    | some k => cases k <;> rfl
  | err k ρ' => rfl
  | bad => rfl
@[simp] theorem seqM_ap (f g : M Fl) (ρ : Ev) : seqM f g ρ = (match f ρ with
  | .ok .nx ρ' => g ρ'
  | o => o) := rfl
@[simp] theorem shareM_ap (i : Nat) (ρ : Ev) : shareM i ρ = (match ρ[i]? with
  | some (some (.ls false xs)) => .ok () (ρ.set i (some (.d (.list xs))))
  | some (some (.d _)) => .ok () ρ
  | _ => .bad) := rfl
@[simp] theorem putT_one (i : Nat) (d : Dt) : putT (.one i) d = putD i d := rfl
@[simp] theorem putT_tup (is : List Nat) (ds : List Dt) : putT (.tup is) (.tuple ds) = putDs is ds := rfl
@[simp] theorem putDs_nil (ρ : Ev) : putDs [] [] ρ = .ok () ρ := rfl
@[simp] theorem putDs_cons (i : Nat) (is : List Nat) (d : Dt) (ds : List Dt) (ρ : Ev) : putDs (i :: is) (d :: ds) ρ = bindM (putD i d) (fun _ => putDs is ds) ρ := rfl
@[simp] theorem chainT_ap (g g' : Dt → Dt → Option Bool) (fa fb fc : M Av) (ρ : Ev) : chainT g g' fa fb fc ρ = bindM fa (fun a => bindM fb fun b => bindM (optM fun ρ => (res ρ a).bind fun x => (res ρ b).bind fun y => g x y) fun k =>
    if k then bindM fc (fun z => optM fun ρ => (res ρ b).bind fun y => (res ρ z).bind fun w => g' y w) else retM false) ρ := by
  unfold chainT chainM
  simp only [bindM_ap]
  cases fa ρ with
  | err k ρ' => rfl
  | bad => rfl
  | ok a ρ1 =>
    dsimp only
    cases fb ρ1 with
    | err k ρ' => rfl
    | bad => rfl
    | ok b ρ2 =>
      simp only [optM_ap]
      cases ((res ρ2 a).bind fun x => (res ρ2 b).bind fun y => g x y) with
      | none => rfl
      | some k =>
        cases k with
        | false => rfl
        | true =>
          simp only [bindM_ap, optM_ap, if_true]
          cases fc ρ2 with
          | err k ρ' => rfl
          | bad => rfl
          | ok c ρ3 =>
            dsimp only
            cases res ρ3 b with
            | none => rfl
            | some y =>
              cases res ρ3 c with
              | none => rfl
              | some w =>
                simp only [Option.bind_some]
                cases g' y w <;> rfl
@[simp] theorem chainM_ap (g g' : Dt → Dt → Option Bool) (fa fb fc : M Av) (ρ : Ev) : chainM g g' fa fb fc ρ = bindM fa (fun a => bindM fb fun b => bindM (optM fun ρ => (res ρ a).bind fun x => (res ρ b).bind fun y => g x y) fun k =>
    if k then bindM fc (fun z => optM fun ρ => (res ρ b).bind fun y => (res ρ z).bind fun w => (g' y w).map fun t => .d (.bool t)) else retM (.d (.bool false))) ρ := by
  unfold chainM
  simp only [bindM_ap]
  cases fa ρ with
  | err k ρ' => rfl
  | bad => rfl
  | ok a ρ1 =>
    dsimp only
    cases fb ρ1 with
    | err k ρ' => rfl
    | bad => rfl
    | ok b ρ2 =>
      simp only [optM_ap]
      cases ((res ρ2 a).bind fun x => (res ρ2 b).bind fun y => g x y) with
      | none => rfl
      | some k => cases k <;> rfl
@[simp] theorem ixS_ap (i : Nat) (fb : M Av) (ρ : Ev) : ixS i fb ρ = bindM (varM i) (fun _ => bindM fb fun a => optM fun ρ => match ρ[i]?, res ρ a with
  | some (some (.scr ns)), some (.int k) => (atI ns k).map fun z => .d (.int z)
  | _, _ => none) ρ := rfl
@[simp] theorem mutM_ap (i : Nat) (g : List Dt → List Dt → Option (Dt × List Dt)) (fl : M (List Av)) (ρ : Ev) : mutM i g fl ρ = bindM (optM fun ρ => slotL ρ[i]?) (fun _ => bindM fl fun as ρ => match slotL ρ[i]?, fzs ρ as with
  | some (r, xs), some ds => (match g xs ds with
    | some (y, ys) => .ok (.d y) (ρ.set i (some (.ls r ys)))
    | none => .bad)
  | _, _ => .bad) ρ := rfl
@[simp] theorem setIt_ap (i : Nat) (fe fk : M Av) (ρ : Ev) : setIt i fe fk ρ = bindM fe (fun a => bindM (optM fun ρ => slotL ρ[i]?) fun _ => bindM fk fun k ρ => match slotL ρ[i]?, fzv ρ a, res ρ k with
  | some (r, xs), some d, some (.int n) => (match ixN xs.length n with
    | some j => .ok .nx (ρ.set i (some (.ls r (xs.set j d))))
    | none => .bad)
  | _, _, _ => .bad) ρ := rfl
@[simp] theorem isiM_ap (i : Nat) (g : Nat → Bool) (ρ : Ev) : isiM i g ρ = (match ρ[i]? with
  | some (some (.ex k)) => .ok (.d (.bool (g k))) ρ
  | _ => .bad) := rfl
@[simp] theorem tryM_ap (g : Nat → Bool) (i j : Nat) (f : M Fl) (ρ : Ev) : tryM g i j f ρ = (match f ρ with
  | .err k ρ' => if g k then (if ownAt ρ'[i]? || refAt ρ'[j]? then .bad else if i = j ∨ ρ'.length ≤ i then .bad else .ok .nx ((ρ'.set i none).set j (some (.ex k)))) else .err k ρ'
  | o => o) := rfl
@[simp] theorem tryO_ap (g : Nat → Bool) (h f : M Fl) (ρ : Ev) : tryO g h f ρ = (match f ρ with
  | .err k ρ' => if g k then h ρ' else .err k ρ'
  | o => o) := rfl
@[simp] theorem callF_ap (n : Nat) (F : Fn) (as : List Av) (ρ : Ev) : callF n F as ρ = if as.length = n ∧ okArgs ρ as = true then (match resolve ρ as with
  | none => .bad
  | some svs => (match F svs with
    | .ok r outs => .ok r (writeBack ρ as outs)
    | .err k outs => .err k (writeBack ρ as outs)
    | .bad => .bad)) else .bad := rfl
@[simp] theorem resolve_nil (ρ : Ev) : resolve ρ [] = some [] := rfl
@[simp] theorem resolve_d (ρ : Ev) (x : Dt) (as : List Av) : resolve ρ (.d x :: as) = (resolve ρ as).map fun r => .d x :: r := rfl
@[simp] theorem resolve_s (ρ : Ev) (i : Nat) (as : List Av) : resolve ρ (.s i :: as) = (match ρ[i]? with
    | some (some s) => (resolve ρ as).map fun r => s.mark true :: r
    | _ => none) := rfl
@[simp] theorem res_d (ρ : Ev) (x : Dt) : res ρ (.d x) = some x := rfl
@[simp] theorem res_s (ρ : Ev) (i : Nat) : res ρ (.s i) = slotD ρ[i]? := rfl
@[simp] theorem fzv_d (ρ : Ev) (x : Dt) : fzv ρ (.d x) = some x := rfl
@[simp] theorem fzv_s (ρ : Ev) (i : Nat) : fzv ρ (.s i) = slotZ ρ[i]? := rfl
@[simp] theorem tru_d (ρ : Ev) (x : Dt) : tru ρ (.d x) = truth x := rfl
@[simp] theorem tru_s (ρ : Ev) (i : Nat) : tru ρ (.s i) = slotT ρ[i]? := rfl
@[simp] theorem slotD_d (x : Dt) : slotD (some (some (.d x))) = some x := rfl
@[simp] theorem slotD_l (r : Bool) (xs : List Dt) : slotD (some (some (.ls r xs))) = some (.list xs) := rfl
@[simp] theorem slotZ_d (x : Dt) : slotZ (some (some (.d x))) = some x := rfl
@[simp] theorem slotL_l (r : Bool) (xs : List Dt) : slotL (some (some (.ls r xs))) = some (r, xs) := rfl
@[simp] theorem slotR_d (x : Dt) : slotR (some (some (.d x))) = some (.d x) := rfl
@[simp] theorem slotR_l (xs : List Dt) : slotR (some (some (.ls false xs))) = some (.l xs) := rfl
@[simp] theorem fzs_nil (ρ : Ev) : fzs ρ [] = some [] := rfl
@[simp] theorem fzs_cons (ρ : Ev) (a : Av) (as : List Av) : fzs ρ (a :: as) = (fzv ρ a).bind fun x => (fzs ρ as).map fun xs => x :: xs := rfl
@[simp] theorem ress_nil (ρ : Ev) : ress ρ [] = some [] := rfl
@[simp] theorem ress_cons (ρ : Ev) (a : Av) (as : List Av) : ress ρ (a :: as) = (res ρ a).bind fun x => (ress ρ as).map fun xs => x :: xs := rfl
@[simp] theorem sv_d (x : Dt) : (Rv.d x).sv = .d x := rfl
@[simp] theorem sv_l (x : List Dt) : (Rv.l x).sv = .ls false x := rfl
@[simp] theorem addD_i (i j : Int) : addD (.int i) (.int j) = some (.d (.int (i + j))) := rfl
@[simp] theorem addD_l (i j : List Dt) : addD (.list i) (.list j) = if i.length + j.length ≤ 1000000 then some (.l (i ++ j)) else none := rfl
@[simp] theorem subD_i (i j : Int) : subD (.int i) (.int j) = some (.d (.int (i - j))) := rfl
@[simp] theorem mulD_i (i j : Int) : mulD (.int i) (.int j) = if small64 i || small64 j then some (.d (.int (i * j))) else none := rfl
@[simp] theorem fdivD_i (i j : Int) : fdivD (.int i) (.int j) = if 0 < j ∧ j.natAbs < 1073741824 then some (.d (.int (i / j))) else none := rfl
@[simp] theorem modD_i (i j : Int) : modD (.int i) (.int j) = if 0 < j then some (.d (.int (i % j))) else none := rfl
@[simp] theorem powD_i (i j : Int) : powD (.int i) (.int j) = if 0 ≤ j ∧ j ≤ 1000000 ∧ i.natAbs < 2 ^ 64 then some (.d (.int (i ^ j.toNat))) else none := rfl
@[simp] theorem negD_i (i : Int) : negD (.int i) = some (.d (.int (-i))) := rfl
@[simp] theorem ltI_i (i j : Int) : ltI (.int i) (.int j) = some (decide (i < j)) := rfl
@[simp] theorem leI_i (i j : Int) : leI (.int i) (.int j) = some (decide (i ≤ j)) := rfl
@[simp] theorem gtI_i (i j : Int) : gtI (.int i) (.int j) = some (decide (j < i)) := rfl
@[simp] theorem geI_i (i j : Int) : geI (.int i) (.int j) = some (decide (j ≤ i)) := rfl
@[simp] theorem ixD_l (xs : List Dt) (i : Int) : ixD (.list xs) (.int i) = (atI xs i).map Rv.d := rfl
@[simp] theorem ixD_t (xs : List Dt) (i : Int) : ixD (.tuple xs) (.int i) = (atI xs i).map Rv.d := rfl
@[simp] theorem forL_nil (t : Tgt) (body : M Fl) (ρ : Ev) : forL t body [] ρ = .ok .nx ρ := rfl
@[simp] theorem compL_nil (t : Tgt) (ft : M Bool) (fe : M Av) (acc : List Dt) (ρ : Ev) : compL t ft fe [] acc ρ = .ok acc ρ := rfl
@[simp] theorem refAt_n : refAt (some none) = false := rfl
@[simp] theorem refAt_s (s : Sv) : refAt (some (some s)) = s.isRef := rfl
@[simp] theorem ownAt_n : ownAt (some none) = false := rfl
@[simp] theorem ownAt_s (s : Sv) : ownAt (some (some s)) = s.own := rfl
@[simp] theorem isRef_d (x : Dt) : (Sv.d x).isRef = false := rfl
@[simp] theorem isRef_l (r : Bool) (x : List Dt) : (Sv.ls r x).isRef = r := rfl
@[simp] theorem isRef_x (k : Nat) : (Sv.ex k).isRef = false := rfl
@[simp] theorem isRef_s (k : List Int) : (Sv.scr k).isRef = false := rfl
@[simp] theorem own_d (x : Dt) : (Sv.d x).own = false := rfl
@[simp] theorem own_l (r : Bool) (x : List Dt) : (Sv.ls r x).own = true := rfl
@[simp] theorem own_x (k : Nat) : (Sv.ex k).own = false := rfl
@[simp] theorem own_s (k : List Int) : (Sv.scr k).own = false := rfl
@[simp] theorem mark_d (b : Bool) (x : Dt) : (Sv.d x).mark b = .d x := rfl
@[simp] theorem mark_l (b r : Bool) (x : List Dt) : (Sv.ls r x).mark b = .ls b x := rfl
@[simp] theorem mark_x (b : Bool) (k : Nat) : (Sv.ex k).mark b = .ex k := rfl
@[simp] theorem mark_s (b : Bool) (k : List Int) : (Sv.scr k).mark b = .scr k := rfl
theorem atI_nat {α : Type} (xs : List α) (i : Nat) : atI xs (i : Int) = xs[i]? := by
  unfold atI ixN
  by_cases h : i < xs.length
  · rw [if_pos (by omega), if_pos (by omega)]
    simp
  · rw [if_pos (by omega), if_neg (by omega), List.getElem?_eq_none (by omega)]
    rfl
def wbAt (o : Option Sv) (q : Option (Option Sv)) : Option Sv := match o with
  | none => none
  | some s => if s.own then (match q with
    | some (some s') => some (s'.mark s.isRef)
    | _ => some s) else some s
theorem wb1_eq (as : List Av) (outs : Ev) (i : Nat) (o : Option Sv) : wb1 as outs i o = (match posOf i as with
    | none => o
    | some j => wbAt o outs[j]?) := by
  unfold wb1 wbAt
  cases o with
  | none => cases posOf i as <;> rfl
  | some s =>
    cases posOf i as with
    | none => dsimp only; split <;> rfl
    | some j => rfl
@[simp] theorem writeBack_nil (as : List Av) (outs : Ev) : writeBack [] as outs = [] := rfl
@[simp] theorem writeBack_eq (ρ : Ev) (as : List Av) (outs : Ev) : writeBack ρ as outs = ρ.mapIdx fun i o => (match posOf i as with
    | none => o
    | some j => wbAt o outs[j]?) := by
  unfold writeBack
  congr 1
  funext i o
  exact wb1_eq as outs i o
@[simp] theorem posOf_nil (i : Nat) : posOf i [] = none := rfl
@[simp] theorem posOf_d (i : Nat) (x : Dt) (as : List Av) : posOf i (.d x :: as) = (posOf i as).map (· + 1) := rfl
@[simp] theorem posOf_s (i k : Nat) (as : List Av) : posOf i (.s k :: as) = if k = i then some 0 else (posOf i as).map (· + 1) := rfl
@[simp] theorem wbAt_n (q : Option (Option Sv)) : wbAt none q = none := rfl
@[simp] theorem wbAt_d (x : Dt) (q : Option (Option Sv)) : wbAt (some (.d x)) q = some (.d x) := rfl
@[simp] theorem wbAt_x (x : Nat) (q : Option (Option Sv)) : wbAt (some (.ex x)) q = some (.ex x) := rfl
@[simp] theorem wbAt_s (x : List Int) (q : Option (Option Sv)) : wbAt (some (.scr x)) q = some (.scr x) := rfl
@[simp] theorem wbAt_l (r : Bool) (x : List Dt) (s : Sv) : wbAt (some (.ls r x)) (some (some s)) = some (s.mark r) := rfl
@[simp] theorem okArgs_nil (ρ : Ev) : okArgs ρ [] = true := rfl
@[simp] theorem okArgs_d (ρ : Ev) (x : Dt) (as : List Av) : okArgs ρ (.d x :: as) = okArgs ρ as := rfl
@[simp] theorem okArgs_s (ρ : Ev) (i : Nat) (as : List Av) : okArgs ρ (.s i :: as) = ((!ownAt ρ[i]? || !hasS i as) && okArgs ρ as) := rfl
@[simp] theorem hasS_nil (i : Nat) : hasS i [] = false := rfl
@[simp] theorem hasS_d (i : Nat) (x : Dt) (as : List Av) : hasS i (.d x :: as) = hasS i as := rfl
@[simp] theorem hasS_s (i k : Nat) (as : List Av) : hasS i (.s k :: as) = (decide (k = i) || hasS i as) := rfl
@[simp] theorem finE_nil (ρ : Ev) : finE [] ρ = [] := rfl
@[simp] theorem finE_cons (s : Sv) (ss : List Sv) (ρ : Ev) : finE (s :: ss) ρ = (if s.isRef then (ρ.head?).getD none else none) :: finE ss ρ.tail := rfl
@[simp] theorem svsE_nil : svsE [] = [] := rfl
@[simp] theorem svsE_cons (s : Sv) (ss : List Sv) : svsE (s :: ss) = some s :: svsE ss := rfl
theorem bodyF_ap (n : Nat) (f : M Fl) (svs : List Sv) : bodyF n f svs = (match f (svsE svs ++ List.replicate (n - svs.length) none) with
  | .ok (.rt r) ρ => .ok r (finE svs ρ)
  | .ok .nx ρ => .ok (.d .none) (finE svs ρ)
  | .ok _ _ => .bad
  | .err k ρ => .err k (finE svs ρ)
  | .bad => .bad) := rfl
theorem Fcell_eq (ns : List Int) (k : Nat) : Fcell [.scr ns, .d (.int k)] = .ok (.d (.int (cellI ns k))) [none, none] := by
  by_cases hn : ns = []
  · subst hn
    rfl
  · have h1 : 0 < ns.length := List.length_pos_iff.mpr hn
    have e : ((k : Int) % (ns.length : Int)) = (((k % ns.length : Nat)) : Int) := by omega
    have hl : k % ns.length < ns.length := Nat.mod_lt _ h1
    have h0 : ns.isEmpty = false := by cases ns <;> simp at hn ⊢
    have q : atI ns ((k : Int) % (ns.length : Int)) = some (cellI ns k) := by
      rw [e, atI_nat, List.getElem?_eq_getElem hl]
      unfold cellI
      rw [if_neg (by simp [h0]), List.getD_eq_getElem?_getD, List.getElem?_eq_getElem hl]
      rfl
    simp [Fcell, fcell, bodyF_ap, lenA, slotT, h0, h1, q]
theorem Fmix_eq (ns : List Int) (k : Nat) : Fmix [.scr ns, .d (.int k)] = .ok (.d (.int (mixI ns k))) [none, none] := by
  have a0 : (0 : Int) ≤ (cellI ns k + 104729 * ((k : Int) + 1)) % 4294967291 := Int.emod_nonneg _ (by decide)
  have a1 : (cellI ns k + 104729 * ((k : Int) + 1)) % 4294967291 < 4294967291 := Int.emod_lt_of_pos _ (by decide)
  have s1 : small64 104729 = true := rfl
  have s2 : small64 69621 = true := rfl
  have nb : ((cellI ns k + 104729 * ((k : Int) + 1)) % 4294967291).natAbs < 2 ^ 64 := by omega
  simp at nb
  simp [Fmix, fmix, bodyF_ap, Fcell_eq, s1, s2, nb, mixI]
theorem Fdraw_eq (ns : List Int) (xs : List Dt) (m : Int) (hm : 0 < m) (hk : xs.length < 999999) : Fdraw [.scr ns, .ls true xs, .d (.int m)] = .ok (.d (.int (drw ns (xs.length + 1) m))) [none, some (.ls true (xs ++ [.int 0])), none] := by
  have hk' : xs.length < 1000000 := by omega
  have q := Fmix_eq ns (xs.length + 1)
  simp at q
  simp [Fdraw, fdraw, bodyF_ap, appD, lenA, q, hm, hk', drw]
end G8
namespace G8
open PySem L2
/-! more of what the parts do -/
@[simp] theorem int1_i (i : Int) : int1 [.int i] = some i := rfl
@[simp] theorem int2_i (i j : Int) : int2 [.int i, .int j] = some (i, j) := rfl
@[simp] theorem int3_i (i j k : Int) : int3 [.int i, .int j, .int k] = some (i, j, k) := rfl
@[simp] theorem mulD_l (xs : List Dt) (k : Int) : mulD (.list xs) (.int k) = if mid k && decide (k ≤ 1000) && decide (xs.length ≤ 1000) then some (.l (List.replicate k.toNat xs).flatten) else none := rfl
@[simp] theorem seqOf_l (xs : List Dt) : seqOf (.list xs) = some xs := rfl
@[simp] theorem tupOf_t (xs : List Dt) : tupOf (.tuple xs) = some xs := rfl
@[simp] theorem lenA_d (ρ : Ev) (x : Dt) : lenA ρ (.d x) = lenD x := rfl
@[simp] theorem lenA_s (ρ : Ev) (i : Nat) : lenA ρ (.s i) = (match ρ[i]? with
    | some (some (.d x)) => lenD x
    | some (some (.ls _ xs)) => some xs.length
    | some (some (.dk _ xs)) => some xs.length
    | some (some (.scr ns)) => some ns.length
    | _ => none) := rfl
@[simp] theorem lenD_l (xs : List Dt) : lenD (.list xs) = some xs.length := rfl
@[simp] theorem lenD_t (xs : List Dt) : lenD (.tuple xs) = some xs.length := rfl
@[simp] theorem nonA_d (ρ : Ev) (x : Dt) : nonA ρ (.d x) = some (isNone x) := rfl
@[simp] theorem nonA_s (ρ : Ev) (i : Nat) : nonA ρ (.s i) = (match ρ[i]? with
    | some (some (.d x)) => some (isNone x)
    | some (some _) => some false
    | _ => none) := rfl
@[simp] theorem isNone_n : isNone .none = true := rfl
@[simp] theorem isNone_i (i : Int) : isNone (.int i) = false := rfl
@[simp] theorem isNone_b (i : Bool) : isNone (.bool i) = false := rfl
@[simp] theorem isNone_s (i : Str) : isNone (.str i) = false := rfl
@[simp] theorem isNone_l (i : List Dt) : isNone (.list i) = false := rfl
@[simp] theorem isNone_t (i : List Dt) : isNone (.tuple i) = false := rfl
@[simp] theorem two2_i (g : Int → Int → Int) (i j : Int) : two2 g [.int i, .int j] = some (.d (.int (g i j))) := rfl
@[simp] theorem truth_b (i : Bool) : truth (.bool i) = some i := rfl
@[simp] theorem slotT_d (x : Dt) : slotT (some (some (.d x))) = truth x := rfl
@[simp] theorem isL_l (xs : List Dt) : isL (.list xs) = some () := rfl
/-! loops -/
@[simp] theorem slots_one (i : Nat) : (Tgt.one i).slots = [i] := rfl
@[simp] theorem slots_tup (is : List Nat) : (Tgt.tup is).slots = is := rfl
@[simp] theorem anyOwn_nil (ρ : Ev) : anyOwn ρ [] = false := rfl
@[simp] theorem anyOwn_cons (ρ : Ev) (i : Nat) (is : List Nat) : anyOwn ρ (i :: is) = (ownAt ρ[i]? || anyOwn ρ is) := by simp [anyOwn]
@[simp] theorem wipeE_nil (ρ : Ev) : wipeE ρ [] = ρ := rfl
@[simp] theorem wipeE_cons (ρ : Ev) (i : Nat) (is : List Nat) : wipeE ρ (i :: is) = (wipeE ρ is).set i none := rfl
@[simp] theorem backE_nil (ρ ρ' : Ev) : backE ρ ρ' [] = ρ' := rfl
@[simp] theorem backE_cons (ρ ρ' : Ev) (i : Nat) (is : List Nat) : backE ρ ρ' (i :: is) = (backE ρ ρ' is).set i ((ρ[i]?).getD none) := rfl
theorem stepL_ap (t : Tgt) (ft : M Bool) (fe : M Av) (d : Dt) (ρ : Ev) : stepL t ft fe d ρ = if anyOwn ρ t.slots then .bad else (match putT t d (wipeE ρ t.slots) with
  | .ok _ ρ1 => (match ft ρ1 with
    | .ok true ρ2 => (match fe ρ2 with
      | .ok a ρ3 => (match fzv ρ3 a with
        | some x => .ok (some x) (backE ρ ρ3 t.slots)
        | none => .bad)
      | _ => .bad)
    | .ok false ρ2 => .ok none (backE ρ ρ2 t.slots)
    | _ => .bad)
  | _ => .bad) := rfl
theorem compL_cons (t : Tgt) (ft : M Bool) (fe : M Av) (d : Dt) (ds acc : List Dt) (ρ : Ev) : compL t ft fe (d :: ds) acc ρ = (match stepL t ft fe d ρ with
  | .ok (some x) ρ' => if acc.length < 1000000 then compL t ft fe ds (acc ++ [x]) ρ' else .bad
  | .ok none ρ' => compL t ft fe ds acc ρ'
  | .err k ρ' => .err k ρ'
  | .bad => .bad) := by
  show bindM (stepL t ft fe d) _ ρ = _
  rw [bindM_ap]
  cases stepL t ft fe d ρ with
  | err k ρ' => rfl
  | bad => rfl
  | ok o ρ' =>
    cases o with
    | none => rfl
    | some x => dsimp only; split <;> rfl
/-- the items of a comprehension, one by one, with a state -/
def collect {α : Type} (step : α → Dt → Option Dt × α) : List Dt → α → List Dt × α
  | [], a => ([], a)
  | d :: ds, a => let r := collect step ds (step a d).2
    (match (step a d).1 with
      | some x => x :: r.1
      | none => r.1, r.2)
theorem compL_st {α : Type} {t : Tgt} {ft : M Bool} {fe : M Av} (E : α → Ev) (step : α → Dt → Option Dt × α) (I : α → Prop) : ∀ (ds acc : List Dt) (a : α), I a → acc.length + ds.length ≤ 1000000 →
    (∀ a d, I a → d ∈ ds → stepL t ft fe d (E a) = .ok (step a d).1 (E (step a d).2) ∧ I (step a d).2) → compL t ft fe ds acc (E a) = .ok (acc ++ (collect step ds a).1) (E (collect step ds a).2)
  | [], acc, a, _, _, _ => by simp [collect]
  | d :: ds, acc, a, hI, hl, h => by
    obtain ⟨h1, h2⟩ := h a d hI (List.mem_cons_self ..)
    rw [compL_cons, h1]
    cases e : (step a d).1 with
    | none =>
      dsimp only
      rw [compL_st E step I ds acc _ h2 (by simp at hl; omega) fun a' d' i m => h a' d' i (List.mem_cons_of_mem _ m)]
      simp [collect, e]
    | some x =>
      dsimp only
      rw [if_pos (by simp at hl; omega), compL_st E step I ds _ _ h2 (by simp at hl ⊢; omega) fun a' d' i m => h a' d' i (List.mem_cons_of_mem _ m)]
      simp [collect, e]
/-- with no state -/
theorem compL_fm {t : Tgt} {ft : M Bool} {fe : M Av} {ρ : Ev} (g : Dt → Option Dt) : ∀ (ds acc : List Dt), acc.length + ds.length ≤ 1000000 →
    (∀ d, d ∈ ds → stepL t ft fe d ρ = .ok (g d) ρ) → compL t ft fe ds acc ρ = .ok (acc ++ ds.filterMap g) ρ
  | [], acc, _, _ => by simp
  | d :: ds, acc, hl, h => by
    rw [compL_cons, h d (List.mem_cons_self ..)]
    cases e : g d with
    | none =>
      dsimp only
      rw [compL_fm g ds acc (by simp at hl; omega) fun d' m => h d' (List.mem_cons_of_mem _ m)]
      simp [e]
    | some x =>
      dsimp only
      rw [if_pos (by simp at hl; omega), compL_fm g ds _ (by simp at hl ⊢; omega) fun d' m => h d' (List.mem_cons_of_mem _ m)]
      simp [e]
theorem compL_map {α : Type} {t : Tgt} {ft : M Bool} {fe : M Av} {ρ : Ev} (c : α → Dt) (g : α → Dt) (xs : List α) (hl : xs.length ≤ 1000000)
    (h : ∀ x, x ∈ xs → stepL t ft fe (c x) ρ = .ok (some (g x)) ρ) : compL t ft fe (xs.map c) [] ρ = .ok (xs.map g) ρ := by
  have key : ∀ (xs : List α) (acc : List Dt), acc.length + xs.length ≤ 1000000 → (∀ x, x ∈ xs → stepL t ft fe (c x) ρ = .ok (some (g x)) ρ) → compL t ft fe (xs.map c) acc ρ = .ok (acc ++ xs.map g) ρ := by
    intro xs
    induction xs with
    | nil => intro acc _ _; simp
    | cons x xs ih =>
      intro acc hl h
      rw [List.map_cons, compL_cons, h x (List.mem_cons_self ..)]
      dsimp only
      rw [if_pos (by simp at hl; omega), ih _ (by simp at hl ⊢; omega) fun y m => h y (List.mem_cons_of_mem _ m)]
      simp
  simpa using key xs [] (by simpa using hl) h
/-- a part of the items, each by its own worth -/
theorem compL_fmap {α : Type} {t : Tgt} {ft : M Bool} {fe : M Av} {ρ : Ev} (c : α → Dt) (g : α → Option Dt) (xs : List α) (hl : xs.length ≤ 1000000)
    (h : ∀ x, x ∈ xs → stepL t ft fe (c x) ρ = .ok (g x) ρ) : compL t ft fe (xs.map c) [] ρ = .ok (xs.filterMap g) ρ := by
  have key : ∀ (xs : List α) (acc : List Dt), acc.length + xs.length ≤ 1000000 → (∀ x, x ∈ xs → stepL t ft fe (c x) ρ = .ok (g x) ρ) → compL t ft fe (xs.map c) acc ρ = .ok (acc ++ xs.filterMap g) ρ := by
    intro xs
    induction xs with
    | nil => intro acc _ _; simp
    | cons x xs ih =>
      intro acc hl h
      rw [List.map_cons, compL_cons, h x (List.mem_cons_self ..)]
      cases e : g x with
      | none =>
        dsimp only
        rw [ih _ (by simp at hl ⊢; omega) fun y m => h y (List.mem_cons_of_mem _ m)]
        simp [e]
      | some z =>
        dsimp only
        rw [if_pos (by simp at hl; omega), ih _ (by simp at hl ⊢; omega) fun y m => h y (List.mem_cons_of_mem _ m)]
        simp [e]
  simpa using key xs [] (by simpa using hl) h
theorem forL_cons (t : Tgt) (body : M Fl) (d : Dt) (ds : List Dt) (ρ : Ev) : forL t body (d :: ds) ρ = (match putT t d ρ with
    | .ok _ ρ1 => (match body ρ1 with
      | .ok .nx ρ2 => forL t body ds ρ2
      | .ok .ct ρ2 => forL t body ds ρ2
      | .ok .bk ρ2 => .ok .nx ρ2
      | o => o)
    | _ => .bad) := rfl
/-- one round of a loop -/
def roundM (t : Tgt) (body : M Fl) (d : Dt) : M Fl := fun ρ => match putT t d ρ with
    | .ok _ ρ1 => body ρ1
    | _ => .bad
theorem roundM_ap (t : Tgt) (body : M Fl) (d : Dt) (ρ : Ev) : roundM t body d ρ = (match putT t d ρ with
    | .ok _ ρ1 => body ρ1
    | _ => .bad) := rfl
theorem forL_round (t : Tgt) (body : M Fl) (d : Dt) (ds : List Dt) (ρ : Ev) : forL t body (d :: ds) ρ = (match roundM t body d ρ with
      | .ok .nx ρ2 => forL t body ds ρ2
      | .ok .ct ρ2 => forL t body ds ρ2
      | .ok .bk ρ2 => .ok .nx ρ2
      | o => o) := by
  rw [forL_cons, roundM_ap]
  cases putT t d ρ with
  | ok u ρ1 => rfl
  | err k ρ1 => rfl
  | bad => rfl
/-- a loop through, with a state -/
theorem forL_st {α β : Type} {t : Tgt} {body : M Fl} (c : β → Dt) (E : α → Ev) (step : α → β → α) (I : α → Prop) : ∀ (xs : List β) (a : α), I a →
    (∀ a x, I a → x ∈ xs → (roundM t body (c x) (E a) = .ok .nx (E (step a x)) ∨ roundM t body (c x) (E a) = .ok .ct (E (step a x))) ∧ I (step a x)) → forL t body (xs.map c) (E a) = .ok .nx (E (xs.foldl step a)) ∧ I (xs.foldl step a)
  | [], a, hI, _ => by simp [hI]
  | x :: xs, a, hI, h => by
    obtain ⟨h1, h2⟩ := h a x hI (List.mem_cons_self ..)
    have h3 := forL_st c E step I xs (step a x) h2 fun a' d' i m => h a' d' i (List.mem_cons_of_mem _ m)
    rcases h1 with h1 | h1 <;> (rw [List.map_cons, forL_round, h1]; exact h3)
/-- a loop through, with an invariant by the number of rounds -/
theorem forL_inv {β : Type} {t : Tgt} {body : M Fl} (c : β → Dt) (P : Nat → Ev → Prop) : ∀ (xs : List β) (n : Nat) (ρ : Ev), P n ρ →
    (∀ i x ρ, xs[i]? = some x → P (n + i) ρ → ∃ ρ', (roundM t body (c x) ρ = .ok .nx ρ' ∨ roundM t body (c x) ρ = .ok .ct ρ') ∧ P (n + i + 1) ρ') → ∃ ρ', forL t body (xs.map c) ρ = .ok .nx ρ' ∧ P (n + xs.length) ρ'
  | [], n, ρ, h, _ => ⟨ρ, rfl, h⟩
  | x :: xs, n, ρ, h, s => by
    obtain ⟨ρ1, h1, h2⟩ := s 0 x ρ rfl h
    obtain ⟨ρ2, h3, h4⟩ := forL_inv c P xs (n + 1) ρ1 h2 fun i y ρ e p => by
      have := s (i + 1) y ρ (by simpa using e) (by rw [show n + (i + 1) = n + 1 + i by omega]; exact p)
      rw [show n + (i + 1) + 1 = n + 1 + i + 1 by omega] at this
      exact this
    refine ⟨ρ2, ?_, by rw [List.length_cons, show n + (xs.length + 1) = n + 1 + xs.length by omega]; exact h4⟩
    rcases h1 with h1 | h1 <;> (rw [List.map_cons, forL_round, h1]; exact h3)
theorem rangeD_eq (lo : Int) (n : Nat) : rangeD lo n = (List.range n).map fun (i : Nat) => PyData.int (lo + (i : Int)) := rfl
theorem rangeD0 (n : Nat) : rangeD 0 n = (List.range n).map fun (i : Nat) => PyData.int (i : Int) := by
  rw [rangeD_eq]
  apply List.map_congr_left
  intro i _
  simp
theorem mid_nat {n : Nat} (h : n < 2 ^ 62) : mid (n : Int) = true := by
  unfold mid
  exact Nat.blt_eq.mpr (by omega)
theorem small_nat {n : Nat} (h : n < 2 ^ 64) : G8.small64 (n : Int) = true := by
  unfold G8.small64
  exact Nat.blt_eq.mpr (by omega)
theorem seqM_assoc (f g h : M Fl) : seqM (seqM f g) h = seqM f (seqM g h) := by
  funext ρ
  simp only [seqM_ap]
  cases f ρ with
  | ok a ρ' => cases a <;> rfl
  | err k ρ' => rfl
  | bad => rfl
theorem seqM_nx {f g : M Fl} {ρ ρ' : Ev} (h : f ρ = .ok .nx ρ') : seqM f g ρ = g ρ' := by
  rw [seqM_ap, h]
theorem bodyF_rt {n : Nat} {f : M Fl} {svs : List Sv} {r : Rv} {ρ : Ev} (h : f (svsE svs ++ List.replicate (n - svs.length) none) = .ok (.rt r) ρ) : bodyF n f svs = .ok r (finE svs ρ) := by
  rw [bodyF_ap, h]
end G8
namespace G8
open PySem L2
/-! data: equality, depth -/
@[simp] theorem eqv_ii (i j : Int) : PyData.eqv (.int i) (.int j) = decide (i = j) := by
  rw [PyData.eqv]
  by_cases h : i = j <;> simp [h]
@[simp] theorem eqv_bb (i j : Bool) : PyData.eqv (.bool i) (.bool j) = (i == j) := by rw [PyData.eqv]
@[simp] theorem eqv_ss (i j : Str) : PyData.eqv (.str i) (.str j) = (i == j) := by rw [PyData.eqv]
@[simp] theorem eqv_nn : PyData.eqv .none .none = true := by rw [PyData.eqv]
@[simp] theorem eqv_ll (i j : List Dt) : PyData.eqv (.list i) (.list j) = PyData.eqvAll i j := by rw [PyData.eqv]
@[simp] theorem eqv_tt (i j : List Dt) : PyData.eqv (.tuple i) (.tuple j) = PyData.eqvAll i j := by rw [PyData.eqv]
@[simp] theorem eqv_in (i : Int) : PyData.eqv (.int i) .none = false := by rw [PyData.eqv]
@[simp] theorem eqv_ni (i : Int) : PyData.eqv .none (.int i) = false := by rw [PyData.eqv]
@[simp] theorem eqv_it (i : Int) (x : List Dt) : PyData.eqv (.int i) (.tuple x) = false := by rw [PyData.eqv]
@[simp] theorem eqv_ti (i : Int) (x : List Dt) : PyData.eqv (.tuple x) (.int i) = false := by rw [PyData.eqv]
@[simp] theorem eqv_lt (i : List Dt) (x : List Dt) : PyData.eqv (.list i) (.tuple x) = false := by rw [PyData.eqv]
@[simp] theorem eqv_tl (i : List Dt) (x : List Dt) : PyData.eqv (.tuple x) (.list i) = false := by rw [PyData.eqv]
@[simp] theorem eqvA_nn : PyData.eqvAll [] [] = true := by rw [PyData.eqvAll]
@[simp] theorem eqvA_cc (x y : Dt) (xs ys : List Dt) : PyData.eqvAll (x :: xs) (y :: ys) = (PyData.eqv x y && PyData.eqvAll xs ys) := by rw [PyData.eqvAll]
@[simp] theorem eqvA_nc (y : Dt) (ys : List Dt) : PyData.eqvAll [] (y :: ys) = false := by rw [PyData.eqvAll]
@[simp] theorem eqvA_cn (y : Dt) (ys : List Dt) : PyData.eqvAll (y :: ys) [] = false := by rw [PyData.eqvAll]
/-- plain data, n deep at most -/
def nice (n : Nat) (x : Dt) : Prop := x.plain = true ∧ x.depth ≤ n
theorem nice_int (n : Nat) (i : Int) : nice n (.int i) := ⟨by rw [PyData.plain], by rw [PyData.depth]; omega⟩
theorem nice_bool (n : Nat) (i : Bool) : nice n (.bool i) := ⟨by rw [PyData.plain], by rw [PyData.depth]; omega⟩
theorem nice_str (n : Nat) (i : Str) : nice n (.str i) := ⟨by rw [PyData.plain], by rw [PyData.depth]; omega⟩
theorem nice_none (n : Nat) : nice n .none := ⟨by rw [PyData.plain], by rw [PyData.depth]; omega⟩
theorem nice_all {n : Nat} : ∀ {xs : List Dt}, (∀ x ∈ xs, nice n x) → PyData.plainAll xs = true ∧ PyData.depthAll xs ≤ n
  | [], _ => ⟨by rw [PyData.plainAll], by rw [PyData.depthAll]; omega⟩
  | x :: xs, h => by
    obtain ⟨h1, h2⟩ := h x (List.mem_cons_self ..)
    obtain ⟨h3, h4⟩ := nice_all fun y hy => h y (List.mem_cons_of_mem _ hy)
    rw [PyData.plainAll, PyData.depthAll, h1, h3]
    exact ⟨rfl, Nat.max_le.mpr ⟨h2, h4⟩⟩
theorem nice_list {n : Nat} {xs : List Dt} (h : ∀ x ∈ xs, nice n x) : nice (n + 1) (.list xs) := by
  obtain ⟨h1, h2⟩ := nice_all h
  exact ⟨by rw [PyData.plain]; exact h1, by rw [PyData.depth]; omega⟩
theorem nice_tuple {n : Nat} {xs : List Dt} (h : ∀ x ∈ xs, nice n x) : nice (n + 1) (.tuple xs) := by
  obtain ⟨h1, h2⟩ := nice_all h
  exact ⟨by rw [PyData.plain]; exact h1, by rw [PyData.depth]; omega⟩
theorem nice_up {n m : Nat} {x : Dt} (h : nice n x) (hm : n ≤ m) : nice m x := ⟨h.1, Nat.le_trans h.2 hm⟩
theorem nice_ints (n : Nat) (xs : List Int) : nice (n + 1) (.list (xs.map PyData.int)) := nice_list fun x hx => by
  obtain ⟨i, _, rfl⟩ := List.mem_map.mp hx
  exact nice_int n i
theorem shal_nice {x : Dt} (h : nice 60 x) : shal x = true := decide_eq_true h.2
theorem shalL_nice {xs : List Dt} (h : ∀ x ∈ xs, nice 60 x) : shalL xs = true := decide_eq_true (nice_all h).2
@[simp] theorem shal_i (i : Int) : shal (.int i) = true := shal_nice (nice_int _ _)
@[simp] theorem shal_b (i : Bool) : shal (.bool i) = true := shal_nice (nice_bool _ _)
@[simp] theorem shal_s (i : Str) : shal (.str i) = true := shal_nice (nice_str _ _)
@[simp] theorem shal_n : shal .none = true := shal_nice (nice_none _)
@[simp] theorem shalL_ints (xs : List Int) : shalL (xs.map PyData.int) = true := shalL_nice fun x hx => by
  obtain ⟨i, _, rfl⟩ := List.mem_map.mp hx
  exact nice_int _ i
theorem eqD_self {x : Dt} (h : nice 60 x) : eqD x x = some true := by
  unfold eqD
  rw [shal_nice h, PySem.SeqAt.eqv_refl_plain x h.1]
  rfl
theorem neD_self {x : Dt} (h : nice 60 x) : neD x x = some false := by
  unfold neD
  rw [shal_nice h, PySem.SeqAt.eqv_refl_plain x h.1]
  rfl
@[simp] theorem eqD_i (i j : Int) : eqD (.int i) (.int j) = some (decide (i = j)) := by simp [eqD]
@[simp] theorem neD_i (i j : Int) : neD (.int i) (.int j) = some (!decide (i = j)) := by simp [neD]
@[simp] theorem eqD_s (i j : Str) : eqD (.str i) (.str j) = some (i == j) := by simp [eqD]
@[simp] theorem neD_s (i j : Str) : neD (.str i) (.str j) = some (!(i == j)) := by simp [neD]
theorem eqvA_ints : ∀ (xs ys : List Int), PyData.eqvAll (xs.map PyData.int) (ys.map PyData.int) = decide (xs = ys)
  | [], [] => by simp
  | [], _ :: _ => by simp
  | _ :: _, [] => by simp
  | x :: xs, y :: ys => by simp [eqvA_ints xs ys, Bool.decide_and]
theorem inD_ints (i : Int) (xs : List Int) : inD (.int i) (.list (xs.map PyData.int)) = some (decide (i ∈ xs)) := by
  show (if shal (.int i) && shalL (xs.map PyData.int) then some ((xs.map PyData.int).any fun z => PyData.eqv z (.int i)) else none) = _
  rw [shal_i, shalL_ints, List.any_map]
  show some _ = some _
  congr 1
  induction xs with
  | nil => rfl
  | cons x xs ih =>
    rw [List.any_cons, ih]
    simp [Bool.decide_or, eq_comm]
theorem ninD_ints (i : Int) (xs : List Int) : ninD (.int i) (.list (xs.map PyData.int)) = some (decide (i ∉ xs)) := by
  unfold ninD
  rw [inD_ints]
  simp
end G8
namespace G8
open PySem L2
def g_RoomError : Nat → Bool := fun _ => true
/-! look_name -/
def f_look_name : M Fl :=
    (ifM (notM (chainT leI leI (retM (.d (.int 0))) (varM 0) (retM (.d (.int 19))))) (raiseM 0) (retM .nx))
def F_look_name : Fn := bodyF 1 f_look_name
/-! look_row -/
def b_look_row_1 : M Fl :=
    (exprS (callM 1 F_look_name (consM (varM 1) (retM []))))
def f_look_row : M Fl :=
    (seqM (ifM (cmpT gtI (lenM (varM 0)) (retM (.d (.int 24)))) (raiseM 0) (retM .nx))
    (forM (itM (varM 0)) (.one 1) b_look_row_1))
def F_look_row : Fn := bodyF 2 f_look_row
/-! names -/
def b_names_1 : M Fl :=
    (ifM (cmpT ninD (varM 2) (varM 1)) (exprS (mutM 1 appD (consM (varM 2) (retM [])))) (retM .nx))
def f_names : M Fl :=
    (seqM (exprS (callM 1 F_look_row (consM (varM 0) (retM []))))
    (seqM (setM 1 (lstM (retM [])))
    (seqM (forM (itM (varM 0)) (.one 2) b_names_1)
    (retO 1))))
def F_names : Fn := bodyF 3 f_names
/-! later -/
def b_later_1 : M Fl :=
    (ifM (cmpT eqD (frzM (bin2 ixD (varM 0) (varM 2))) (frzM (bin2 ixD (varM 0) (varM 1)))) (retO 2) (retM .nx))
def f_later : M Fl :=
    (seqM (forM (rg2 (consM (frzM (bin2 addD (varM 1) (retM (.d (.int 1))))) (consM (lenM (varM 0)) (retM [])))) (.one 2) b_later_1)
    (retS (dataM (retM (.d .none)))))
def F_later : Fn := bodyF 3 f_later
/-! holds -/
def e_holds_1 : M Av :=
    (tupM (consM (varM 2) (consM (frzM (callM 2 F_later (consM (varM 0) (consM (varM 2) (retM []))))) (retM []))))
def t_holds_1 : M Bool :=
    (isNT true (frzM (bin2 ixD (varM 3) (retM (.d (.int 1))))))
def f_holds : M Fl :=
    (seqM (exprS (callM 1 F_look_row (consM (varM 0) (retM []))))
    (seqM (setM 1 (lcM (rg1 (consM (lenM (varM 0)) (retM []))) (.one 2) (retM true) e_holds_1))
    (withS 1 (retS (lcM (itM (varM 1)) (.one 3) t_holds_1 (varM 3))))))
def F_holds : Fn := bodyF 4 f_holds
/-! renamed -/
def e_renamed_1 : M Av :=
    (meM (lookD indexD) (varM 1) (consM (varM 2) (retM [])))
def f_renamed : M Fl :=
    (seqM (setM 1 (callM 1 F_names (consM (varM 0) (retM []))))
    (retS (lcM (itM (varM 0)) (.one 2) (retM true) e_renamed_1)))
def F_renamed : Fn := bodyF 3 f_renamed
/-! are_alike -/
def f_are_alike : M Fl :=
    (retS (dataM (cmpM eqD (frzM (callM 1 F_renamed (consM (varM 0) (retM [])))) (frzM (callM 1 F_renamed (consM (varM 1) (retM [])))))))
def F_are_alike : Fn := bodyF 2 f_are_alike
/-! squeezed -/
def t_squeezed_1 : M Bool :=
    (orM (cmpT eqD (varM 1) (retM (.d (.int 0)))) (cmpT neD (frzM (bin2 ixD (varM 0) (varM 1))) (frzM (bin2 ixD (varM 0) (frzM (bin2 subD (varM 1) (retM (.d (.int 1)))))))))
def f_squeezed : M Fl :=
    (seqM (exprS (callM 1 F_look_row (consM (varM 0) (retM []))))
    (retS (lcM (rg1 (consM (lenM (varM 0)) (retM []))) (.one 1) t_squeezed_1 (frzM (bin2 ixD (varM 0) (varM 1))))))
def F_squeezed : Fn := bodyF 2 f_squeezed
/-! apart -/
def e_apart_1 : M Av :=
    (cmpM ltI (varM 1) (retM (.d (.int 10))))
def e_apart_2 : M Av :=
    (frzM (bin2 addD (varM 1) (retM (.d (.int 10)))))
def f_apart : M Fl :=
    (seqM (exprS (callM 1 F_look_row (consM (varM 0) (retM []))))
    (seqM (ifM (notM (testM (frzM (biM allD (consM (frzM (lcM (itM (varM 0)) (.one 1) (retM true) e_apart_1)) (retM [])))))) (raiseM 0) (retM .nx))
    (retS (lcM (itM (varM 0)) (.one 1) (retM true) e_apart_2))))
def F_apart : Fn := bodyF 2 f_apart
/-! _law_cell -/
def f__law_cell : M Fl :=
    (seqM (ifM (testM (varM 0)) (retS (dataM (ixS 0 (frzM (bin2 modD (varM 1) (lenM (varM 0))))))) (retM .nx))
    (retS (dataM (retM (.d (.int 0))))))
def F__law_cell : Fn := bodyF 2 f__law_cell
/-! _law_mix -/
def f__law_mix : M Fl :=
    (seqM (setM 2 (bin2 modD (frzM (bin2 addD (frzM (callM 2 F__law_cell (consM (varM 0) (consM (varM 1) (retM []))))) (frzM (bin2 mulD (retM (.d (.int 104729))) (frzM (bin2 addD (varM 1) (retM (.d (.int 1))))))))) (retM (.d (.int 4294967291)))))
    (seqM (setM 2 (bin2 modD (frzM (bin2 powD (varM 2) (retM (.d (.int 5))))) (retM (.d (.int 4294967279)))))
    (retS (bin2 modD (frzM (bin2 addD (frzM (bin2 mulD (frzM (bin2 fdivD (varM 2) (retM (.d (.int 64))))) (retM (.d (.int 69621))))) (varM 2))) (retM (.d (.int 4294967231)))))))
def F__law_mix : Fn := bodyF 3 f__law_mix
/-! _law_draw -/
def f__law_draw : M Fl :=
    (seqM (exprS (mutM 1 appD (consM (retM (.d (.int 0))) (retM []))))
    (retS (bin2 modD (frzM (bin2 fdivD (frzM (callM 2 F__law_mix (consM (varM 0) (consM (lenM (varM 1)) (retM []))))) (retM (.d (.int 8))))) (varM 2))))
def F__law_draw : Fn := bodyF 3 f__law_draw
/-! _law_refusal -/
def f__law_refusal : M Fl :=
    (seqM (ifM (isNT false (varM 0)) (retS (dataM (tupM (consM (retM (.d (.str "ok"))) (retM []))))) (retM .nx))
    (seqM (setM 1 (lstM (consM (isiM 0 (is8 0)) (consM (isiM 0 (is8 1)) (consM (isiM 0 (is8 2)) (retM []))))))
    (seqM (setM 1 (bin2 addD (varM 1) (frzM (lstM (consM (isiM 0 (is8 3)) (consM (isiM 0 (is8 4)) (consM (isiM 0 (is8 5)) (retM []))))))))
    (seqM (setM 1 (bin2 addD (varM 1) (frzM (lstM (consM (isiM 0 (is8 6)) (consM (isiM 0 (is8 7)) (retM [])))))))
    (seqM (ifM (orM (cmpT neD (meM (lookD countD) (varM 1) (consM (retM (.d (.bool true))) (retM []))) (retM (.d (.int 1)))) (notM (testM (isiM 0 (fun _ => true))))) (retS (dataM (tupM (consM (retM (.d (.str "wrong"))) (retM []))))) (retM .nx))
    (seqM (setM 2 (lstM (consM (retM (.d (.str "row"))) (consM (retM (.d (.str "room"))) (consM (retM (.d (.str "rule"))) (consM (retM (.d (.str "plan"))) (consM (retM (.d (.str "depths"))) (consM (retM (.d (.str "turns"))) (consM (retM (.d (.str "ask"))) (consM (retM (.d (.str "text"))) (retM [])))))))))))
    (retS (dataM (tupM (consM (retM (.d (.str "refused"))) (consM (frzM (bin2 ixD (varM 2) (meM (lookD indexD) (varM 1) (consM (retM (.d (.bool true))) (retM []))))) (retM []))))))))))))
def F__law_refusal : Fn := bodyF 3 f__law_refusal
/-! look_room -/
def f_look_room : M Fl :=
    (ifM (notM (chainT leI leI (retM (.d (.int 0))) (varM 0) (retM (.d (.int 12))))) (raiseM 1) (retM .nx))
def F_look_room : Fn := bodyF 1 f_look_room
def l_RULES : List Str := ["last", "first", "old", "young", "far", "often"]
/-! look_rule -/
def f_look_rule : M Fl :=
    (ifM (cmpT ninD (varM 0) (retM (.d (.tuple (l_RULES.map PyData.str))))) (raiseM 2) (retM .nx))
def F_look_rule : Fn := bodyF 1 f_look_rule
/-! next_of -/
def b_next_of_1 : M Fl :=
    (ifM (cmpT eqD (frzM (bin2 ixD (varM 0) (varM 3))) (varM 2)) (retO 3) (retM .nx))
def f_next_of : M Fl :=
    (seqM (forM (rg2 (consM (varM 1) (consM (lenM (varM 0)) (retM [])))) (.one 3) b_next_of_1)
    (retS (dataM (lenM (varM 0)))))
def F_next_of : Fn := bodyF 4 f_next_of
/-! last_of -/
def t_last_of_1 : M Bool :=
    (cmpT eqD (frzM (bin2 ixD (varM 0) (varM 3))) (varM 2))
def f_last_of : M Fl :=
    (retS (biM (bestD PySem.W.maxD) (consM (frzM (lcM (rg1 (consM (varM 1) (retM []))) (.one 3) t_last_of_1 (varM 3))) (retM []))))
def F_last_of : Fn := bodyF 4 f_last_of
def l_STACKED : List Str := ["last", "first", "young", "far", "often"]
/-! look_stacked -/
def f_look_stacked : M Fl :=
    (seqM (exprS (callM 1 F_look_rule (consM (varM 0) (retM []))))
    (ifM (cmpT ninD (varM 0) (retM (.d (.tuple (l_STACKED.map PyData.str))))) (raiseM 2) (retM .nx)))
def F_look_stacked : Fn := bodyF 1 f_look_stacked
/-! rank -/
def f_rank : M Fl :=
    (seqM (ifM (cmpT eqD (varM 0) (retM (.d (.str "last")))) (retS (dataM (tupM (consM (frzM (callM 3 F_last_of (consM (varM 1) (consM (varM 2) (consM (varM 3) (retM [])))))) (consM (retM (.d (.int 0))) (retM [])))))) (retM .nx))
    (seqM (ifM (cmpT eqD (varM 0) (retM (.d (.str "first")))) (retS (dataM (tupM (consM (frzM (bin2 subD (retM (.d (.int 0))) (frzM (callM 3 F_last_of (consM (varM 1) (consM (varM 2) (consM (varM 3) (retM [])))))))) (consM (retM (.d (.int 0))) (retM [])))))) (retM .nx))
    (seqM (ifM (cmpT eqD (varM 0) (retM (.d (.str "young")))) (retS (dataM (tupM (consM (frzM (bin2 subD (retM (.d (.int 0))) (frzM (callM 3 F_next_of (consM (varM 1) (consM (retM (.d (.int 0))) (consM (varM 3) (retM [])))))))) (consM (retM (.d (.int 0))) (retM [])))))) (retM .nx))
    (seqM (ifM (cmpT eqD (varM 0) (retM (.d (.str "far")))) (retS (dataM (tupM (consM (frzM (bin2 subD (retM (.d (.int 0))) (frzM (callM 3 F_next_of (consM (varM 1) (consM (varM 2) (consM (varM 3) (retM [])))))))) (consM (varM 3) (retM [])))))) (retM .nx))
    (retS (dataM (tupM (consM (meM (lookD countD) (frzM (sliceM (varM 1) partN (partS (varM 2)))) (consM (varM 3) (retM []))) (consM (frzM (callM 3 F_last_of (consM (varM 1) (consM (varM 2) (consM (varM 3) (retM [])))))) (retM []))))))))))
def F_rank : Fn := bodyF 4 f_rank
/-! crowd -/
def t_crowd_1 : M Bool :=
    (chainT ltI ltI (frzM (bin2 ixD (varM 3) (retM (.d (.int 0))))) (varM 2) (frzM (bin2 ixD (varM 3) (retM (.d (.int 1))))))
def e_crowd_1 : M Av :=
    (lenM (frzM (lcM (itM (varM 1)) (.one 3) t_crowd_1 (varM 3))))
def f_crowd : M Fl :=
    (retS (lcM (rg1 (consM (lenM (varM 0)) (retM []))) (.one 2) (retM true) e_crowd_1))
def F_crowd : Fn := bodyF 4 f_crowd
/-! followed -/
def t_followed_1 : M Bool :=
    (cmpT neD (varM 8) (frzM (bin2 ixD (varM 2) (varM 5))))
def b_followed_1 : M Fl :=
    (seqM (setM 6 (dataM (cmpM inD (frzM (bin2 ixD (varM 1) (varM 5))) (varM 3))))
    (seqM (setM 7 (dataM (andV (notV (varM 6)) (andV (cmpM gtI (varM 0) (retM (.d (.int 0)))) (cmpM eqD (lenM (varM 3)) (varM 0))))))
    (seqM (ifM (orM (cmpT neD (varM 7) (isN true (frzM (bin2 ixD (varM 2) (varM 5))))) (andM (testM (varM 7)) (cmpT ninD (frzM (bin2 ixD (varM 2) (varM 5))) (varM 3)))) (raiseM 3) (retM .nx))
    (seqM (withS 3 (setM 3 (lcM (itM (varM 3)) (.one 8) t_followed_1 (varM 8))))
    (seqM (ifM (andM (notM (testM (varM 6))) (cmpT gtI (varM 0) (retM (.d (.int 0))))) (exprS (mutM 3 appD (consM (frzM (bin2 ixD (varM 1) (varM 5))) (retM [])))) (retM .nx))
    (exprS (mutM 4 appD (consM (varM 6) (retM [])))))))))
def f_followed : M Fl :=
    (seqM (exprS (callM 1 F_look_room (consM (varM 0) (retM []))))
    (seqM (exprS (callM 1 F_look_row (consM (varM 1) (retM []))))
    (seqM (ifM (cmpT neD (lenM (varM 2)) (lenM (varM 1))) (raiseM 3) (retM .nx))
    (seqM (setM 3 (lstM (retM [])))
    (seqM (setM 4 (lstM (retM [])))
    (seqM (forM (rg1 (consM (lenM (varM 1)) (retM []))) (.one 5) b_followed_1)
    (retO 4)))))))
def F_followed : Fn := bodyF 9 f_followed
/-! cost -/
def f_cost : M Fl :=
    (retS (dataM (meM (lookD countD) (frzM (callM 3 F_followed (consM (varM 0) (consM (varM 1) (consM (varM 2) (retM [])))))) (consM (retM (.d (.bool false))) (retM [])))))
def F_cost : Fn := bodyF 3 f_cost
/-! held -/
def t_held_1 : M Bool :=
    (testM (frzM (bin2 ixD (varM 3) (frzM (bin2 ixD (varM 4) (retM (.d (.int 1))))))))
def f_held : M Fl :=
    (seqM (setM 3 (callM 3 F_followed (consM (varM 0) (consM (varM 1) (consM (varM 2) (retM []))))))
    (retS (lcM (itM (frzM (callM 1 F_holds (consM (varM 1) (retM []))))) (.one 4) t_held_1 (varM 4))))
def F_held : Fn := bodyF 5 f_held
/-! is_held -/
def e_is_held_1 : M Av :=
    (andV (cmpM eqD (frzM (bin2 ixD (varM 0) (frzM (bin2 ixD (varM 4) (retM (.d (.int 0))))))) (varM 3)) (chainM ltI ltI (frzM (bin2 ixD (varM 4) (retM (.d (.int 0))))) (varM 2) (frzM (bin2 ixD (varM 4) (retM (.d (.int 1)))))))
def f_is_held : M Fl :=
    (retS (biM anyD (consM (frzM (lcM (itM (varM 1)) (.one 4) (retM true) e_is_held_1)) (retM []))))
def F_is_held : Fn := bodyF 5 f_is_held
/-! can_be -/
def b_can_be_1 : M Fl :=
    (seqM (ifM (andM (isNT true (varM 2)) (notM (chainT leI leI (retM (.d (.int 1))) (varM 2) (varM 1)))) (retS (dataM (retM (.d (.bool false))))) (retM .nx))
    (setM 1 (bin2 addD (varM 1) (frzM (biM intD (consM (isN false (varM 2)) (retM [])))))))
def f_can_be : M Fl :=
    (seqM (ifM (cmpT gtI (lenM (varM 0)) (retM (.d (.int 24)))) (retS (dataM (retM (.d (.bool false))))) (retM .nx))
    (seqM (setM 1 (dataM (retM (.d (.int 0)))))
    (seqM (forM (itM (varM 0)) (.one 2) b_can_be_1)
    (retS (dataM (cmpM leI (varM 1) (frzM (bin2 addD (retM (.d (.int 19))) (retM (.d (.int 1)))))))))))
def F_can_be : Fn := bodyF 3 f_can_be
/-! row_of -/
def b_row_of_1 : M Fl :=
    (seqM (setM 5 (dataM (varM 3)))
    (seqM (ifM (isNT false (varM 4)) (setM 3 (bin2 addD (varM 3) (retM (.d (.int 1))))) (setM 5 (mutM 1 popAtD (consM (frzM (bin2 subD (varM 4) (retM (.d (.int 1))))) (retM [])))))
    (seqM (exprS (mutM 1 insD (consM (retM (.d (.int 0))) (consM (varM 5) (retM [])))))
    (exprS (mutM 2 appD (consM (varM 5) (retM [])))))))
def f_row_of : M Fl :=
    (seqM (ifM (notM (testM (frzM (callM 1 F_can_be (consM (varM 0) (retM [])))))) (raiseM 4) (retM .nx))
    (seqM (setM 1 (lstM (retM [])))
    (seqM (setM 2 (lstM (retM [])))
    (seqM (setM 3 (dataM (retM (.d (.int 0)))))
    (seqM (forM (itM (varM 0)) (.one 4) b_row_of_1)
    (retO 2))))))
def F_row_of : Fn := bodyF 6 f_row_of
/-! can_count -/
def e_can_count_1 : M Av :=
    (andV (cmpM gtI (frzM (bin2 ixD (varM 0) (varM 1))) (retM (.d (.int 0)))) (cmpM gtI (varM 1) (frzM (bin2 ixD (varM 0) (retM (.d (.int 0)))))))
def f_can_count : M Fl :=
    (seqM (ifM (orM (notM (testM (varM 0))) (orM (cmpT ltI (frzM (biM (bestD PySem.W.minD) (consM (varM 0) (retM [])))) (retM (.d (.int 0)))) (orM (cmpT gtI (frzM (biM sumD (consM (varM 0) (retM [])))) (retM (.d (.int 24)))) (cmpT gtI (frzM (bin2 ixD (varM 0) (retM (.d (.int 0))))) (frzM (bin2 addD (retM (.d (.int 19))) (retM (.d (.int 1))))))))) (retS (dataM (retM (.d (.bool false))))) (retM .nx))
    (retS (dataM (notV (frzM (biM anyD (consM (frzM (lcM (rg2 (consM (retM (.d (.int 1))) (consM (lenM (varM 0)) (retM [])))) (.one 1) (retM true) e_can_count_1)) (retM []))))))))
def F_can_count : Fn := bodyF 2 f_can_count
/-! row_with -/
def b_row_with_1 : M Fl :=
    (exprS (mutM 1 extD (consM (frzM (bin2 mulD (frzM (lstM (consM (varM 2) (retM [])))) (frzM (bin2 ixD (varM 0) (varM 2))))) (retM []))))
def f_row_with : M Fl :=
    (seqM (ifM (notM (testM (frzM (callM 1 F_can_count (consM (varM 0) (retM [])))))) (raiseM 4) (retM .nx))
    (seqM (setM 1 (bin2 mulD (frzM (lstM (consM (retM (.d .none)) (retM [])))) (frzM (bin2 ixD (varM 0) (retM (.d (.int 0)))))))
    (seqM (forM (rg3 (consM (frzM (bin2 subD (lenM (varM 0)) (retM (.d (.int 1))))) (consM (retM (.d (.int 0))) (consM (frzM (un1 negD (retM (.d (.int 1))))) (retM []))))) (.one 2) b_row_with_1)
    (withS 1 (retS (callM 1 F_row_of (consM (varM 1) (retM []))))))))
def F_row_with : Fn := bodyF 3 f_row_with
/-! how_many -/
def e_how_many_1 : M Av :=
    (frzM (bin2 addD (frzM (bin2 mulD (frzM (bin2 ixD (varM 2) (varM 4))) (varM 4))) (ifM (cmpT gtI (varM 4) (retM (.d (.int 0)))) (frzM (bin2 ixD (varM 2) (frzM (bin2 subD (varM 4) (retM (.d (.int 1))))))) (retM (.d (.int 0))))))
def b_how_many_1 : M Fl :=
    (setM 2 (lcM (rg1 (consM (frzM (bin2 addD (varM 0) (retM (.d (.int 1))))) (retM []))) (.one 4) (retM true) e_how_many_1))
def f_how_many : M Fl :=
    (seqM (ifM (orM (notM (chainT leI leI (retM (.d (.int 0))) (varM 1) (retM (.d (.int 24))))) (notM (chainT leI leI (retM (.d (.int 0))) (varM 0) (frzM (biM (two2 fun i j => if j < i then j else i) (consM (varM 1) (consM (frzM (bin2 addD (retM (.d (.int 19))) (retM (.d (.int 1))))) (retM [])))))))) (raiseM 4) (retM .nx))
    (seqM (setM 2 (bin2 addD (frzM (lstM (consM (retM (.d (.int 1))) (retM [])))) (frzM (bin2 mulD (frzM (lstM (consM (retM (.d (.int 0))) (retM [])))) (varM 0)))))
    (seqM (forM (rg1 (consM (varM 1) (retM []))) (.one 3) b_how_many_1)
    (retS (bin2 ixD (varM 2) (varM 0))))))
def F_how_many : Fn := bodyF 5 f_how_many
/-! levels -/
def b_levels_1 : M Fl :=
    (seqM (exprS (mutM 5 appD (consM (ifM (cmpT inD (varM 6) (varM 3)) (retM (.d (.str "near"))) (ifM (cmpT inD (varM 6) (varM 4)) (retM (.d (.str "far"))) (retM (.d (.str "none"))))) (retM []))))
    (seqM (withS 3 (setM 3 (bin2 addD (frzM (lstM (consM (varM 6) (retM [])))) (frzM (lcM (itM (varM 3)) (.one 7) (cmpT neD (varM 7) (varM 6)) (varM 7))))))
    (seqM (withS 4 (setM 4 (bin2 addD (frzM (sliceM (varM 3) (partS (varM 0)) partN)) (frzM (lcM (itM (varM 4)) (.one 7) (cmpT neD (varM 7) (varM 6)) (varM 7))))))
    (seqM (setM 3 (sliceM (varM 3) partN (partS (varM 0))))
    (setM 4 (sliceM (varM 4) partN (partS (varM 1))))))))
def f_levels : M Fl :=
    (seqM (exprS (callM 1 F_look_room (consM (varM 0) (retM []))))
    (seqM (exprS (callM 1 F_look_room (consM (varM 1) (retM []))))
    (seqM (exprS (callM 1 F_look_row (consM (varM 2) (retM []))))
    (seqM (setM 3 (lstM (retM [])))
    (seqM (setM 4 (lstM (retM [])))
    (seqM (setM 5 (lstM (retM [])))
    (seqM (forM (itM (varM 2)) (.one 6) b_levels_1)
    (retO 5))))))))
def F_levels : Fn := bodyF 8 f_levels
end G8
namespace G8
open PySem L2
/-! what the common parts of the laws do -/
theorem draw_eq (ns : List Int) (xs : List Dt) (m : Int) (hm : 0 < m) (hk : xs.length < 999999) : F__law_draw [.scr ns, .ls true xs, .d (.int m)] = .ok (.d (.int (drw ns (xs.length + 1) m))) [none, some (.ls true (xs ++ [.int 0])), none] := Fdraw_eq ns xs m hm hk
def wordN : Nat → Str
  | 0 => "row"
  | 1 => "room"
  | 2 => "rule"
  | 3 => "plan"
  | 4 => "depths"
  | 5 => "turns"
  | 6 => "ask"
  | _ => "text"
def refD (k : Nat) : Dt := .tuple [.str "refused", .str (wordN k)]
theorem refusal_eq (k : Nat) (h : k < 8) : F__law_refusal [.ex k] = .ok (.d (refD k)) [none] := by
  match k, h with
  | 0, _ => rfl
  | 1, _ => rfl
  | 2, _ => rfl
  | 3, _ => rfl
  | 4, _ => rfl
  | 5, _ => rfl
  | 6, _ => rfl
  | 7, _ => rfl
  | k + 8, h => omega
/-! depths.how_many -/
def stir : Nat → Nat → Nat
  | 0, 0 => 1
  | 0, _ + 1 => 0
  | _ + 1, 0 => 0
  | k + 1, m + 1 => stir k (m + 1) * (m + 1) + stir k m
theorem stir_big : ∀ (k m : Nat), k < m → stir k m = 0
  | 0, m + 1, _ => rfl
  | k + 1, m + 1, h => by
    rw [stir, stir_big k (m + 1) (by omega), stir_big k m (by omega)]
    simp
def ways (k f : Nat) : List Dt := (List.range (f + 1)).map fun m => PyData.int ((stir k m : Nat) : Int)
theorem ways_len (k f : Nat) : (ways k f).length = f + 1 := by simp [ways]
theorem ways_at (k f m : Nat) (h : m ≤ f) : atI (ways k f) (m : Int) = some (.int (stir k m : Nat)) := by
  rw [G8.atI_nat, ways, List.getElem?_map, List.getElem?_range (by omega)]
  rfl
theorem ways0 (f : Nat) : PyData.int 1 :: List.replicate f (PyData.int 0) = ways 0 f := by
  apply List.ext_getElem?
  intro i
  cases i with
  | zero => simp [ways, stir]
  | succ i =>
    by_cases h : i < f
    · simp [ways, List.getElem?_replicate, h, stir]
    · simp [ways, List.getElem?_replicate, h]
theorem how_step (f a k m : Nat) (x3 : Option Sv) (hm : m ≤ f) (hf : f ≤ 20) : stepL (.one 4) (retM true) e_how_many_1 (.int (m : Int)) [some (.d (.int f)), some (.d (.int a)), some (.ls false (ways k f)), x3, none]
    = .ok (some (.int (stir (k + 1) m : Nat))) [some (.d (.int f)), some (.d (.int a)), some (.ls false (ways k f)), x3, none] := by
  have sm : G8.small64 (m : Int) = true := small_nat (by omega)
  have w1 := ways_at k f m hm
  cases m with
  | zero =>
    simp at sm w1
    simp [stepL_ap, e_how_many_1, w1, sm, stir]
  | succ m =>
    have w2 := ways_at k f m (by omega)
    have e1 : ((m : Int) + 1 - 1) = m := by omega
    simp at w1 sm
    have p1 : (0 : Int) < (m : Int) + 1 := by omega
    simp [stepL_ap, e_how_many_1, w1, sm, w2, e1, stir, p1]
theorem how_ok (f a : Nat) (ha : a ≤ 24) (hf : f ≤ a) (hf2 : f ≤ 20) : F_how_many [.d (.int f), .d (.int a)] = .ok (.d (.int (stir a f : Nat))) [none, none] := by
  have hm : mid (a : Int) = true := mid_nat (by omega)
  have hm1 : mid ((f : Int) + 1) = true := mid_nat (n := f + 1) (by omega)
  have c0 : (a : Int) ≤ 24 := by omega
  have c1 : (f : Int) ≤ (if (20 : Int) < (a : Int) then (20 : Int) else (a : Int)) := by split <;> omega
  have c2 : (f : Int) ≤ 1000 := by omega
  have c3 : mid (f : Int) = true := mid_nat (by omega)
  have c5 : (List.replicate f [PyData.int 0]).flatten = List.replicate f (PyData.int 0) := by simp
  have c4 : 1 + f ≤ 1000000 := by omega
  have t1 : ((f : Int) + 1).toNat = f + 1 := by omega
  have wl := ways_at a f f (Nat.le_refl f)
  obtain ⟨ρ', h1, x3, h2, h3⟩ := forL_inv (t := .one 3) (body := b_how_many_1) (fun (i : Nat) => PyData.int (i : Int)) (fun k ρ => ∃ x3, ownAt (some x3) = false ∧ ρ = [some (.d (.int f)), some (.d (.int a)), some (.ls false (ways k f)), x3, none]) (List.range a) 0
    [some (.d (.int f)), some (.d (.int a)), some (.ls false (ways 0 f)), none, none] ⟨none, rfl, rfl⟩ (by
      rintro i x ρ hx ⟨x3, h3, rfl⟩
      refine ⟨_, .inl ?_, some (.d (.int x)), rfl, rfl⟩
      have cp := compL_map (t := .one 4) (ft := retM true) (fe := e_how_many_1) (ρ := [some (.d (.int f)), some (.d (.int a)), some (.ls false (ways (0 + i) f)), some (.d (.int x)), none]) (fun (i : Nat) => PyData.int (i : Int)) (fun m => .int (stir (0 + i + 1) m : Nat)) (List.range (f + 1)) (by simp; omega)
        (fun m hm => how_step f a (0 + i) m _ (by simp at hm; omega) hf2)
      rw [show (List.range (f + 1)).map (fun m => PyData.int ((stir (0 + i + 1) m : Nat) : Int)) = ways (0 + i + 1) f from rfl] at cp
      simp only [Nat.zero_add] at cp ⊢
      simp [roundM_ap, b_how_many_1, h3, hm1, rangeD0, cp, t1])
  subst h3
  simp at h1
  simp [F_how_many, f_how_many, bodyF_ap, c0, c1, c2, c3, c4, c5, hm, rangeD0, h1, ways0, wl]
theorem how_bad (f a : Int) (h : ¬ (0 ≤ a ∧ a ≤ 24 ∧ 0 ≤ f ∧ f ≤ a ∧ f ≤ 20)) : F_how_many [.d (.int f), .d (.int a)] = .err 4 [none, none] := by
  by_cases h1 : 0 ≤ a
  · by_cases h2 : a ≤ 24
    · by_cases h3 : 0 ≤ f
      · have c1 : ¬ f ≤ (if (20 : Int) < a then (20 : Int) else a) := by split <;> omega
        simp [F_how_many, f_how_many, bodyF_ap, h1, h2, h3, c1]
      · simp [F_how_many, f_how_many, bodyF_ap, h1, h2, h3]
    · simp [F_how_many, f_how_many, bodyF_ap, h1, h2]
  · simp [F_how_many, f_how_many, bodyF_ap, h1]
end G8
namespace K42
open PySem L2 G8
def top (i : Nat) : Stmt := PySem.Challenge.pw_allrooms_k42_whole_how_many.main.body.getD i (.Pass ⟨0, 0, 0, 0⟩)
/-! how_many -/
abbrev s_how_many : Stmt := top 13
theorem sc_how_many : FnScope ["first", "asks", "ways", "k", "many"] ["first", "asks"] (defScope s_how_many) := ⟨rfl, rfl, rfl, by decide +kernel, rfl, by decide +kernel, by decide +kernel⟩
/-! _law_cell -/
abbrev s__law_cell : Stmt := top 15
theorem sc__law_cell : FnScope ["script", "k"] ["script", "k"] (defScope s__law_cell) := ⟨rfl, rfl, rfl, by decide +kernel, rfl, by decide +kernel, by decide +kernel⟩
/-! _law_mix -/
abbrev s__law_mix : Stmt := top 16
theorem sc__law_mix : FnScope ["script", "k", "number"] ["script", "k"] (defScope s__law_mix) := ⟨rfl, rfl, rfl, by decide +kernel, rfl, by decide +kernel, by decide +kernel⟩
/-! _law_draw -/
abbrev s__law_draw : Stmt := top 17
theorem sc__law_draw : FnScope ["script", "town", "many"] ["script", "town", "many"] (defScope s__law_draw) := ⟨rfl, rfl, rfl, by decide +kernel, rfl, by decide +kernel, by decide +kernel⟩
/-! _law_refusal -/
abbrev s__law_refusal : Stmt := top 18
theorem sc__law_refusal : FnScope ["caught", "kinds", "words"] ["caught"] (defScope s__law_refusal) := ⟨rfl, rfl, rfl, by decide +kernel, rfl, by decide +kernel, by decide +kernel⟩
/-! _law_told -/
abbrev s__law_told : Stmt := top 19
theorem sc__law_told : FnScope ["first", "asks", "caught", "found", "e"] ["first", "asks"] (defScope s__law_told) := ⟨rfl, rfl, rfl, by decide +kernel, rfl, by decide +kernel, by decide +kernel⟩
def f__law_told : M Fl :=
    (seqM (setM 2 (dataM (retM (.d .none))))
    (seqM (setM 3 (dataM (retM (.d .none))))
    (seqM (tryM g_RoomError 4 2 (setM 3 (callM 2 F_how_many (consM (varM 0) (consM (varM 1) (retM []))))))
    (retS (dataM (ifM (isNT false (varM 2)) (varM 3) (frzM (callM 1 F__law_refusal (consM (varM 2) (retM []))))))))))
def F__law_told : Fn := bodyF 5 f__law_told
/-! law -/
abbrev s_law : Stmt := top 20
theorem sc_law : FnScope ["script", "town", "asks", "rows", "k", "first", "bad", "longer", "row", "same", "name", "many"] ["script"] (defScope s_law) := ⟨rfl, rfl, rfl, by decide +kernel, rfl, by decide +kernel, by decide +kernel⟩
def e_law_1 : M Av :=
    (frzM (bin2 addD (varM 8) (frzM (lstM (consM (varM 10) (retM []))))))
def b_law_1 : M Fl :=
    (setM 7 (bin2 addD (varM 7) (frzM (lcM (rg1 (consM (frzM (bin2 addD (frzM (biM (bestD PySem.W.maxD) (consM (frzM (bin2 addD (varM 8) (frzM (lstM (consM (frzM (un1 negD (retM (.d (.int 1))))) (retM [])))))) (retM [])))) (retM (.d (.int 2))))) (retM []))) (.one 10) (retM true) e_law_1))))
def b_law_2 : M Fl :=
    (seqM (setM 7 (lstM (retM [])))
    (seqM (withS 3 (forM (itM (varM 3)) (.one 8) b_law_1))
    (withS 7 (setM 3 (dataM (varM 7))))))
def t_law_1 : M Bool :=
    (cmpT eqD (frzM (bin2 addD (frzM (biM (bestD PySem.W.maxD) (consM (frzM (bin2 addD (varM 8) (frzM (lstM (consM (frzM (un1 negD (retM (.d (.int 1))))) (retM [])))))) (retM [])))) (retM (.d (.int 1))))) (varM 5))
def b_law_3 : M Fl :=
    (withS 3 (ifM (cmpT neD (frzM (callM 2 F__law_told (consM (varM 5) (consM (varM 2) (retM []))))) (lenM (frzM (lcM (itM (varM 3)) (.one 8) t_law_1 (varM 8))))) (retS (dataM (retM (.d (.bool false))))) (retM .nx)))
def b_law_4 : M Fl :=
    (seqM (setM 9 (dataM (ifM (cmpT ltI (varM 5) (varM 2)) (frzM (callM 2 F__law_told (consM (varM 5) (consM (frzM (bin2 subD (varM 2) (retM (.d (.int 1))))) (retM []))))) (retM (.d (.int 0))))))
    (ifM (cmpT neD (frzM (callM 2 F__law_told (consM (varM 5) (consM (varM 2) (retM []))))) (frzM (bin2 addD (frzM (bin2 mulD (varM 5) (varM 9))) (frzM (callM 2 F__law_told (consM (frzM (bin2 subD (varM 5) (retM (.d (.int 1))))) (consM (frzM (bin2 subD (varM 2) (retM (.d (.int 1))))) (retM [])))))))) (retS (dataM (retM (.d (.bool false))))) (retM .nx)))
def e_law_2 : M Av :=
    (frzM (callM 2 F__law_told (consM (varM 5) (consM (varM 11) (retM [])))))
def f_law : M Fl :=
    (seqM (setM 1 (lstM (retM [])))
    (seqM (setM 2 (callM 3 F__law_draw (consM (varM 0) (consM (varM 1) (consM (retM (.d (.int 7))) (retM []))))))
    (seqM (setM 3 (lstM (consM (frzM (lstM (retM []))) (retM []))))
    (seqM (forM (rg1 (consM (varM 2) (retM []))) (.one 4) b_law_2)
    (seqM (forM (rg1 (consM (frzM (bin2 addD (varM 2) (retM (.d (.int 1))))) (retM []))) (.one 5) b_law_3)
    (seqM (setM 2 (bin2 addD (retM (.d (.int 1))) (frzM (callM 3 F__law_draw (consM (varM 0) (consM (varM 1) (consM (retM (.d (.int 24))) (retM []))))))))
    (seqM (forM (rg2 (consM (retM (.d (.int 1))) (consM (frzM (bin2 addD (frzM (biM (two2 fun i j => if j < i then j else i) (consM (varM 2) (consM (retM (.d (.int 20))) (retM []))))) (retM (.d (.int 1))))) (retM [])))) (.one 5) b_law_4)
    (seqM (setM 6 (lstM (consM (tupM (consM (frzM (un1 negD (retM (.d (.int 1))))) (consM (retM (.d (.int 3))) (retM [])))) (consM (tupM (consM (retM (.d (.int 4))) (consM (retM (.d (.int 3))) (retM [])))) (consM (tupM (consM (retM (.d (.int 21))) (consM (retM (.d (.int 24))) (retM [])))) (consM (tupM (consM (retM (.d (.int 0))) (consM (retM (.d (.int 25))) (retM [])))) (consM (tupM (consM (retM (.d (.int 1))) (consM (frzM (un1 negD (retM (.d (.int 1))))) (retM [])))) (consM (tupM (consM (frzM (bin2 addD (varM 2) (retM (.d (.int 1))))) (consM (varM 2) (retM [])))) (retM [])))))))))
    (withS 6 (retS (dataM (andV (cmpM eqD (frzM (lcM (itM (varM 6)) (.tup [5, 11]) (retM true) e_law_2)) (frzM (bin2 mulD (frzM (lstM (consM (tupM (consM (retM (.d (.str "refused"))) (consM (retM (.d (.str "depths"))) (retM [])))) (retM [])))) (retM (.d (.int 6)))))) (cmpM eqD (frzM (callM 2 F__law_told (consM (retM (.d (.int 0))) (consM (varM 2) (retM []))))) (retM (.d (.int 0))))))))))))))))
def F_law : Fn := bodyF 12 f_law
structure Tx (K : Fg) (mg : Str → Option Value) : Prop where
  z_ValueError : mg "ValueError" = none
  z_isinstance : mg "isinstance" = none
  z_len : mg "len" = none
  z_max : mg "max" = none
  z_min : mg "min" = none
  z_range : mg "range" = none
  c_MOST_ASKS : ∃ t, mg "MOST_ASKS" = some (.int 24 t)
  c_MOST_NAME : ∃ t, mg "MOST_NAME" = some (.int 19 t)
  x_BadRow : ExFact K mg 0
  x_BadRoom : ExFact K mg 1
  x_BadRule : ExFact K mg 2
  x_BadPlan : ExFact K mg 3
  x_BadDepths : ExFact K mg 4
  x_BadTurns : ExFact K mg 5
  x_BadAsk : ExFact K mg 6
  x_BadText : ExFact K mg 7
  i_BadAsk : Isi (bs K) (.ref (exC K 6)) (is8 6)
  i_BadDepths : Isi (bs K) (.ref (exC K 4)) (is8 4)
  i_BadPlan : Isi (bs K) (.ref (exC K 3)) (is8 3)
  i_BadRoom : Isi (bs K) (.ref (exC K 1)) (is8 1)
  i_BadRow : Isi (bs K) (.ref (exC K 0)) (is8 0)
  i_BadRule : Isi (bs K) (.ref (exC K 2)) (is8 2)
  i_BadText : Isi (bs K) (.ref (exC K 7)) (is8 7)
  i_BadTurns : Isi (bs K) (.ref (exC K 5)) (is8 5)
  i_ValueError : Isi (bs K) (.type "ValueError") (fun _ => true)
  gc_RoomError : mg "RoomError" = some (.ref (He.ga K "RoomError"))
  e_RoomError : Exs (bs K) (.ref (He.ga K "RoomError")) g_RoomError
  g_how_many : mg "how_many" = some (.ref (He.ga K "how_many"))
  g__law_cell : mg "_law_cell" = some (.ref (He.ga K "_law_cell"))
  g__law_mix : mg "_law_mix" = some (.ref (He.ga K "_law_mix"))
  g__law_draw : mg "_law_draw" = some (.ref (He.ga K "_law_draw"))
  g__law_refusal : mg "_law_refusal" = some (.ref (He.ga K "_law_refusal"))
  g__law_told : mg "_law_told" = some (.ref (He.ga K "_law_told"))
  g_law : mg "law" = some (.ref (He.ga K "law"))
  d_how_many : ∃ fd, FunD K "how_many" "how_many" (defArgs s_how_many) (defBody s_how_many) (defScope s_how_many) [] [] (He.ga K "how_many") fd
  d__law_cell : ∃ fd, FunD K "_law_cell" "_law_cell" (defArgs s__law_cell) (defBody s__law_cell) (defScope s__law_cell) [] [] (He.ga K "_law_cell") fd
  d__law_mix : ∃ fd, FunD K "_law_mix" "_law_mix" (defArgs s__law_mix) (defBody s__law_mix) (defScope s__law_mix) [] [] (He.ga K "_law_mix") fd
  d__law_draw : ∃ fd, FunD K "_law_draw" "_law_draw" (defArgs s__law_draw) (defBody s__law_draw) (defScope s__law_draw) [] [] (He.ga K "_law_draw") fd
  d__law_refusal : ∃ fd, FunD K "_law_refusal" "_law_refusal" (defArgs s__law_refusal) (defBody s__law_refusal) (defScope s__law_refusal) [] [] (He.ga K "_law_refusal") fd
  d__law_told : ∃ fd, FunD K "_law_told" "_law_told" (defArgs s__law_told) (defBody s__law_told) (defScope s__law_told) [] [] (He.ga K "_law_told") fd
  d_law : ∃ fd, FunD K "law" "law" (defArgs s_law) (defBody s_law) (defScope s_law) [] [] (He.ga K "law") fd
section
variable {P : Program} {w : World} {K : Fg} {mg : Str → Option Value} {base : Heap}
theorem ok_how_many (T : Tx K mg) : ∃ fd, FnOk P w K mg base (L2.CX P w) 1 (He.ga K "how_many") fd ["first", "asks"] (spF (bs K) 2 F_how_many) ∧ Binds K fd ["first", "asks"] [] ∧ PySem.W.keepIn K (.ref (He.ga K "how_many")) = true := by
  obtain ⟨fd, F⟩ := T.d_how_many
  refine ⟨fd, fn_body F sc_how_many (fun cdv A outer s H E hr => ?_), F.bindsN (fun _ _ _ _ _ _ us hl => match us, hl with | [_, _], _ => rfl), F.kp⟩
  have tk : Takes (cxOf (L2.CX P w) P w K mg base ["first", "asks", "ways", "k", "many"] "how_many" (defScope s_how_many) (He.ga K "how_many") cdv A outer s H E) (WF E) := takes_of rfl rfl rfl rfl
  have po : PassesOwn (model P w) (A.deeper (PyProof.Rows.envOfC "how_many" (defScope s_how_many) s.heap.objs.size (He.ga K "how_many") cdv)) (PyProof.Rows.envOfC "how_many" (defScope s_how_many) s.heap.objs.size (He.ga K "how_many") cdv) (cxOf (L2.CX P w) P w K mg base ["first", "asks", "ways", "k", "many"] "how_many" (defScope s_how_many) (He.ga K "how_many") cdv A outer s H E).xe := passes_of (X := cxOf (L2.CX P w) P w K mg base ["first", "asks", "ways", "k", "many"] "how_many" (defScope s_how_many) (He.ga K "how_many") cdv A outer s H E) rfl
  have hu1 := hu_of hr
  exact (s_cons (s_if (PW.pt (m_or (m_not (m_chainT op_le t_le op_le t_le m_int (m_var 1 (pv 1)) (m_gint rfl T.c_MOST_ASKS))) (m_or1 (m_not (m_chainT op_le t_le op_le t_le m_int (m_var 0 (pv 0)) (m_frz (m_min2 rfl rfl T.z_min (m_cons (m_var 1 (pv 1)) (m_cons (m_frz (m_add (m_gint rfl T.c_MOST_NAME) m_int)) m_nil))))))))) (s_one (s_raiseX (k := 4) rfl T.x_BadDepths rfl rfl rfl tk)) s_nil)
    (s_cons (s_set (i := 2) sc_how_many.nd rfl (by first | exact Or.inl rfl | exact Or.inr rfl) (m_add (m_frz (m_lst (m_cons m_int m_nil))) (m_frz (m_mul (m_frz (m_lst (m_cons m_int m_nil))) (m_var 0 (pv 0))))))
    (s_cons (s_for (t := (.one 3)) rfl po rfl (i_range1 rfl T.z_range (m_cons (m_var 1 (pv 1)) m_nil)) (pg_name (i := 3) sc_how_many.nd rfl (by first | exact Or.inl rfl | exact Or.inr rfl)) (s_one (s_set (i := 2) sc_how_many.nd rfl (by first | exact Or.inl rfl | exact Or.inr rfl) (m_lc (t := (.one 4)) rfl rfl rfl sc_how_many.nd (i_range1 rfl T.z_range (m_cons (m_frz (m_add (m_var 0 (pv 0)) m_int)) m_nil)) (blkOk_by (own := [("many", 4)]) (by kernel_rfl)) (fun _ _ _ _ _ => (pg_name (i := 4) sc_how_many.nd rfl (by first | exact Or.inl rfl | exact Or.inr rfl))) (fun _ _ _ _ _ => ts_nil) (fun _ _ _ _ _ => (m_frz (m_add (m_frz (m_mul (m_frz (m_idx rfl (m_var 2 (pv 2)) (m_var 4 (pv 4)))) (m_var 4 (pv 4)))) (m_ifE (m_tcmp op_gt t_gt (m_var 4 (pv 4)) m_int (nomark _)) (m_frz (m_idx rfl (m_var 2 (pv 2)) (m_frz (m_sub (m_var 4 (pv 4)) m_int)))) m_int))))))))
    (s_one (s_ret (m_idx rfl (m_var 2 (pv 2)) (m_var 0 (pv 0))))))))
theorem ok__law_cell (T : Tx K mg) : ∃ fd, FnOk P w K mg base (L2.CX P w) 1 (He.ga K "_law_cell") fd ["script", "k"] (spF (bs K) 2 F__law_cell) ∧ Binds K fd ["script", "k"] [] ∧ PySem.W.keepIn K (.ref (He.ga K "_law_cell")) = true := by
  obtain ⟨fd, F⟩ := T.d__law_cell
  refine ⟨fd, fn_body F sc__law_cell (fun cdv A outer s H E hr => ?_), F.bindsN (fun _ _ _ _ _ _ us hl => match us, hl with | [_, _], _ => rfl), F.kp⟩
  have tk : Takes (cxOf (L2.CX P w) P w K mg base ["script", "k"] "_law_cell" (defScope s__law_cell) (He.ga K "_law_cell") cdv A outer s H E) (WF E) := takes_of rfl rfl rfl rfl
  have po : PassesOwn (model P w) (A.deeper (PyProof.Rows.envOfC "_law_cell" (defScope s__law_cell) s.heap.objs.size (He.ga K "_law_cell") cdv)) (PyProof.Rows.envOfC "_law_cell" (defScope s__law_cell) s.heap.objs.size (He.ga K "_law_cell") cdv) (cxOf (L2.CX P w) P w K mg base ["script", "k"] "_law_cell" (defScope s__law_cell) (He.ga K "_law_cell") cdv A outer s H E).xe := passes_of (X := cxOf (L2.CX P w) P w K mg base ["script", "k"] "_law_cell" (defScope s__law_cell) (He.ga K "_law_cell") cdv A outer s H E) rfl
  have hu1 := hu_of hr
  exact (s_cons (s_if (m_test rfl (m_var 0 (pv 0))) (s_one (s_ret (m_data (m_ixS rfl 0 (pv 0) (m_frz (m_mod (m_var 1 (pv 1)) (m_len rfl rfl T.z_len (m_var 0 (pv 0))))))))) s_nil)
    (s_one (s_ret (m_data m_int))))
theorem ok__law_mix (T : Tx K mg) : ∃ fd, FnOk P w K mg base (L2.CX P w) 2 (He.ga K "_law_mix") fd ["script", "k"] (spF (bs K) 2 F__law_mix) ∧ Binds K fd ["script", "k"] [] ∧ PySem.W.keepIn K (.ref (He.ga K "_law_mix")) = true := by
  obtain ⟨fd, F⟩ := T.d__law_mix
  obtain ⟨fd__law_cell, ok__law_cell, b__law_cell, k__law_cell⟩ := ok__law_cell (P := P) (w := w) (base := base) T
  refine ⟨fd, fn_body F sc__law_mix (fun cdv A outer s H E hr => ?_), F.bindsN (fun _ _ _ _ _ _ us hl => match us, hl with | [_, _], _ => rfl), F.kp⟩
  have tk : Takes (cxOf (L2.CX P w) P w K mg base ["script", "k", "number"] "_law_mix" (defScope s__law_mix) (He.ga K "_law_mix") cdv A outer s H E) (WF E) := takes_of rfl rfl rfl rfl
  have po : PassesOwn (model P w) (A.deeper (PyProof.Rows.envOfC "_law_mix" (defScope s__law_mix) s.heap.objs.size (He.ga K "_law_mix") cdv)) (PyProof.Rows.envOfC "_law_mix" (defScope s__law_mix) s.heap.objs.size (He.ga K "_law_mix") cdv) (cxOf (L2.CX P w) P w K mg base ["script", "k", "number"] "_law_mix" (defScope s__law_mix) (He.ga K "_law_mix") cdv A outer s H E).xe := passes_of (X := cxOf (L2.CX P w) P w K mg base ["script", "k", "number"] "_law_mix" (defScope s__law_mix) (He.ga K "_law_mix") cdv A outer s H E) rfl
  have hu1 := hu_of hr
  exact (s_cons (s_set (i := 2) sc__law_mix.nd rfl (by first | exact Or.inl rfl | exact Or.inr rfl) (m_mod (m_frz (m_add (m_frz (m_call ok__law_cell (hr.mono (by decide)) rfl T.g__law_cell k__law_cell b__law_cell tk (m_cons (m_var 0 (pv 0)) (m_cons (m_var 1 (pv 1)) m_nil)))) (m_frz (m_mul m_int (m_frz (m_add (m_var 1 (pv 1)) m_int)))))) m_int))
    (s_cons (s_set (i := 2) sc__law_mix.nd rfl (by first | exact Or.inl rfl | exact Or.inr rfl) (m_mod (m_frz (m_pow (m_var 2 (pv 2)) m_int)) m_int))
    (s_one (s_ret (m_mod (m_frz (m_add (m_frz (m_mul (m_frz (m_fdiv (m_var 2 (pv 2)) m_int)) m_int)) (m_var 2 (pv 2)))) m_int)))))
theorem ok__law_draw (T : Tx K mg) : ∃ fd, FnOk P w K mg base (L2.CX P w) 3 (He.ga K "_law_draw") fd ["script", "town", "many"] (spF (bs K) 3 F__law_draw) ∧ Binds K fd ["script", "town", "many"] [] ∧ PySem.W.keepIn K (.ref (He.ga K "_law_draw")) = true := by
  obtain ⟨fd, F⟩ := T.d__law_draw
  obtain ⟨fd__law_mix, ok__law_mix, b__law_mix, k__law_mix⟩ := ok__law_mix (P := P) (w := w) (base := base) T
  refine ⟨fd, fn_body F sc__law_draw (fun cdv A outer s H E hr => ?_), F.bindsN (fun _ _ _ _ _ _ us hl => match us, hl with | [_, _, _], _ => rfl), F.kp⟩
  have tk : Takes (cxOf (L2.CX P w) P w K mg base ["script", "town", "many"] "_law_draw" (defScope s__law_draw) (He.ga K "_law_draw") cdv A outer s H E) (WF E) := takes_of rfl rfl rfl rfl
  have po : PassesOwn (model P w) (A.deeper (PyProof.Rows.envOfC "_law_draw" (defScope s__law_draw) s.heap.objs.size (He.ga K "_law_draw") cdv)) (PyProof.Rows.envOfC "_law_draw" (defScope s__law_draw) s.heap.objs.size (He.ga K "_law_draw") cdv) (cxOf (L2.CX P w) P w K mg base ["script", "town", "many"] "_law_draw" (defScope s__law_draw) (He.ga K "_law_draw") cdv A outer s H E).xe := passes_of (X := cxOf (L2.CX P w) P w K mg base ["script", "town", "many"] "_law_draw" (defScope s__law_draw) (He.ga K "_law_draw") cdv A outer s H E) rfl
  have hu1 := hu_of hr
  exact (s_cons (s_expr (m_mut rfl 1 k_app (pe_bm PySem.F.plainAttrs_list PySem.F.slot_list_append PySem.F.type_list_append mt_append (pv 1) (m_cons m_int m_nil))))
    (s_one (s_ret (m_mod (m_frz (m_fdiv (m_frz (m_call ok__law_mix (hr.mono (by decide)) rfl T.g__law_mix k__law_mix b__law_mix tk (m_cons (m_var 0 (pv 0)) (m_cons (m_len rfl rfl T.z_len (m_var 1 (pv 1))) m_nil)))) m_int)) (m_var 2 (pv 2))))))
theorem ok__law_refusal (T : Tx K mg) : ∃ fd, FnOk P w K mg base (L2.CX P w) 1 (He.ga K "_law_refusal") fd ["caught"] (spF (bs K) 1 F__law_refusal) ∧ Binds K fd ["caught"] [] ∧ PySem.W.keepIn K (.ref (He.ga K "_law_refusal")) = true := by
  obtain ⟨fd, F⟩ := T.d__law_refusal
  refine ⟨fd, fn_body F sc__law_refusal (fun cdv A outer s H E hr => ?_), F.bindsN (fun _ _ _ _ _ _ us hl => match us, hl with | [_], _ => rfl), F.kp⟩
  have tk : Takes (cxOf (L2.CX P w) P w K mg base ["caught", "kinds", "words"] "_law_refusal" (defScope s__law_refusal) (He.ga K "_law_refusal") cdv A outer s H E) (WF E) := takes_of rfl rfl rfl rfl
  have po : PassesOwn (model P w) (A.deeper (PyProof.Rows.envOfC "_law_refusal" (defScope s__law_refusal) s.heap.objs.size (He.ga K "_law_refusal") cdv)) (PyProof.Rows.envOfC "_law_refusal" (defScope s__law_refusal) s.heap.objs.size (He.ga K "_law_refusal") cdv) (cxOf (L2.CX P w) P w K mg base ["caught", "kinds", "words"] "_law_refusal" (defScope s__law_refusal) (He.ga K "_law_refusal") cdv A outer s H E).xe := passes_of (X := cxOf (L2.CX P w) P w K mg base ["caught", "kinds", "words"] "_law_refusal" (defScope s__law_refusal) (He.ga K "_law_refusal") cdv A outer s H E) rfl
  have hu1 := hu_of hr
  exact (s_cons (s_if (m_tisN (m_var 0 (pv 0))) (s_one (s_ret (m_data (m_tup (m_cons m_str m_nil))))) s_nil)
    (s_cons (s_set (i := 1) sc__law_refusal.nd rfl (by first | exact Or.inl rfl | exact Or.inr rfl) (m_lst (m_cons (m_isi rfl 0 T.i_BadRow (pv 0) (pe_glob rfl (T.x_BadRow).g (v := .ref (exC K 0)) rfl) (fun _ h => h) rfl T.z_isinstance) (m_cons (m_isi rfl 0 T.i_BadRoom (pv 0) (pe_glob rfl (T.x_BadRoom).g (v := .ref (exC K 1)) rfl) (fun _ h => h) rfl T.z_isinstance) (m_cons (m_isi rfl 0 T.i_BadRule (pv 0) (pe_glob rfl (T.x_BadRule).g (v := .ref (exC K 2)) rfl) (fun _ h => h) rfl T.z_isinstance) m_nil)))))
    (s_cons (s_set (i := 1) sc__law_refusal.nd rfl (by first | exact Or.inl rfl | exact Or.inr rfl) (m_add (m_var 1 (pv 1)) (m_frz (m_lst (m_cons (m_isi rfl 0 T.i_BadPlan (pv 0) (pe_glob rfl (T.x_BadPlan).g (v := .ref (exC K 3)) rfl) (fun _ h => h) rfl T.z_isinstance) (m_cons (m_isi rfl 0 T.i_BadDepths (pv 0) (pe_glob rfl (T.x_BadDepths).g (v := .ref (exC K 4)) rfl) (fun _ h => h) rfl T.z_isinstance) (m_cons (m_isi rfl 0 T.i_BadTurns (pv 0) (pe_glob rfl (T.x_BadTurns).g (v := .ref (exC K 5)) rfl) (fun _ h => h) rfl T.z_isinstance) m_nil)))))))
    (s_cons (s_set (i := 1) sc__law_refusal.nd rfl (by first | exact Or.inl rfl | exact Or.inr rfl) (m_add (m_var 1 (pv 1)) (m_frz (m_lst (m_cons (m_isi rfl 0 T.i_BadAsk (pv 0) (pe_glob rfl (T.x_BadAsk).g (v := .ref (exC K 6)) rfl) (fun _ h => h) rfl T.z_isinstance) (m_cons (m_isi rfl 0 T.i_BadText (pv 0) (pe_glob rfl (T.x_BadText).g (v := .ref (exC K 7)) rfl) (fun _ h => h) rfl T.z_isinstance) m_nil))))))
    (s_cons (s_if (PW.pt (m_or (m_tcmp (o_ne hr.units) (tells_two _) (m_count rfl hr.units (m_var 1 (pv 1)) (m_cons m_bl m_nil) rfl (fun h1 h2 h3 => pe_bm PySem.F.plainAttrs_list PySem.F.slot_list_count PySem.F.type_list_count h1 h2 h3)) m_int (nomark _)) (m_or1 (m_not (m_test rfl (m_isi rfl 0 T.i_ValueError (pv 0) (pe_bltn rfl T.z_ValueError (by decide +kernel) (v := .ty "ValueError") rfl) (fun _ h => h) rfl T.z_isinstance)))))) (s_one (s_ret (m_data (m_tup (m_cons m_str m_nil))))) s_nil)
    (s_cons (s_set (i := 2) sc__law_refusal.nd rfl (by first | exact Or.inl rfl | exact Or.inr rfl) (m_lst (m_cons m_str (m_cons m_str (m_cons m_str (m_cons m_str (m_cons m_str (m_cons m_str (m_cons m_str (m_cons m_str m_nil))))))))))
    (s_one (s_ret (m_data (m_tup (m_cons m_str (m_cons (m_frz (m_idx rfl (m_var 2 (pv 2)) (m_index rfl hr.units (m_var 1 (pv 1)) (m_cons m_bl m_nil) (fun h1 h2 h3 => pe_bm PySem.F.plainAttrs_list PySem.F.slot_list_index PySem.F.type_list_index h1 h2 h3)))) m_nil))))))))))))
theorem ok__law_told (T : Tx K mg) : ∃ fd, FnOk P w K mg base (L2.CX P w) 2 (He.ga K "_law_told") fd ["first", "asks"] (spF (bs K) 2 F__law_told) ∧ Binds K fd ["first", "asks"] [] ∧ PySem.W.keepIn K (.ref (He.ga K "_law_told")) = true := by
  obtain ⟨fd, F⟩ := T.d__law_told
  obtain ⟨fd__law_refusal, ok__law_refusal, b__law_refusal, k__law_refusal⟩ := ok__law_refusal (P := P) (w := w) (base := base) T
  obtain ⟨fd_how_many, ok_how_many, b_how_many, k_how_many⟩ := ok_how_many (P := P) (w := w) (base := base) T
  refine ⟨fd, fn_body F sc__law_told (fun cdv A outer s H E hr => ?_), F.bindsN (fun _ _ _ _ _ _ us hl => match us, hl with | [_, _], _ => rfl), F.kp⟩
  have tk : Takes (cxOf (L2.CX P w) P w K mg base ["first", "asks", "caught", "found", "e"] "_law_told" (defScope s__law_told) (He.ga K "_law_told") cdv A outer s H E) (WF E) := takes_of rfl rfl rfl rfl
  have po : PassesOwn (model P w) (A.deeper (PyProof.Rows.envOfC "_law_told" (defScope s__law_told) s.heap.objs.size (He.ga K "_law_told") cdv)) (PyProof.Rows.envOfC "_law_told" (defScope s__law_told) s.heap.objs.size (He.ga K "_law_told") cdv) (cxOf (L2.CX P w) P w K mg base ["first", "asks", "caught", "found", "e"] "_law_told" (defScope s__law_told) (He.ga K "_law_told") cdv A outer s H E).xe := passes_of (X := cxOf (L2.CX P w) P w K mg base ["first", "asks", "caught", "found", "e"] "_law_told" (defScope s__law_told) (He.ga K "_law_told") cdv A outer s H E) rfl
  have hu1 := hu_of hr
  exact (s_cons (s_set (i := 2) sc__law_told.nd rfl (by first | exact Or.inl rfl | exact Or.inr rfl) (m_data m_non))
    (s_cons (s_set (i := 3) sc__law_told.nd rfl (by first | exact Or.inl rfl | exact Or.inr rfl) (m_data m_non))
    (s_cons (s_try (j := 2) (i := 4) rfl rfl rfl rfl sc__law_told.nd rfl rfl ⟨rfl, by decide, .inl T.gc_RoomError⟩ tk T.e_RoomError rfl rfl (fun _ _ _ tk' po' => (s_one (s_set (i := 3) sc__law_told.nd rfl (by first | exact Or.inl rfl | exact Or.inr rfl) (m_call ok_how_many (hr.mono (by decide)) rfl T.g_how_many k_how_many b_how_many tk' (m_cons (m_var 0 (pv 0)) (m_cons (m_var 1 (pv 1)) m_nil)))))) (fun _ _ _ => ps_set (i := 2) sc__law_told.nd rfl (Or.inl rfl) (pv 4)))
    (s_one (s_ret (m_data (m_ifE (m_tisN (m_var 2 (pv 2))) (m_var 3 (pv 3)) (m_frz (m_call ok__law_refusal (hr.mono (by decide)) rfl T.g__law_refusal k__law_refusal b__law_refusal tk (m_cons (m_var 2 (pv 2)) m_nil))))))))))
theorem okF_law {fd : FuncData} (T : Tx K mg) (F : FunD K "law" "law" (defArgs s_law) (defBody s_law) (defScope s_law) [] [] (He.ga K "law") fd) : FnOk P w K mg base (L2.CX P w) 4 (He.ga K "law") fd ["script"] (spF (bs K) 1 F_law) := by
  obtain ⟨fd__law_draw, ok__law_draw, b__law_draw, k__law_draw⟩ := ok__law_draw (P := P) (w := w) (base := base) T
  obtain ⟨fd__law_told, ok__law_told, b__law_told, k__law_told⟩ := ok__law_told (P := P) (w := w) (base := base) T
  refine fn_body F sc_law (fun cdv A outer s H E hr => ?_)
  have tk : Takes (cxOf (L2.CX P w) P w K mg base ["script", "town", "asks", "rows", "k", "first", "bad", "longer", "row", "same", "name", "many"] "law" (defScope s_law) (He.ga K "law") cdv A outer s H E) (WF E) := takes_of rfl rfl rfl rfl
  have po : PassesOwn (model P w) (A.deeper (PyProof.Rows.envOfC "law" (defScope s_law) s.heap.objs.size (He.ga K "law") cdv)) (PyProof.Rows.envOfC "law" (defScope s_law) s.heap.objs.size (He.ga K "law") cdv) (cxOf (L2.CX P w) P w K mg base ["script", "town", "asks", "rows", "k", "first", "bad", "longer", "row", "same", "name", "many"] "law" (defScope s_law) (He.ga K "law") cdv A outer s H E).xe := passes_of (X := cxOf (L2.CX P w) P w K mg base ["script", "town", "asks", "rows", "k", "first", "bad", "longer", "row", "same", "name", "many"] "law" (defScope s_law) (He.ga K "law") cdv A outer s H E) rfl
  have hu1 := hu_of hr
  exact (s_cons (s_set (i := 1) sc_law.nd rfl (by first | exact Or.inl rfl | exact Or.inr rfl) (m_lst m_nil))
    (s_cons (s_set (i := 2) sc_law.nd rfl (by first | exact Or.inl rfl | exact Or.inr rfl) (m_call ok__law_draw (hr.mono (by decide)) rfl T.g__law_draw k__law_draw b__law_draw tk (m_cons (m_var 0 (pv 0)) (m_cons (m_var 1 (pv 1)) (m_cons m_int m_nil)))))
    (s_cons (s_set (i := 3) sc_law.nd rfl (by first | exact Or.inl rfl | exact Or.inr rfl) (m_lst (m_cons (m_frz (m_lst m_nil)) m_nil)))
    (s_cons (s_for (t := (.one 4)) rfl po rfl (i_range1 rfl T.z_range (m_cons (m_var 2 (pv 2)) m_nil)) (pg_name (i := 4) sc_law.nd rfl (by first | exact Or.inl rfl | exact Or.inr rfl)) (s_cons (s_set (i := 7) sc_law.nd rfl (by first | exact Or.inl rfl | exact Or.inr rfl) (m_lst m_nil))
    (s_cons (s_share 3 (s_for (t := (.one 8)) rfl po rfl (i_list rfl (m_var 3 (pv 3))) (pg_name (i := 8) sc_law.nd rfl (by first | exact Or.inl rfl | exact Or.inr rfl)) (s_one (s_set (i := 7) sc_law.nd rfl (by first | exact Or.inl rfl | exact Or.inr rfl) (m_add (m_var 7 (pv 7)) (m_frz (m_lc (t := (.one 10)) rfl rfl rfl sc_law.nd (i_range1 rfl T.z_range (m_cons (m_frz (m_add (m_frz (m_max1 rfl rfl hr.units rfl T.z_max (m_cons (m_frz (m_add (m_var 8 (pv 8)) (m_frz (m_lst (m_cons (m_frz (m_neg m_int)) m_nil))))) m_nil))) m_int)) m_nil)) (blkOk_by (own := [("name", 10)]) (by kernel_rfl)) (fun _ _ _ _ _ => (pg_name (i := 10) sc_law.nd rfl (by first | exact Or.inl rfl | exact Or.inr rfl))) (fun _ _ _ _ _ => ts_nil) (fun _ _ _ _ _ => (m_frz (m_add (m_var 8 (pv 8)) (m_frz (m_lst (m_cons (m_var 10 (pv 10)) m_nil)))))))))))))
    (s_one (s_share 7 (s_set (i := 3) sc_law.nd rfl (by first | exact Or.inl rfl | exact Or.inr rfl) (m_data (m_var 7 (pv 7)))))))))
    (s_cons (s_for (t := (.one 5)) rfl po rfl (i_range1 rfl T.z_range (m_cons (m_frz (m_add (m_var 2 (pv 2)) m_int)) m_nil)) (pg_name (i := 5) sc_law.nd rfl (by first | exact Or.inl rfl | exact Or.inr rfl)) (s_one (s_share 3 (s_if (m_tcmp (o_ne hr.units) (tells_two _) (m_frz (m_call ok__law_told (hr.mono (by decide)) rfl T.g__law_told k__law_told b__law_told tk (m_cons (m_var 5 (pv 5)) (m_cons (m_var 2 (pv 2)) m_nil)))) (m_len rfl rfl T.z_len (m_frz (m_lc (t := (.one 8)) rfl rfl rfl sc_law.nd (i_list rfl (m_var 3 (pv 3))) (blkOk_by (own := [("row", 8)]) (by kernel_rfl)) (fun _ _ _ _ _ => (pg_name (i := 8) sc_law.nd rfl (by first | exact Or.inl rfl | exact Or.inr rfl))) (fun _ _ _ _ _ => (ts_one (m_tcmp (o_eq hr.units) (tells_two _) (m_frz (m_add (m_frz (m_max1 rfl rfl hr.units rfl T.z_max (m_cons (m_frz (m_add (m_var 8 (pv 8)) (m_frz (m_lst (m_cons (m_frz (m_neg m_int)) m_nil))))) m_nil))) m_int)) (m_var 5 (pv 5)) (nomark _)))) (fun _ _ _ _ _ => (m_var 8 (pv 8)))))) (nomark _)) (s_one (s_ret (m_data m_bl))) s_nil))))
    (s_cons (s_set (i := 2) sc_law.nd rfl (by first | exact Or.inl rfl | exact Or.inr rfl) (m_add m_int (m_frz (m_call ok__law_draw (hr.mono (by decide)) rfl T.g__law_draw k__law_draw b__law_draw tk (m_cons (m_var 0 (pv 0)) (m_cons (m_var 1 (pv 1)) (m_cons m_int m_nil)))))))
    (s_cons (s_for (t := (.one 5)) rfl po rfl (i_range2 rfl T.z_range (m_cons m_int (m_cons (m_frz (m_add (m_frz (m_min2 rfl rfl T.z_min (m_cons (m_var 2 (pv 2)) (m_cons m_int m_nil)))) m_int)) m_nil))) (pg_name (i := 5) sc_law.nd rfl (by first | exact Or.inl rfl | exact Or.inr rfl)) (s_cons (s_set (i := 9) sc_law.nd rfl (by first | exact Or.inl rfl | exact Or.inr rfl) (m_data (m_ifE (m_tcmp op_lt t_lt (m_var 5 (pv 5)) (m_var 2 (pv 2)) (nomark _)) (m_frz (m_call ok__law_told (hr.mono (by decide)) rfl T.g__law_told k__law_told b__law_told tk (m_cons (m_var 5 (pv 5)) (m_cons (m_frz (m_sub (m_var 2 (pv 2)) m_int)) m_nil)))) m_int)))
    (s_one (s_if (m_tcmp (o_ne hr.units) (tells_two _) (m_frz (m_call ok__law_told (hr.mono (by decide)) rfl T.g__law_told k__law_told b__law_told tk (m_cons (m_var 5 (pv 5)) (m_cons (m_var 2 (pv 2)) m_nil)))) (m_frz (m_add (m_frz (m_mul (m_var 5 (pv 5)) (m_var 9 (pv 9)))) (m_frz (m_call ok__law_told (hr.mono (by decide)) rfl T.g__law_told k__law_told b__law_told tk (m_cons (m_frz (m_sub (m_var 5 (pv 5)) m_int)) (m_cons (m_frz (m_sub (m_var 2 (pv 2)) m_int)) m_nil)))))) (nomark _)) (s_one (s_ret (m_data m_bl))) s_nil))))
    (s_cons (s_set (i := 6) sc_law.nd rfl (by first | exact Or.inl rfl | exact Or.inr rfl) (m_lst (m_cons (m_tup (m_cons (m_frz (m_neg m_int)) (m_cons m_int m_nil))) (m_cons (m_tup (m_cons m_int (m_cons m_int m_nil))) (m_cons (m_tup (m_cons m_int (m_cons m_int m_nil))) (m_cons (m_tup (m_cons m_int (m_cons m_int m_nil))) (m_cons (m_tup (m_cons m_int (m_cons (m_frz (m_neg m_int)) m_nil))) (m_cons (m_tup (m_cons (m_frz (m_add (m_var 2 (pv 2)) m_int)) (m_cons (m_var 2 (pv 2)) m_nil))) m_nil))))))))
    (s_one (s_share 6 (s_ret (m_data (m_andV rfl (m_eq hr.units rfl (m_frz (m_lc (t := (.tup [5, 11])) rfl rfl rfl sc_law.nd (i_list rfl (m_var 6 (pv 6))) (blkOk_by (own := [("first", 5), ("many", 11)]) (by kernel_rfl)) (fun _ _ _ _ _ => (pg_tup rfl (pgs_cons (pg_name (i := 5) sc_law.nd rfl (by first | exact Or.inl rfl | exact Or.inr rfl)) (pgs_cons (pg_name (i := 11) sc_law.nd rfl (by first | exact Or.inl rfl | exact Or.inr rfl)) pgs_nil)))) (fun _ _ _ _ _ => ts_nil) (fun _ _ _ _ _ => (m_frz (m_call ok__law_told (hr.mono (by decide)) rfl T.g__law_told k__law_told b__law_told takes0 (m_cons (m_var 5 (pv 5)) (m_cons (m_var 11 (pv 11)) m_nil))))))) (m_frz (m_mul (m_frz (m_lst (m_cons (m_tup (m_cons m_str (m_cons m_str m_nil))) m_nil))) m_int))) (m_one (m_eq hr.units rfl (m_frz (m_call ok__law_told (hr.mono (by decide)) rfl T.g__law_told k__law_told b__law_told tk (m_cons m_int (m_cons (m_var 2 (pv 2)) m_nil)))) m_int)))))))))))))))
end
/-! the head -/
def fa : List (Fg → Bool) := [fun K => He.Fa.ok K (.free "ValueError"),
  fun K => He.Fa.ok K (.free "isinstance"),
  fun K => He.Fa.ok K (.free "len"),
  fun K => He.Fa.ok K (.free "max"),
  fun K => He.Fa.ok K (.free "min"),
  fun K => He.Fa.ok K (.free "range"),
  fun K => He.Fa.ok K (.int "MOST_ASKS" 24),
  fun K => He.Fa.ok K (.int "MOST_NAME" 19),
  fExc 0,
  fExc 1,
  fExc 2,
  fExc 3,
  fExc 4,
  fExc 5,
  fExc 6,
  fExc 7,
  fAll,
  fKit (fun K => .ref (exC K 6)) (is8 6),
  fKit (fun K => .ref (exC K 4)) (is8 4),
  fKit (fun K => .ref (exC K 3)) (is8 3),
  fKit (fun K => .ref (exC K 1)) (is8 1),
  fKit (fun K => .ref (exC K 0)) (is8 0),
  fKit (fun K => .ref (exC K 2)) (is8 2),
  fKit (fun K => .ref (exC K 7)) (is8 7),
  fKit (fun K => .ref (exC K 5)) (is8 5),
  fKit (fun _ => .type "ValueError") (fun _ => true),
  fun K => He.Fa.ok K (.glo "RoomError"),
  fExm (fun K => .ref (He.ga K "RoomError")) g_RoomError,
  fun K => He.Fa.ok K (.glo "how_many"),
  fun K => He.Fa.ok K (.glo "_law_cell"),
  fun K => He.Fa.ok K (.glo "_law_mix"),
  fun K => He.Fa.ok K (.glo "_law_draw"),
  fun K => He.Fa.ok K (.glo "_law_refusal"),
  fun K => He.Fa.ok K (.glo "_law_told"),
  fun K => He.Fa.ok K (.glo "law")]
def fn : List He.DefD := [⟨("how_many", none), "how_many", "how_many", defArgs s_how_many, defBody s_how_many, defScope s_how_many, [], []⟩,
  ⟨("_law_cell", none), "_law_cell", "_law_cell", defArgs s__law_cell, defBody s__law_cell, defScope s__law_cell, [], []⟩,
  ⟨("_law_mix", none), "_law_mix", "_law_mix", defArgs s__law_mix, defBody s__law_mix, defScope s__law_mix, [], []⟩,
  ⟨("_law_draw", none), "_law_draw", "_law_draw", defArgs s__law_draw, defBody s__law_draw, defScope s__law_draw, [], []⟩,
  ⟨("_law_refusal", none), "_law_refusal", "_law_refusal", defArgs s__law_refusal, defBody s__law_refusal, defScope s__law_refusal, [], []⟩,
  ⟨("_law_told", none), "_law_told", "_law_told", defArgs s__law_told, defBody s__law_told, defScope s__law_told, [], []⟩,
  ⟨("law", none), "law", "law", defArgs s_law, defBody s_law, defScope s_law, [], []⟩]
theorem tx {K : Fg} {h : Heap} {mg : Str → Option Value} (X : K.In h) (G : h.Ns mainGlobals mg) (c : SaysM fa fn K) : Tx K mg where
  z_ValueError := He.free_ok X G (c.fact 0)
  z_isinstance := He.free_ok X G (c.fact 1)
  z_len := He.free_ok X G (c.fact 2)
  z_max := He.free_ok X G (c.fact 3)
  z_min := He.free_ok X G (c.fact 4)
  z_range := He.free_ok X G (c.fact 5)
  c_MOST_ASKS := He.int_ok X G (c.fact 6)
  c_MOST_NAME := He.int_ok X G (c.fact 7)
  x_BadRow := exFact X G (c.fact 8)
  x_BadRoom := exFact X G (c.fact 9)
  x_BadRule := exFact X G (c.fact 10)
  x_BadPlan := exFact X G (c.fact 11)
  x_BadDepths := exFact X G (c.fact 12)
  x_BadTurns := exFact X G (c.fact 13)
  x_BadAsk := exFact X G (c.fact 14)
  x_BadText := exFact X G (c.fact 15)
  i_BadAsk := fKit_of (cv := fun K => .ref (exC K 6)) (is8_ge 6) (c.fact 16) (c.fact 17)
  i_BadDepths := fKit_of (cv := fun K => .ref (exC K 4)) (is8_ge 4) (c.fact 16) (c.fact 18)
  i_BadPlan := fKit_of (cv := fun K => .ref (exC K 3)) (is8_ge 3) (c.fact 16) (c.fact 19)
  i_BadRoom := fKit_of (cv := fun K => .ref (exC K 1)) (is8_ge 1) (c.fact 16) (c.fact 20)
  i_BadRow := fKit_of (cv := fun K => .ref (exC K 0)) (is8_ge 0) (c.fact 16) (c.fact 21)
  i_BadRule := fKit_of (cv := fun K => .ref (exC K 2)) (is8_ge 2) (c.fact 16) (c.fact 22)
  i_BadText := fKit_of (cv := fun K => .ref (exC K 7)) (is8_ge 7) (c.fact 16) (c.fact 23)
  i_BadTurns := fKit_of (cv := fun K => .ref (exC K 5)) (is8_ge 5) (c.fact 16) (c.fact 24)
  i_ValueError := fKit_of (cv := fun _ => .type "ValueError") (fun _ _ => rfl) (c.fact 16) (c.fact 25)
  gc_RoomError := He.glo_ok X G (c.fact 26)
  e_RoomError := fExm_of (cv := fun K => .ref (He.ga K "RoomError")) (fun _ _ => rfl) (c.fact 27)
  g_how_many := He.glo_ok X G (c.fact 28)
  g__law_cell := He.glo_ok X G (c.fact 29)
  g__law_mix := He.glo_ok X G (c.fact 30)
  g__law_draw := He.glo_ok X G (c.fact 31)
  g__law_refusal := He.glo_ok X G (c.fact 32)
  g__law_told := He.glo_ok X G (c.fact 33)
  g_law := He.glo_ok X G (c.fact 34)
  d_how_many := c.def_ 0
  d__law_cell := c.def_ 1
  d__law_mix := c.def_ 2
  d__law_draw := c.def_ 3
  d__law_refusal := c.def_ 4
  d__law_told := c.def_ 5
  d_law := c.def_ 6
abbrev R : PySem.W.OpenRow := PySem.W.OpenLaw.row PySem.Challenge.rw_allrooms_k42_whole_how_many
abbrev hk : PySem.W.Hook := hookM 5 fa fn
def ob (s : PySem.W.SharedT) : He.AlD := obsMG 5 fa fn (HandSHeadRun.getT s)
theorem ob_eq (s : PySem.W.SharedT) : ob s = hk.obs s.abs := obsMG_eq (HandSHeadRun.getT_eq s)
def loose : List Str := ["RoomError", "BadRow", "BadRoom", "BadRule", "BadPlan", "BadDepths", "BadTurns", "BadAsk", "BadText", "MOST_ASKS", "MOST_NAME", "how_many", "_law_cell", "_law_mix", "_law_draw", "_law_refusal", "_law_told"]
theorem run (w : World) : HandSHeadRun.RunEq R (PySem.W.view R.prog [20]) hk ob 4000 loose w := by
  intro os
  kernel_rfl
end K42
namespace K42
open PySem L2 G8
def okP (f a : Int) : Prop := 0 ≤ a ∧ a ≤ 24 ∧ 0 ≤ f ∧ f ≤ a ∧ f ≤ 20
instance (f a : Int) : Decidable (okP f a) := by unfold okP; infer_instance
theorem told_ok (f a : Nat) (ha : a ≤ 24) (hf : f ≤ a) (hf2 : f ≤ 20) : F__law_told [.d (.int f), .d (.int a)] = .ok (.d (.int (stir a f : Nat))) [none, none] := by
  simp [F__law_told, f__law_told, bodyF_ap, how_ok f a ha hf hf2]
theorem told_bad (f a : Int) (h : ¬ okP f a) : F__law_told [.d (.int f), .d (.int a)] = .ok (.d (refD 4)) [none, none] := by
  have r := refusal_eq 4 (by decide)
  simp [F__law_told, f__law_told, bodyF_ap, how_bad f a h, g_RoomError, r]
def s3 : M Fl := (setM 3 (lstM (consM (frzM (lstM (retM []))) (retM []))))
def s4 : M Fl := (forM (rg1 (consM (varM 2) (retM []))) (.one 4) b_law_2)
def s5 : M Fl := (forM (rg1 (consM (frzM (bin2 addD (varM 2) (retM (.d (.int 1))))) (retM []))) (.one 5) b_law_3)
def stA : M Fl := seqM s3 (seqM s4 s5)
def pick (i : Nat) : Out Fl → Option Sv
  | .ok _ ρ => (ρ[i]?).getD none
  | _ => none
def r0 (ns : List Int) (v : Nat) : Ev := [some (.scr ns), some (.ls false [.int 0]), some (.d (.int v)), none, none, none, none, none, none, none, none, none]
def r1 (ns : List Int) (v : Nat) (x3 x4 x7 x8 : Option Sv) : Ev := [some (.scr ns), some (.ls false [.int 0]), some (.d (.int v)), x3, x4, some (.d (.int v)), none, x7, x8, none, none, none]
theorem stA_ok (ns : List Int) (v : Nat) (hv : v < 7) : ∃ x3 x4 x7 x8, stA (r0 ns v) = .ok .nx (r1 ns v x3 x4 x7 x8) := by
  refine ⟨pick 3 (stA (r0 ns v)), pick 4 (stA (r0 ns v)), pick 7 (stA (r0 ns v)), pick 8 (stA (r0 ns v)), ?_⟩
  match v, hv with
  | 0, _ => kernel_rfl
  | 1, _ => kernel_rfl
  | 2, _ => kernel_rfl
  | 3, _ => kernel_rfl
  | 4, _ => kernel_rfl
  | 5, _ => kernel_rfl
  | 6, _ => kernel_rfl
  | v + 7, h => exact absurd h (by omega)
theorem told_ok' (f a : Int) (h : okP f a) : F__law_told [.d (.int f), .d (.int a)] = .ok (.d (.int (stir a.toNat f.toNat : Nat))) [none, none] := by
  obtain ⟨h1, h2, h3, h4, h5⟩ := h
  have := told_ok f.toNat a.toNat (by omega) (by omega) (by omega)
  rw [Int.toNat_of_nonneg h1, Int.toNat_of_nonneg h3] at this
  exact this
def r2 (ns : List Int) (a : Int) (x3 x4 : Option Sv) (x5 : Dt) (x7 x8 x9 : Option Sv) : Ev := [some (.scr ns), some (.ls false [.int 0, .int 0]), some (.d (.int a)), x3, x4, some (.d x5), none, x7, x8, x9, none, none]
theorem round4 (ns : List Int) (a i : Nat) (ha : a ≤ 23) (hi : i ≤ a) (hi2 : i < 20) (x3 x4 : Option Sv) (x5 : Dt) (x7 x8 x9 : Option Sv) (h9 : refAt (some x9) = false) :
    ∃ y, roundM (.one 5) b_law_4 (.int (1 + (i : Int))) (r2 ns (1 + (a : Int)) x3 x4 x5 x7 x8 x9) = .ok .nx (r2 ns (1 + (a : Int)) x3 x4 (.int (1 + (i : Int))) x7 x8 (some (.d y))) := by
  have t1 := told_ok' (1 + (i : Int)) (1 + (a : Int)) (by unfold okP; omega)
  have t3 := told_ok' (i : Int) (a : Int) (by unfold okP; omega)
  have e1 : (1 + (a : Int)).toNat = a + 1 := by omega
  have e2 : (1 + (i : Int)).toNat = i + 1 := by omega
  have sm : G8.small64 (1 + (i : Int)) = true := by rw [show 1 + (i : Int) = ((i + 1 : Nat) : Int) by omega]; exact small_nat (by omega)
  have s1 : (1 + (a : Int) - 1) = a := by omega
  have s2 : (1 + (i : Int) - 1) = i := by omega
  rw [e1, e2] at t1
  rw [Int.toNat_natCast, Int.toNat_natCast] at t3
  by_cases hlt : i < a
  · have t2 := told_ok' (1 + (i : Int)) (a : Int) (by unfold okP; omega)
    rw [Int.toNat_natCast, e2] at t2
    have c : (i : Int) < (a : Int) := by omega
    refine ⟨.int (stir a (i + 1) : Nat), ?_⟩
    have fin : ((stir (a + 1) (i + 1) : Nat) : Int) = (1 + (i : Int)) * (stir a (i + 1) : Nat) + (stir a i : Nat) := by
      rw [stir]
      simp [Int.mul_comm, Int.add_comm]
    simp [roundM_ap, b_law_4, r2, h9, t1, t2, t3, sm, s1, s2, c, fin]
  · have ea : a = i := by omega
    subst ea
    refine ⟨.int 0, ?_⟩
    have fin : ((stir (a + 1) (a + 1) : Nat) : Int) = (stir a a : Nat) := by
      rw [stir, stir_big a (a + 1) (by omega)]
      simp
    simp [roundM_ap, b_law_4, r2, h9, t1, t3, sm, s1, s2, fin]
theorem loop4 (ns : List Int) (a : Nat) (ha : a ≤ 23) (x3 x4 : Option Sv) (x5 : Dt) (x7 x8 : Option Sv) (n : Nat) (hn : n ≤ a + 1) (hn2 : n ≤ 20) :
    ∃ y5 y9, forL (.one 5) b_law_4 ((List.range n).map fun (i : Nat) => PyData.int (1 + (i : Int))) (r2 ns (1 + (a : Int)) x3 x4 x5 x7 x8 none) = .ok .nx (r2 ns (1 + (a : Int)) x3 x4 y5 x7 x8 y9) := by
  obtain ⟨ρ', h1, y5, y9, _, h3⟩ := forL_inv (t := .one 5) (body := b_law_4) (fun (i : Nat) => PyData.int (1 + (i : Int))) (fun _ ρ => ∃ y5 y9, refAt (some y9) = false ∧ ρ = r2 ns (1 + (a : Int)) x3 x4 y5 x7 x8 y9) (List.range n) 0
    (r2 ns (1 + (a : Int)) x3 x4 x5 x7 x8 none) ⟨_, _, rfl, rfl⟩ (by
      rintro i x ρ hx ⟨y5, y9, h9, rfl⟩
      have hxn : x < n := List.mem_range.mp (List.mem_of_getElem? hx)
      obtain ⟨y, hy⟩ := round4 ns a x ha (by omega) (by omega) x3 x4 y5 x7 x8 y9 h9
      exact ⟨_, .inl hy, _, _, rfl, rfl⟩)
  subst h3
  exact ⟨y5, y9, h1⟩
theorem stepE (ns : List Int) (A f a : Int) (x3 x4 : Option Sv) (x5 : Dt) (x7 x8 x9 : Option Sv) (xs : List Dt) (h : ¬ okP f a) :
    stepL (.tup [5, 11]) (retM true) e_law_2 (.tuple [.int f, .int a]) [some (.scr ns), some (.ls false [.int 0, .int 0]), some (.d (.int A)), x3, x4, some (.d x5), some (.d (.list xs)), x7, x8, x9, none, none]
      = .ok (some (refD 4)) [some (.scr ns), some (.ls false [.int 0, .int 0]), some (.d (.int A)), x3, x4, some (.d x5), some (.d (.list xs)), x7, x8, x9, none, none] := by
  simp [stepL_ap, e_law_2, told_bad f a h]
def bads (A : Int) : List Dt := [.tuple [.int (-1), .int 3], .tuple [.int 4, .int 3], .tuple [.int 21, .int 24], .tuple [.int 0, .int 25], .tuple [.int 1, .int (-1)], .tuple [.int (A + 1), .int A]]
theorem keeps : Keeps F_law := by
  intro ns _
  have d1 := draw_eq ns [] 7 (by decide) (by decide)
  have d2 := draw_eq ns [.int 0] 24 (by decide) (by decide)
  have a1 := drw_lo ns 1 (m := 7) (by decide)
  have a2 := drw_hi ns 1 (m := 7) (by decide)
  have b1 := drw_lo ns 2 (m := 24) (by decide)
  have b2 := drw_hi ns 2 (m := 24) (by decide)
  obtain ⟨v, hv⟩ : ∃ v : Nat, drw ns 1 7 = (v : Int) := ⟨_, (Int.toNat_of_nonneg a1).symm⟩
  obtain ⟨a, hA⟩ : ∃ v : Nat, drw ns 2 24 = (v : Int) := ⟨_, (Int.toNat_of_nonneg b1).symm⟩
  have d1 : F__law_draw [.scr ns, .ls true [], .d (.int 7)] = .ok (.d (.int v)) [none, some (.ls true [.int 0]), none] := by rw [← hv]; exact d1
  have d2 : F__law_draw [.scr ns, .ls true [.int 0], .d (.int 24)] = .ok (.d (.int a)) [none, some (.ls true [.int 0, .int 0]), none] := by rw [← hA]; exact d2
  have hv7 : v < 7 := by omega
  have ha : a ≤ 23 := by omega
  obtain ⟨x3, x4, x7, x8, hs⟩ := stA_ok ns v hv7
  obtain ⟨n, hn, hn1, hn2⟩ : ∃ n : Nat, ((if (20 : Int) < 1 + (a : Int) then (20 : Int) else 1 + (a : Int))).toNat = n ∧ n ≤ a + 1 ∧ n ≤ 20 := ⟨_, rfl, by split <;> omega, by split <;> omega⟩
  have hm : mid ((if (20 : Int) < 1 + (a : Int) then (20 : Int) else 1 + (a : Int)) + 1) = true := by
    split
    · rfl
    · rw [show 1 + (a : Int) + 1 = ((a + 2 : Nat) : Int) by omega]; exact mid_nat (by omega)
  obtain ⟨y5, y9, hl⟩ := loop4 ns a ha x3 x4 (.int v) x7 x8 n hn1 hn2
  have t0 := told_ok' 0 (1 + (a : Int)) (by unfold okP; omega)
  have e1 : (1 + (a : Int)).toNat = a + 1 := by omega
  rw [e1, show stir (a + 1) (0 : Int).toNat = 0 from rfl] at t0
  have asc : ∀ (R : M Fl), seqM s3 (seqM s4 (seqM s5 R)) = seqM stA R := fun R => by
    rw [stA, seqM_assoc, seqM_assoc]
  have c1 : (1 + (a : Int)) ≤ 24 := by omega
  refine ⟨_, bodyF_rt (r := .d (.bool true)) (ρ := [some (.scr ns), some (.ls false [.int 0, .int 0]), some (.d (.int (1 + (a : Int)))), x3, x4, some (.d y5), some (.d (.list (bads (1 + (a : Int))))), x7, x8, y9, none, none]) ?_⟩
  show f_law [some (.scr ns), none, none, none, none, none, none, none, none, none, none, none] = _
  unfold f_law
  refine (seqM_nx (ρ' := [some (.scr ns), some (.ls false []), none, none, none, none, none, none, none, none, none, none]) (by simp)).trans ?_
  refine (seqM_nx (ρ' := r0 ns v) (by simp [d1, r0])).trans ?_
  refine (congrFun (asc _) (r0 ns v)).trans ?_
  refine (seqM_nx hs).trans ?_
  refine (seqM_nx (ρ' := r2 ns (1 + (a : Int)) x3 x4 (.int v) x7 x8 none) (by simp [d2, r1, r2])).trans ?_
  refine (seqM_nx (ρ' := r2 ns (1 + (a : Int)) x3 x4 y5 x7 x8 y9) (by
      rw [← hl]
      simp [r2, hm, show mid 1 = true from rfl, rangeD_eq, hn])).trans ?_
  refine (seqM_nx (ρ' := [some (.scr ns), some (.ls false [.int 0, .int 0]), some (.d (.int (1 + (a : Int)))), x3, x4, some (.d y5), some (.ls false (bads (1 + (a : Int)))), x7, x8, y9, none, none]) (by simp [r2, bads])).trans ?_
  have cp := compL_map (t := .tup [5, 11]) (ft := retM true) (fe := e_law_2) (ρ := [some (.scr ns), some (.ls false [.int 0, .int 0]), some (.d (.int (1 + (a : Int)))), x3, x4, some (.d y5), some (.d (.list (bads (1 + (a : Int))))), x7, x8, y9, none, none])
    (fun q : Int × Int => PyData.tuple [.int q.1, .int q.2]) (fun _ => refD 4) [(-1, 3), (4, 3), (21, 24), (0, 25), (1, -1), (1 + (a : Int) + 1, 1 + (a : Int))] (by simp)
    (fun q hq => by
      refine stepE ns _ q.1 q.2 x3 x4 y5 x7 x8 y9 _ ?_
      unfold okP
      simp only [List.mem_cons, List.not_mem_nil, or_false] at hq
      rcases hq with rfl | rfl | rfl | rfl | rfl | rfl <;> (dsimp only; omega))
  rw [show List.map (fun q : Int × Int => PyData.tuple [.int q.1, .int q.2]) [(-1, 3), (4, 3), (21, 24), (0, 25), (1, -1), (1 + (a : Int) + 1, 1 + (a : Int))] = bads (1 + (a : Int)) from rfl] at cp
  have eq6 : eqD (.list (List.map (fun _ : Int × Int => refD 4) [(-1, 3), (4, 3), (21, 24), (0, 25), (1, -1), (1 + (a : Int) + 1, 1 + (a : Int))])) (.list (List.replicate 6 (refD 4))) = some true := rfl
  simp [refD, wordN] at eq6
  simp [cp, mid, t0, refD, wordN, eq6]
end K42
namespace K42
open PySem L2 G8
theorem facts {P : Program} {w : World} {K : PySem.W.Frag} {h : Heap} {mg : Str → Option Value} {f : Addr} (X : K.In h) (G : h.Ns mainGlobals mg) (hfa : mg ("law" : Str) = some (.ref f)) (c : SaysM fa fn K) :
    ∃ fd : FuncData, (∀ (s : Shared) (v : Value), BindsTo s fd ⟨[v], []⟩ [("script", v)]) ∧ ∀ base : Heap, K.In base → base.Ns mainGlobals mg → FnOk P w K mg base CX0 4 f fd ["script"] (spLaw K) := by
  have T := tx X G c
  have e := hfa.symm.trans T.g_law
  cases e
  obtain ⟨fd, F⟩ := T.d_law
  have b := FunD.bindsA (ps := ["script"]) F fun _ _ _ _ _ _ us hl => match us, hl with | [_], _ => rfl
  refine ⟨fd, fun s v => b s [v] rfl, fun base _ _ => ?_⟩
  exact law_end keeps (okF_law (P := P) (w := w) (base := base) T F)
end K42
open PySem PySem.W PySem.Calls PyProof.Rows
theorem PySem.Challenge.cw_allrooms_k42_whole_how_many_holds : PySem.Challenge.rw_allrooms_k42_whole_how_many.Holds := by
  w_on; o_law
  refine HandSHeadRun.head_any (r := OpenLaw.row PySem.Challenge.rw_allrooms_k42_whole_how_many) (q := view (OpenLaw.row PySem.Challenge.rw_allrooms_k42_whole_how_many).prog [20]) (H := K42.hk) (ob := K42.ob) (M := 4000) (loose := K42.loose) (d := HandSHeadRun.topDef (OpenLaw.row PySem.Challenge.rw_allrooms_k42_whole_how_many).prog 20) (kwd := []) K42.ob_eq
    (by kernel_rfl) (fun s => by kernel_rfl) K42.run (by kernel_rfl) (by kernel_rfl) (by kernel_rfl) (by rfl) (by first | assumption | decide +kernel) (by decide +kernel) ⟨rfl, rfl, rfl, rfl, rfl, by decide +kernel⟩ ?hw ?hc
  case hw => w_witness2
  case hc =>
    refine L2.walk_ofE (l := PySem.Challenge.rw_allrooms_k42_whole_how_many) (n := 63) (k := 4) (x := "script") (CX := L2.CX0) rfl (by decide) (by kernel_rfl) ⟨rfl, by decide, by decide⟩ ?F (fun _ _ _ _ z => z)
    intro w mg fa h Y G hmg0
    obtain ⟨K, KX, c⟩ := Y
    have hmg : mg ("law" : PySem.Str) = some (.ref fa) := by
      have e : (HandSHeadRun.topDef (OpenLaw.row PySem.Challenge.rw_allrooms_k42_whole_how_many).prog 20).name = ("law" : PySem.Str) := by kernel_rfl
      rw [← e]
      exact hmg0
    obtain ⟨fd, hb, hF⟩ := K42.facts (P := (PySem.Challenge.rw_allrooms_k42_whole_how_many).prog) (w := w) KX G hmg c
    exact ⟨K, fd, G8.spLaw K, KX, hb, fun H a ns hl _ hS => ⟨a, ns, rfl, hl, hS, fun _ => rfl⟩, hF⟩
