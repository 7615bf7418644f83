import PyProof.Rows.All
import Wide.All
import OpenK.AllK
import Wide.FinOn
import HandS.ForMost
import HandS.ForExc
import HandS.Deep
import HandS.Flow
import HandS.Defaults
import KE.DataEq
import KE.DataFind
import KE.DataMinMax
import KE.SortData
import KE.DataCmp
import HandS.More
import HandS.Strs
import HandS.ExcIs
import HandS.TryOnly
import KE.KStateDown
import Lean
import HandS.Head0
import HandS.Head1
import HandS.Head2
import HandS.HeadEnd
import HandS.HeadHook1
import HandS.HeadHook2
import HandS.Conv
import HandS.Style
import KE.KDictList
import KE.KDictSum
import HandS.SortInts
import PySem.Challenge.RW_allrooms_k62_whole_near_and_far
set_option Elab.async false
set_option linter.all false
set_option maxRecDepth 100000
set_option maxHeartbeats 4000000
namespace G8
open PySem L2
abbrev Dt := PyData
abbrev Fg := PySem.W.Frag
mutual
inductive Rp (K : Fg) (G : Hp) : V → Dt → Prop
  | non : Rp K G .non .none
  | bl (b : Bool) : Rp K G (.bl b) (.bool b)
  | int (i : Int) : Rp K G (.int i) (.int i)
  | str (x : Str) : Rp K G (.str x) (.str x)
  | lst {a : Addr} {xs : List V} {ds : List Dt} : G a = some (.lst xs) → Rps K G xs ds → Rp K G (.ref a) (.list ds)
  | tup {a : Addr} {xs : List V} {ds : List Dt} : SqT K G a xs → Rps K G xs ds → Rp K G (.ref a) (.tuple ds)
inductive Rps (K : Fg) (G : Hp) : List V → List Dt → Prop
  | nil : Rps K G [] []
  | cons {v : V} {d : Dt} {vs : List V} {ds : List Dt} : Rp K G v d → Rps K G vs ds → Rps K G (v :: vs) (d :: ds)
end
theorem same_sqT {K : Fg} {H H' : Hp} {a : Addr} {xs : List V} (e : Same H H') (h : SqT K H a xs) : SqT K H' a xs := by
  rcases h with (h | ⟨o, h⟩) | h
  · exact .inl (.inl (e _ _ h))
  · exact .inl (.inr ⟨o, e _ _ h⟩)
  · exact .inr h
section
variable {K : Fg} {G G' : Hp}
mutual
theorem Rp.mono (e : Same G G') : ∀ (d : Dt) (v : V), Rp K G v d → Rp K G' v d
  | .none, _, h => by cases h; exact .non
  | .bool b, _, h => by cases h; exact .bl b
  | .int i, _, h => by cases h; exact .int i
  | .str x, _, h => by cases h; exact .str x
  | .list ds, _, h => by
    cases h with
    | lst h1 h2 => exact .lst (e _ _ h1) (Rps.mono e ds _ h2)
  | .tuple ds, _, h => by
    cases h with
    | tup h1 h2 => exact .tup (same_sqT e h1) (Rps.mono e ds _ h2)
  | .dict _, _, h => by cases h
theorem Rps.mono (e : Same G G') : ∀ (ds : List Dt) (vs : List V), Rps K G vs ds → Rps K G' vs ds
  | [], _, h => by cases h; exact .nil
  | d :: ds, _, h => by
    cases h with
    | cons h1 h2 => exact .cons (Rp.mono e d _ h1) (Rps.mono e ds _ h2)
end
mutual
theorem Rp.dp : ∀ (d : Dt) (v : V), Rp K G v d → Dp K G v d
  | .none, _, h => by cases h; exact .non
  | .bool b, _, h => by cases h; exact .bl b
  | .int i, _, h => by cases h; exact .int i
  | .str x, _, h => by cases h; exact .str x
  | .list ds, _, h => by
    cases h with
    | lst h1 h2 => exact .lst (SqL.of h1) (Rps.dp ds _ h2)
  | .tuple ds, _, h => by
    cases h with
    | tup h1 h2 => exact .tup h1 (Rps.dp ds _ h2)
  | .dict _, _, h => by cases h
theorem Rps.dp : ∀ (ds : List Dt) (vs : List V), Rps K G vs ds → DpAll K G vs ds
  | [], _, h => by cases h; exact .nil
  | d :: ds, _, h => by
    cases h with
    | cons h1 h2 => exact .cons (Rp.dp d _ h1) (Rps.dp ds _ h2)
end
theorem Rps.length : ∀ {vs : List V} {ds : List Dt}, Rps K G vs ds → vs.length = ds.length
  | _, [], h => by cases h; rfl
  | _, d :: ds, h => by
    cases h with
    | cons h1 h2 => rw [List.length_cons, List.length_cons, h2.length]
theorem Rps.get : ∀ {vs : List V} {ds : List Dt} {i : Nat} {d : Dt}, Rps K G vs ds → ds[i]? = some d → ∃ v, vs[i]? = some v ∧ Rp K G v d
  | _, [], _, _, _, e => by simp at e
  | _, d :: ds, 0, x, h, e => by
    cases h with
    | cons h1 h2 =>
      simp at e
      subst e
      exact ⟨_, rfl, h1⟩
  | _, d :: ds, i + 1, x, h, e => by
    cases h with
    | cons h1 h2 =>
      obtain ⟨v, q, r⟩ := Rps.get (i := i) (d := x) h2 (by simpa using e)
      exact ⟨v, by simpa using q, r⟩
theorem Rps.getV {vs : List V} {ds : List Dt} {i : Nat} {v : V} (h : Rps K G vs ds) (e : vs[i]? = some v) : ∃ d, ds[i]? = some d ∧ Rp K G v d := by
  have hi : i < vs.length := (List.getElem?_eq_some_iff.mp e).1
  rw [h.length] at hi
  obtain ⟨u, q, r⟩ := h.get (List.getElem?_eq_getElem hi)
  rw [e] at q
  cases q
  exact ⟨_, List.getElem?_eq_getElem hi, r⟩
theorem Rps.append : ∀ {vs ws : List V} {ds es : List Dt}, Rps K G vs ds → Rps K G ws es → Rps K G (vs ++ ws) (ds ++ es)
  | _, _, [], _, h, g => by cases h; exact g
  | _, _, d :: ds, _, h, g => by
    cases h with
    | cons h1 h2 => exact .cons h1 (h2.append g)
theorem Rps.set {v : V} {d : Dt} (r : Rp K G v d) : ∀ {vs : List V} {ds : List Dt} (i : Nat), Rps K G vs ds → Rps K G (vs.set i v) (ds.set i d)
  | _, [], _, h => by cases h; exact .nil
  | _, _ :: _, 0, h => by
    cases h with
    | cons h1 h2 => exact .cons r h2
  | _, _ :: _, i + 1, h => by
    cases h with
    | cons h1 h2 => exact .cons h1 (Rps.set r i h2)
theorem Rps.take : ∀ {vs : List V} {ds : List Dt} (n : Nat), Rps K G vs ds → Rps K G (vs.take n) (ds.take n)
  | _, [], n, h => by cases h; rw [List.take_nil, List.take_nil]; exact .nil
  | _, _ :: _, 0, h => by rw [List.take_zero, List.take_zero]; exact .nil
  | _, _ :: _, n + 1, h => by
    cases h with
    | cons h1 h2 => exact .cons h1 (Rps.take n h2)
theorem Rps.drop : ∀ {vs : List V} {ds : List Dt} (n : Nat), Rps K G vs ds → Rps K G (vs.drop n) (ds.drop n)
  | _, [], n, h => by cases h; rw [List.drop_nil, List.drop_nil]; exact .nil
  | _, _ :: _, 0, h => h
  | _, _ :: _, n + 1, h => by
    cases h with
    | cons h1 h2 => exact Rps.drop n h2
theorem Rps.erase : ∀ {vs : List V} {ds : List Dt} (n : Nat), Rps K G vs ds → Rps K G (vs.eraseIdx n) (ds.eraseIdx n)
  | _, [], n, h => by cases h; exact .nil
  | _, _ :: _, 0, h => by
    cases h with
    | cons h1 h2 => exact h2
  | _, _ :: _, n + 1, h => by
    cases h with
    | cons h1 h2 => exact .cons h1 (Rps.erase n h2)
theorem Rps.rev {vs : List V} {ds : List Dt} (h : Rps K G vs ds) : Rps K G vs.reverse ds.reverse := by
  induction ds generalizing vs with
  | nil => cases h; exact .nil
  | cons d ds ih =>
    cases h with
    | cons h1 h2 =>
      rw [List.reverse_cons, List.reverse_cons]
      exact (ih h2).append (.cons h1 .nil)
theorem Rps.rep {vs : List V} {ds : List Dt} (h : Rps K G vs ds) : ∀ k : Nat, Rps K G (List.replicate k vs).flatten (List.replicate k ds).flatten
  | 0 => .nil
  | k + 1 => by
    rw [List.replicate_succ, List.replicate_succ, List.flatten_cons, List.flatten_cons]
    exact h.append (Rps.rep h k)
theorem Rps.one {v : V} {d : Dt} (r : Rp K G v d) : Rps K G [v] [d] := .cons r .nil
theorem Rps.ints : ∀ {ns : List Int} {vs : List V}, Rps K G vs (ns.map PyData.int) → vs = ns.map V.int
  | [], _, h => by cases h; rfl
  | n :: ns, _, h => by
    cases h with
    | cons h1 h2 =>
      cases h1
      rw [Rps.ints h2]
      rfl
theorem Rps.of_ints : ∀ ns : List Int, Rps K G (ns.map V.int) (ns.map PyData.int)
  | [] => .nil
  | n :: ns => .cons (.int n) (Rps.of_ints ns)
theorem Rps.bools : ∀ {bs : List Bool} {vs : List V}, Rps K G vs (bs.map PyData.bool) → vs = bs.map V.bl
  | [], _, h => by cases h; rfl
  | n :: ns, _, h => by
    cases h with
    | cons h1 h2 =>
      cases h1
      rw [Rps.bools h2]
      rfl
theorem Rps.strs : ∀ {bs : List Str} {vs : List V}, Rps K G vs (bs.map PyData.str) → vs = bs.map V.str
  | [], _, h => by cases h; rfl
  | n :: ns, _, h => by
    cases h with
    | cons h1 h2 =>
      cases h1
      rw [Rps.strs h2]
      rfl
end
end G8
namespace G8
open PySem L2
/-! slots, outcomes, the invariant -/
inductive Sv where
  | d (x : Dt)
  | ls (r : Bool) (xs : List Dt)
  | dk (r : Bool) (kvs : List (Key × Dt))
  | dt (r : Bool) (kvs : List (List Key × Dt))
  | ex (k : Nat)
  | scr (ns : List Int)
  | fk (kvs : List (Key × Dt))
def Sv.own : Sv → Bool
  | .ls _ _ => true
  | .dk _ _ => true
  | .dt _ _ => true
  | _ => false
def Sv.isRef : Sv → Bool
  | .ls r _ => r
  | .dk r _ => r
  | .dt r _ => r
  | _ => false
def Sv.mark (r : Bool) : Sv → Sv
  | .ls _ xs => .ls r xs
  | .dk _ xs => .dk r xs
  | .dt _ xs => .dt r xs
  | s => s
theorem own_mark (r : Bool) (s : Sv) : (s.mark r).own = s.own := by cases s <;> rfl
theorem ref_mark {r : Bool} {s : Sv} (h : s.own = true) : (s.mark r).isRef = r := by
  cases s <;> first | rfl | cases h
theorem own_of_ref {s : Sv} (h : s.isRef = true) : s.own = true := by
  cases s <;> first | rfl | cases h
abbrev Ev := List (Option Sv)
inductive Out (α : Type) where
  | ok (a : α) (ρ : Ev)
  | err (k : Nat) (ρ : Ev)
  | bad
abbrev M (α : Type) := Ev → Out α
/-- what an operand is: data, or the name in a slot -/
inductive Av where
  | d (x : Dt)
  | s (i : Nat)
/-- what a list expression gives: data, or a new list -/
inductive Rv where
  | d (x : Dt)
  | l (xs : List Dt)
  | k (kvs : List (Key × Dt))
  | t (kvs : List (List Key × Dt))
inductive Fl where
  | nx | bk | ct
  | rt (r : Rv)
def exO (C a : Addr) : HO := .ext fun h => ∃ (oe : Obj) (vs : Array Value), h.get? a = some oe ∧ Zc (.ref C) none oe ∧ oe.data = .fields vs
def RpK {κ : Type} (K : Fg) (G : Hp) : List (κ × V) → List (κ × Dt) → Prop := Paired fun p q => p.1 = q.1 ∧ Rp K G p.2 q.2
def RS (K : Fg) (C : Nat → Addr) (G H : Hp) (v : V) : Sv → Prop
  | .d x => Rp K G v x
  | .ls _ xs => ∃ p vs, v = .ref p ∧ H p = some (.lst vs) ∧ G p = none ∧ Rps K G vs xs
  | .dk _ kvs => ∃ p vs, v = .ref p ∧ H p = some (.dK vs) ∧ G p = none ∧ RpK K G vs kvs
  | .dt _ kvs => ∃ p vs, v = .ref p ∧ H p = some (.dT vs) ∧ G p = none ∧ RpK K G vs kvs
  | .ex k => ∃ a, v = .ref a ∧ G a = some (exO (C k) a)
  | .scr ns => ∃ a, v = .ref a ∧ SqL K G a (ns.map V.int)
  | .fk kvs => ∃ p od vs, v = .ref p ∧ G p = some (.frz od (.dK vs)) ∧ RpK K G vs kvs
structure Bs where
  K : Fg
  C : Nat → Addr
structure Fc where
  G0 : Hp
  H0 : Hp
  refs : List (Nat × Addr × Bool)
/-- all that is lent is marked so: a def's own body -/
def Fc.Fn (c : Fc) : Prop := ∀ i p f, (i, p, f) ∈ c.refs → f = true
structure SIG (b : Bs) (c : Fc) (G : Hp) (ρ : Ev) (σ : St) (H : Hp) : Prop where
  len : ρ.length = σ.length
  g0 : Same c.G0 G
  gh : Same G H
  fr : ∀ a o, c.H0 a = some o → (∀ i f, (i, a, f) ∉ c.refs) → H a = some o
  gn : ∀ a o, G a = some o → c.G0 a = some o ∨ c.H0 a = none
  sl : ∀ (i : Nat) (sv : Sv), ρ[i]? = some (some sv) → ∃ v, σ[i]? = some (some v) ∧ RS b.K b.C G H v sv
  sp : ∀ (i j : Nat) (si sj : Sv) (p : Addr), ρ[i]? = some (some si) → ρ[j]? = some (some sj) → si.own = true → sj.own = true → σ[i]? = some (some (.ref p)) → σ[j]? = some (some (.ref p)) → i = j
  nw : ∀ (i : Nat) (si : Sv) (p : Addr), ρ[i]? = some (some si) → si.own = true → σ[i]? = some (some (.ref p)) → c.H0 p = none ∨ ∃ f, (i, p, f) ∈ c.refs
  rf : ∀ (i : Nat) (p : Addr) (f : Bool), (i, p, f) ∈ c.refs → σ[i]? = some (some (.ref p)) ∧ ∃ sv, ρ[i]? = some (some sv) ∧ sv.own = true ∧ sv.isRef = f
theorem RS.at {K : Fg} {C : Nat → Addr} {G H : Hp} {v : V} {sv : Sv} (h : RS K C G H v sv) (ho : sv.own = true) : ∃ p o, v = .ref p ∧ H p = some o ∧ G p = none := by
  cases sv with
  | ls r xs => obtain ⟨p, vs, e, h1, h2, _⟩ := h; exact ⟨p, _, e, h1, h2⟩
  | dk r xs => obtain ⟨p, vs, e, h1, h2, _⟩ := h; exact ⟨p, _, e, h1, h2⟩
  | dt r xs => obtain ⟨p, vs, e, h1, h2, _⟩ := h; exact ⟨p, _, e, h1, h2⟩
  | _ => cases ho
theorem RpK.mono {κ : Type} {K : Fg} {G G' : Hp} {vs : List (κ × V)} {ds : List (κ × Dt)} (e : Same G G') (h : RpK K G vs ds) : RpK K G' vs ds :=
  Paired.mapP h fun _ _ z => ⟨z.1, Rp.mono e _ _ z.2⟩
/-- a slot stays over a greater ground, where its own object is kept -/
theorem RS.keep {K : Fg} {C : Nat → Addr} {G G' H H' : Hp} {v : V} {sv : Sv} (h : RS K C G H v sv) (e : Same G G') (k : ∀ p o, sv.own = true → v = .ref p → H p = some o → H' p = some o ∧ G' p = none) : RS K C G' H' v sv := by
  cases sv with
  | d x => exact Rp.mono e _ _ h
  | ls r xs => obtain ⟨p, vs, q, h1, h2, h3⟩ := h; exact ⟨p, vs, q, (k p _ rfl q h1).1, (k p _ rfl q h1).2, Rps.mono e _ _ h3⟩
  | dk r xs => obtain ⟨p, vs, q, h1, h2, h3⟩ := h; exact ⟨p, vs, q, (k p _ rfl q h1).1, (k p _ rfl q h1).2, h3.mono e⟩
  | dt r xs => obtain ⟨p, vs, q, h1, h2, h3⟩ := h; exact ⟨p, vs, q, (k p _ rfl q h1).1, (k p _ rfl q h1).2, h3.mono e⟩
  | ex k => obtain ⟨a, q, h1⟩ := h; exact ⟨a, q, e _ _ h1⟩
  | scr ns => obtain ⟨a, q, h1⟩ := h; exact ⟨a, q, e.seq h1⟩
  | fk kvs => obtain ⟨p, od, vs, q, h1, h2⟩ := h; exact ⟨p, od, vs, q, e _ _ h1, h2.mono e⟩
theorem RS.mark {K : Fg} {C : Nat → Addr} {G H : Hp} {v : V} {sv : Sv} (h : RS K C G H v sv) (r : Bool) : RS K C G H v (sv.mark r) := by
  cases sv <;> exact h
section
variable {b : Bs} {c : Fc} {G H : Hp} {ρ : Ev} {σ : St}
/-- a new object of no slot, laid into the heap alone -/
theorem SIG.alloc (S : SIG b c G ρ σ H) {p : Addr} {o : HO} (hp : H p = none) : SIG b c G ρ σ (upd H p o) := by
  have k : ∀ a u, H a = some u → upd H p o a = some u := fun a u e => by rw [upd_ne (ne_of_none e hp)]; exact e
  refine ⟨S.len, S.g0, fun a u e => k a u (S.gh a u e), fun a u e n => k a u (S.fr a u e n), S.gn, fun i sv e => ?_, S.sp, S.nw, S.rf⟩
  obtain ⟨v, hv, r⟩ := S.sl i sv e
  exact ⟨v, hv, r.keep (Same.refl G) fun q u ho ev hq => ⟨k q u hq, by obtain ⟨q', _, e', _, g'⟩ := r.at ho; rw [ev] at e'; cases e'; exact g'⟩⟩
/-- the address p is no slot's own -/
def NoOwn (ρ : Ev) (σ : St) (p : Addr) : Prop := ∀ (i : Nat) (sv : Sv), ρ[i]? = some (some sv) → sv.own = true → σ[i]? ≠ some (some (.ref p))
theorem SIG.noOwn (S : SIG b c G ρ σ H) {p : Addr} (hp : H p = none) : NoOwn ρ σ p := fun i sv e ho q => by
  obtain ⟨v, hv, r⟩ := S.sl i sv e
  obtain ⟨q', u, e', h', _⟩ := r.at ho
  rw [hv, e'] at q
  cases q
  rw [hp] at h'
  cases h'
theorem SIG.fresh0 (S : SIG b c G ρ σ H) {p : Addr} (hp : H p = none) : c.H0 p = none := by
  cases q : c.H0 p with
  | none => rfl
  | some o =>
    by_cases hr : ∃ i f, (i, p, f) ∈ c.refs
    · obtain ⟨i, f, hi⟩ := hr
      obtain ⟨h1, sv, h2, h3, _⟩ := S.rf i p f hi
      exact absurd h1 (S.noOwn hp i sv h2 h3)
    · have := S.fr p o q fun i f hi => hr ⟨i, f, hi⟩
      rw [hp] at this
      cases this
/-- an object of the heap that is no slot's own comes to the ground -/
theorem SIG.freeze (S : SIG b c G ρ σ H) {p : Addr} {o : HO} (hp : H p = some o) (hg : G p = none) (h0 : c.H0 p = none) (no : NoOwn ρ σ p) : Same G (upd G p o) ∧ SIG b c (upd G p o) ρ σ H := by
  have s1 : Same G (upd G p o) := fun a u e => by rw [upd_ne (ne_of_none e hg)]; exact e
  refine ⟨s1, S.len, S.g0.trans s1, fun a u e => ?_, S.fr, fun a u e => ?_, fun i sv e => ?_, S.sp, S.nw, S.rf⟩
  · by_cases ha : a = p
    · subst ha
      rw [upd_same] at e
      cases e
      exact hp
    · rw [upd_ne ha] at e
      exact S.gh a u e
  · by_cases ha : a = p
    · subst ha
      exact .inr h0
    · rw [upd_ne ha] at e
      exact S.gn a u e
  · obtain ⟨v, hv, r⟩ := S.sl i sv e
    refine ⟨v, hv, r.keep s1 fun q u ho ev hq => ⟨hq, ?_⟩⟩
    have hne : q ≠ p := fun z => no i sv e ho (by rw [hv, ev, z])
    obtain ⟨q', _, e', _, g'⟩ := r.at ho
    rw [ev] at e'
    cases e'
    rw [upd_ne hne]
    exact g'
/-- a new frozen object -/
theorem SIG.lay (S : SIG b c G ρ σ H) {p : Addr} {o : HO} (hp : H p = none) : Same G (upd G p o) ∧ SIG b c (upd G p o) ρ σ (upd H p o) := by
  have hg : G p = none := S.gh.free hp
  have n := S.noOwn hp
  exact (S.alloc (o := o) hp).freeze upd_same hg (S.fresh0 hp) n
theorem getElem?_set_eq' {α : Type} (l : List α) (i j : Nat) (x : α) : (l.set i x)[j]? = if i = j then (if i < l.length then some x else none) else l[j]? := by
  rw [List.getElem?_set]
/-- the slot i may be stored to -/
def Open (c : Fc) (ρ : Ev) (i : Nat) : Prop := ∀ s, ρ[i]? = some (some s) → s.own = false ∨ (c.Fn ∧ s.isRef = false)
theorem SIG.noRef (S : SIG b c G ρ σ H) {i : Nat} (hr : Open c ρ i) : ∀ p f, (i, p, f) ∉ c.refs := fun p f hp => by
  obtain ⟨_, s, h1, h2, h3⟩ := S.rf i p f hp
  rcases hr s h1 with z | ⟨z, y⟩
  · rw [h2] at z; cases z
  · rw [h3, z i p f hp] at y; cases y
/-- a slot is set -/
theorem SIG.set (S : SIG b c G ρ σ H) {i : Nat} {v : V} {sv : Sv} (r : RS b.K b.C G H v sv) (hr : Open c ρ i)
    (ho : ∀ p, v = .ref p → sv.own = true → NoOwn ρ σ p ∧ c.H0 p = none) : SIG b c G (ρ.set i (some sv)) (σ.set i (some v)) H := by
  have nr : ∀ p f, (i, p, f) ∉ c.refs := S.noRef hr
  refine ⟨by rw [List.length_set, List.length_set]; exact S.len, S.g0, S.gh, S.fr, S.gn, fun j s e => ?_, fun j k sj sk p e1 e2 o1 o2 a1 a2 => ?_, fun j s p e o1 a1 => ?_, fun j p f hj => ?_⟩
  · by_cases hj : i = j
    · subst hj
      rw [getElem?_set_eq', if_pos rfl] at e
      split at e
      · rename_i hl
        cases e
        exact ⟨v, by rw [getElem?_set_eq', if_pos rfl, if_pos (by rw [← S.len]; exact hl)], r⟩
      · cases e
    · rw [List.getElem?_set_ne hj] at e
      obtain ⟨u, hu, q⟩ := S.sl j s e
      exact ⟨u, by rw [List.getElem?_set_ne hj]; exact hu, q⟩
  · by_cases hj : i = j
    · by_cases hk : i = k
      · rw [← hj, ← hk]
      · subst hj
        rw [getElem?_set_eq', if_pos rfl] at e1 a1
        rw [List.getElem?_set_ne hk] at e2 a2
        split at e1
        · cases e1
          split at a1
          · cases a1
            exact absurd a2 ((ho p rfl o1).1 k sk e2 o2)
          · cases a1
        · cases e1
    · by_cases hk : i = k
      · subst hk
        rw [getElem?_set_eq', if_pos rfl] at e2 a2
        rw [List.getElem?_set_ne hj] at e1 a1
        split at e2
        · cases e2
          split at a2
          · cases a2
            exact absurd a1 ((ho p rfl o2).1 j sj e1 o1)
          · cases a2
        · cases e2
      · rw [List.getElem?_set_ne hj] at e1 a1
        rw [List.getElem?_set_ne hk] at e2 a2
        exact S.sp j k sj sk p e1 e2 o1 o2 a1 a2
  · by_cases hj : i = j
    · subst hj
      rw [getElem?_set_eq', if_pos rfl] at e a1
      split at e
      · cases e
        split at a1
        · cases a1
          exact .inl (ho p rfl o1).2
        · cases a1
      · cases e
    · rw [List.getElem?_set_ne hj] at e a1
      exact S.nw j s p e o1 a1
  · have hj' : i ≠ j := fun z => nr p f (z ▸ hj)
    obtain ⟨h1, s, h2, h3⟩ := S.rf j p f hj
    exact ⟨by rw [List.getElem?_set_ne hj']; exact h1, s, by rw [List.getElem?_set_ne hj']; exact h2, h3⟩
/-- a slot is forgotten -/
theorem SIG.drop (S : SIG b c G ρ σ H) {i : Nat} (hr : Open c ρ i) (w : Option V) : SIG b c G (ρ.set i none) (σ.set i w) H := by
  have nr : ∀ p f, (i, p, f) ∉ c.refs := S.noRef hr
  have ne : ∀ {j s}, (ρ.set i none)[j]? = some (some s) → i ≠ j := fun {j s} e z => by
    subst z
    rw [getElem?_set_eq', if_pos rfl] at e
    split at e <;> cases e
  refine ⟨by rw [List.length_set, List.length_set]; exact S.len, S.g0, S.gh, S.fr, S.gn, fun j s e => ?_, fun j k sj sk p e1 e2 o1 o2 a1 a2 => ?_, fun j s p e o1 a1 => ?_, fun j p f hj => ?_⟩
  · have hj := ne e
    rw [List.getElem?_set_ne hj] at e
    obtain ⟨u, hu, q⟩ := S.sl j s e
    exact ⟨u, by rw [List.getElem?_set_ne hj]; exact hu, q⟩
  · have hj := ne e1
    have hk := ne e2
    rw [List.getElem?_set_ne hj] at e1 a1
    rw [List.getElem?_set_ne hk] at e2 a2
    exact S.sp j k sj sk p e1 e2 o1 o2 a1 a2
  · have hj := ne e
    rw [List.getElem?_set_ne hj] at e a1
    exact S.nw j s p e o1 a1
  · have hj' : i ≠ j := fun z => nr p f (z ▸ hj)
    obtain ⟨h1, s, h2, h3⟩ := S.rf j p f hj
    exact ⟨by rw [List.getElem?_set_ne hj']; exact h1, s, by rw [List.getElem?_set_ne hj']; exact h2, h3⟩
/-- a slot's own object is changed -/
theorem SIG.mut (S : SIG b c G ρ σ H) {i : Nat} {p : Addr} {o : HO} {sv sv' : Sv} (e : ρ[i]? = some (some sv)) (ho : sv.own = true) (hp : σ[i]? = some (some (.ref p))) (hr : sv'.isRef = sv.isRef) (ho' : sv'.own = true)
    (r : RS b.K b.C G (upd H p o) (.ref p) sv') : SIG b c G (ρ.set i (some sv')) σ (upd H p o) := by
  have hil : i < ρ.length := (List.getElem?_eq_some_iff.mp e).1
  have gp : G p = none := by
    obtain ⟨v, hv, q⟩ := S.sl i sv e
    obtain ⟨p', _, e', _, g'⟩ := q.at ho
    rw [hp] at hv
    cases hv
    cases e'
    exact g'
  have get : ∀ {j s}, (ρ.set i (some sv'))[j]? = some (some s) → (j = i ∧ s = sv') ∨ (i ≠ j ∧ ρ[j]? = some (some s)) := fun {j s} q => by
    by_cases hj : i = j
    · subst hj
      rw [getElem?_set_eq', if_pos rfl, if_pos hil] at q
      cases q
      exact .inl ⟨rfl, rfl⟩
    · rw [List.getElem?_set_ne hj] at q
      exact .inr ⟨hj, q⟩
  refine ⟨by rw [List.length_set]; exact S.len, S.g0, fun a u q => ?_, fun a u q n => ?_, S.gn, fun j s q => ?_, fun j k sj sk a q1 q2 o1 o2 a1 a2 => ?_, fun j s a q o1 a1 => ?_, fun j a f hj => ?_⟩
  · rw [upd_ne (ne_of_none q gp)]
    exact S.gh a u q
  · have hne : a ≠ p := fun z => by
      subst z
      rcases S.nw i sv a e ho hp with z | z
      · rw [q] at z
        cases z
      · obtain ⟨f, z⟩ := z
        exact n i f z
    rw [upd_ne hne]
    exact S.fr a u q n
  · rcases get q with ⟨rfl, rfl⟩ | ⟨hj, q⟩
    · exact ⟨.ref p, hp, r⟩
    · obtain ⟨v, hv, z⟩ := S.sl j s q
      refine ⟨v, hv, z.keep (Same.refl G) fun a u oo ev ha => ?_⟩
      have hne : a ≠ p := fun y => hj (S.sp i j sv s p e q ho oo hp (by rw [hv, ev, y]))
      obtain ⟨q', _, e', _, g'⟩ := z.at oo
      rw [ev] at e'
      cases e'
      exact ⟨by rw [upd_ne hne]; exact ha, g'⟩
  · rcases get q1 with ⟨z1, w1⟩ | ⟨hj, y1⟩
    · rcases get q2 with ⟨z2, w2⟩ | ⟨hk, y2⟩
      · rw [z1, z2]
      · rw [z1] at a1 ⊢
        exact S.sp i k sv sk a e y2 ho o2 a1 a2
    · rcases get q2 with ⟨z2, w2⟩ | ⟨hk, y2⟩
      · rw [z2] at a2 ⊢
        exact S.sp j i sj sv a y1 e o1 ho a1 a2
      · exact S.sp j k sj sk a y1 y2 o1 o2 a1 a2
  · rcases get q with ⟨rfl, rfl⟩ | ⟨hj, q⟩
    · exact S.nw _ sv a e ho a1
    · exact S.nw j s a q o1 a1
  · obtain ⟨h1, s, h2, h3⟩ := S.rf j a f hj
    by_cases z : i = j
    · subst z
      rw [e] at h2
      cases h2
      exact ⟨h1, sv', by rw [getElem?_set_eq', if_pos rfl, if_pos hil], ho', by rw [hr]; exact h3.2⟩
    · exact ⟨h1, s, by rw [List.getElem?_set_ne z]; exact h2, h3⟩
/-- a slot's own list comes to the ground -/
theorem SIG.share (S : SIG b c G ρ σ H) (hb : c.Fn) {i : Nat} {xs : List Dt} (e : ρ[i]? = some (some (.ls false xs))) : ∃ G', Same G G' ∧ SIG b c G' (ρ.set i (some (.d (.list xs)))) σ H := by
  obtain ⟨v, hv, p, vs, rfl, hp, gp, rs⟩ := S.sl i _ e
  have op : Open c ρ i := fun s q => by rw [e] at q; cases q; exact .inr ⟨hb, rfl⟩
  have h0 : c.H0 p = none := by
    rcases S.nw i _ p e rfl hv with z | z
    · exact z
    · obtain ⟨f, z⟩ := z
      exact absurd z (S.noRef op p f)
  have D := S.drop (i := i) op (some (.ref p))
  have es : σ.set i (some (.ref p)) = σ := by
    apply List.ext_getElem?
    intro j
    by_cases hj : i = j
    · subst hj
      rw [getElem?_set_eq', if_pos rfl, if_pos (List.getElem?_eq_some_iff.mp hv).1, hv]
    · rw [List.getElem?_set_ne hj]
  rw [es] at D
  have no : NoOwn (ρ.set i none) σ p := fun j s q o1 a1 => by
    have hj : i ≠ j := fun z => by
      subst z
      rw [getElem?_set_eq', if_pos rfl] at q
      split at q <;> cases q
    rw [List.getElem?_set_ne hj] at q
    exact hj (S.sp i j _ s p e q rfl o1 hv a1)
  obtain ⟨s1, D2⟩ := D.freeze hp gp h0 no
  refine ⟨_, s1, ?_⟩
  have D3 := D2.set (i := i) (v := .ref p) (sv := .d (.list xs)) (.lst upd_same (Rps.mono s1 _ _ rs)) (fun s q => by
    rw [getElem?_set_eq', if_pos rfl] at q
    split at q <;> cases q) (fun q _ z => by cases z)
  rw [List.set_set, es] at D3
  exact D3
end
end G8
namespace G8
open PySem L2
/-! judgements -/
def bindM {α β : Type} (f : M α) (g : α → M β) : M β := fun ρ => match f ρ with
  | .ok a ρ' => g a ρ'
  | .err k ρ' => .err k ρ'
  | .bad => .bad
def retM {α : Type} (a : α) : M α := fun ρ => .ok a ρ
def badM {α : Type} : M α := fun _ => .bad
def optM {α : Type} (g : Ev → Option α) : M α := fun ρ => match g ρ with
  | some a => .ok a ρ
  | none => .bad
def slotD : Option (Option Sv) → Option Dt
  | some (some (.d x)) => some x
  | some (some (.ls _ xs)) => some (.list xs)
  | _ => none
def slotZ : Option (Option Sv) → Option Dt
  | some (some (.d x)) => some x
  | _ => none
def res (ρ : Ev) : Av → Option Dt
  | .d x => some x
  | .s i => slotD ρ[i]?
def fzv (ρ : Ev) : Av → Option Dt
  | .d x => some x
  | .s i => slotZ ρ[i]?
def RA (K : Fg) (G : Hp) (σ : St) (v : V) : Av → Prop
  | .d x => Rp K G v x
  | .s i => σ[i]? = some (some v)
theorem RA.mono {K : Fg} {G G' : Hp} {σ : St} {v : V} {a : Av} (e : Same G G') (h : RA K G σ v a) : RA K G' σ v a := by
  cases a with
  | d x => exact Rp.mono e _ _ h
  | s i => exact h
/-- readable: frozen, or a list of the heap whose items are -/
def RO (K : Fg) (G H : Hp) (v : V) (x : Dt) : Prop := Rp K G v x ∨ ∃ p vs xs, v = .ref p ∧ x = .list xs ∧ H p = some (.lst vs) ∧ Rps K G vs xs
theorem RO.dp {K : Fg} {G H : Hp} {v : V} {x : Dt} (e : Same G H) (h : RO K G H v x) : Dp K H v x := by
  rcases h with h | ⟨p, vs, xs, rfl, rfl, h1, h2⟩
  · exact Rp.dp _ _ (Rp.mono e _ _ h)
  · exact .lst (SqL.of h1) (Rps.dp _ _ (Rps.mono e _ _ h2))
theorem RO.list {K : Fg} {G H : Hp} {v : V} {xs : List Dt} (e : Same G H) (h : RO K G H v (.list xs)) : ∃ p vs, v = .ref p ∧ H p = some (.lst vs) ∧ Rps K G vs xs := by
  rcases h with h | ⟨p, vs, ys, rfl, q, h1, h2⟩
  · cases h with
    | lst h1 h2 => exact ⟨_, _, rfl, e _ _ h1, h2⟩
  · cases q
    exact ⟨p, vs, rfl, h1, h2⟩
theorem RO.tup {K : Fg} {G H : Hp} {v : V} {xs : List Dt} (h : RO K G H v (.tuple xs)) : ∃ p vs, v = .ref p ∧ SqT K G p vs ∧ Rps K G vs xs := by
  rcases h with h | ⟨p, vs, ys, rfl, q, h1, h2⟩
  · cases h with
    | tup h1 h2 => exact ⟨_, _, rfl, h1, h2⟩
  · cases q
theorem RO.int {K : Fg} {G H : Hp} {v : V} {i : Int} (h : RO K G H v (.int i)) : v = .int i := by
  rcases h with h | ⟨p, vs, ys, rfl, q, h1, h2⟩
  · cases h; rfl
  · cases q
theorem RO.bool {K : Fg} {G H : Hp} {v : V} {i : Bool} (h : RO K G H v (.bool i)) : v = .bl i := by
  rcases h with h | ⟨p, vs, ys, rfl, q, h1, h2⟩
  · cases h; rfl
  · cases q
theorem RO.str {K : Fg} {G H : Hp} {v : V} {i : Str} (h : RO K G H v (.str i)) : v = .str i := by
  rcases h with h | ⟨p, vs, ys, rfl, q, h1, h2⟩
  · cases h; rfl
  · cases q
theorem RO.none {K : Fg} {G H : Hp} {v : V} (h : RO K G H v .none) : v = .non := by
  rcases h with h | ⟨p, vs, ys, rfl, q, h1, h2⟩
  · cases h; rfl
  · cases q
theorem RA.res {b : Bs} {c : Fc} {G H : Hp} {ρ : Ev} {σ : St} {v : V} {a : Av} {x : Dt} (S : SIG b c G ρ σ H) (h : RA b.K G σ v a) (e : res ρ a = some x) : RO b.K G H v x := by
  cases a with
  | d y => cases e; exact .inl h
  | s i =>
    have e : slotD ρ[i]? = some x := e
    unfold slotD at e
    split at e
    · rename_i y q
      cases e
      obtain ⟨u, hu, r⟩ := S.sl i _ q
      rw [show σ[i]? = some (some v) from h] at hu
      cases hu
      exact .inl r
    · rename_i b ys q
      cases e
      obtain ⟨u, hu, p, vs, r1, r2, r3, r4⟩ := S.sl i _ q
      rw [show σ[i]? = some (some v) from h] at hu
      cases hu
      exact .inr ⟨p, vs, ys, r1, rfl, r2, r4⟩
    · cases e
theorem RA.fz {b : Bs} {c : Fc} {G H : Hp} {ρ : Ev} {σ : St} {v : V} {a : Av} {x : Dt} (S : SIG b c G ρ σ H) (h : RA b.K G σ v a) (e : fzv ρ a = some x) : Rp b.K G v x := by
  cases a with
  | d y => cases e; exact h
  | s i =>
    have e : slotZ ρ[i]? = some x := e
    unfold slotZ at e
    split at e
    · rename_i y q
      cases e
      obtain ⟨u, hu, r⟩ := S.sl i _ q
      rw [show σ[i]? = some (some v) from h] at hu
      cases hu
      exact r
    · cases e
def Post {α : Type} (b : Bs) (c : Fc) (W : WX) (G : Hp) (σ : St) (P : α → Ev → Hp → Hp → Prop) : Out α → Prop
  | .ok a ρ => ∀ H' G', Same G G' → SIG b c G' ρ σ H' → P a ρ G' H'
  | .err k ρ => ∀ H' G', Same G G' → SIG b c G' ρ σ H' → W (.ref (b.C k)) none σ H'
  | .bad => False
section
variable {α β : Type} {b : Bs} {c : Fc} {W : WX} {G G' H : Hp} {σ : St} {ρ : Ev} {P P' : α → Ev → Hp → Hp → Prop}
theorem Post.mono {o : Out α} (e : Same G G') (h : Post b c W G σ P o) : Post b c W G' σ P o := by
  cases o with
  | ok a ρ => exact fun H1 G1 e1 S1 => h H1 G1 (e.trans e1) S1
  | err k ρ => exact fun H1 G1 e1 S1 => h H1 G1 (e.trans e1) S1
  | bad => exact h
theorem Post.imp {o : Out α} (h : Post b c W G σ P o) (w : ∀ a ρ1 G1 H1, Same G G1 → SIG b c G1 ρ1 σ H1 → P a ρ1 G1 H1 → P' a ρ1 G1 H1) : Post b c W G σ P' o := by
  cases o with
  | ok a ρ => exact fun H1 G1 e1 S1 => w a ρ G1 H1 e1 S1 (h H1 G1 e1 S1)
  | err k ρ => exact h
  | bad => exact h
theorem Post.bind {f : M β} {g : β → M α} (h : Post b c W G σ P (bindM f g ρ)) : Post b c W G σ (fun z ρ1 G1 _ => Post b c W G1 σ P (g z ρ1)) (f ρ) := by
  unfold bindM at h
  cases e : f ρ with
  | ok z ρ1 =>
    rw [e] at h
    exact fun H1 G1 e1 S1 => Post.mono e1 h
  | err k ρ1 =>
    rw [e] at h
    exact h
  | bad =>
    rw [e] at h
    exact h
theorem Post.opt {g : Ev → Option α} (h : Post b c W G σ P (optM g ρ)) (S : SIG b c G ρ σ H) : ∃ a, g ρ = some a ∧ P a ρ G H := by
  unfold optM at h
  cases e : g ρ with
  | some a =>
    rw [e] at h
    exact ⟨a, rfl, h H G (Same.refl G) S⟩
  | none =>
    rw [e] at h
    exact h.elim
theorem Post.ret {a : α} (h : Post b c W G σ P (retM a ρ)) (S : SIG b c G ρ σ H) : P a ρ G H := h H G (Same.refl G) S
end
/-- what a new list, a new dict, or data is -/
def Rv.new : Rv → Bool
  | .d _ => false
  | _ => true
def RN (b : Bs) (c : Fc) (G H : Hp) (v : V) : Rv → Prop
  | .d x => Rp b.K G v x
  | .l xs => ∃ p vs, v = .ref p ∧ H p = some (.lst vs) ∧ G p = none ∧ Rps b.K G vs xs ∧ c.H0 p = none
  | .k kvs => ∃ p vs, v = .ref p ∧ H p = some (.dK vs) ∧ G p = none ∧ RpK b.K G vs kvs ∧ c.H0 p = none
  | .t kvs => ∃ p vs, v = .ref p ∧ H p = some (.dT vs) ∧ G p = none ∧ RpK b.K G vs kvs ∧ c.H0 p = none
def Apart (ρ : Ev) (σ : St) (v : V) (r : Rv) : Prop := ∀ p, v = .ref p → r.new = true → NoOwn ρ σ p
def tE (b : Bs) (W : WX) (f : M Av) : TE := fun σ H Q => ∃ c G ρ, SIG b c G ρ σ H ∧ Post b c W G σ (fun a _ G' H' => ∀ v, RA b.K G' σ v a → Q v H') (f ρ)
def tV (b : Bs) (W : WX) (f : M Rv) : TE := fun σ H Q => ∃ c G ρ, SIG b c G ρ σ H ∧ Post b c W G σ (fun r ρ' G' H' => ∀ v, RN b c G' H' v r → Apart ρ' σ v r → Q v H') (f ρ)
def tT (b : Bs) (W : WX) (f : M Bool) : TT := fun σ H Q => ∃ c G ρ, SIG b c G ρ σ H ∧ Post b c W G σ (fun b _ _ H' => Q b H') (f ρ)
def Ras (K : Fg) (G : Hp) (σ : St) : List V → List Av → Prop := Paired (RA K G σ)
def tL (b : Bs) (W : WX) (f : M (List Av)) : TA := fun σ H Q => ∃ c G ρ, SIG b c G ρ σ H ∧ Post b c W G σ (fun as _ G' H' => ∀ vs, Ras b.K G' σ vs as → Q vs H') (f ρ)
def PostS (b : Bs) (c : Fc) (W : WX) (G : Hp) (D : Ends) : Out Fl → Prop
  | .ok .nx ρ => ∀ σ H' G', Same G G' → SIG b c G' ρ σ H' → D.nx σ H'
  | .ok .bk ρ => ∀ σ H' G', Same G G' → SIG b c G' ρ σ H' → D.bk σ H'
  | .ok .ct ρ => ∀ σ H' G', Same G G' → SIG b c G' ρ σ H' → D.ct σ H'
  | .ok (.rt r) ρ => ∀ v σ H' G', Same G G' → SIG b c G' ρ σ H' → RN b c G' H' v r → D.rt v H'
  | .err k ρ => ∀ σ H' G', Same G G' → SIG b c G' ρ σ H' → W (.ref (b.C k)) none σ H'
  | .bad => False
def tS (b : Bs) (W : WX) (f : M Fl) : TS := fun D σ H => ∃ c G ρ, c.Fn ∧ SIG b c G ρ σ H ∧ PostS b c W G D (f ρ)
theorem PostS.mono {b : Bs} {c : Fc} {W : WX} {G G' : Hp} {D : Ends} {o : Out Fl} (e : Same G G') (h : PostS b c W G D o) : PostS b c W G' D o := by
  cases o with
  | ok a ρ =>
    cases a with
    | nx => exact fun σ H1 G1 e1 S1 => h σ H1 G1 (e.trans e1) S1
    | bk => exact fun σ H1 G1 e1 S1 => h σ H1 G1 (e.trans e1) S1
    | ct => exact fun σ H1 G1 e1 S1 => h σ H1 G1 (e.trans e1) S1
    | rt r => exact fun v σ H1 G1 e1 S1 => h v σ H1 G1 (e.trans e1) S1
  | err k ρ => exact fun σ H1 G1 e1 S1 => h σ H1 G1 (e.trans e1) S1
  | bad => exact h
section
variable {X : Cx} {e : Expr}
theorem weakE {t t' : TE} (h : PE X e t) (w : ∀ σ H Q, t' σ H Q → t σ H Q) : PE X e t' := ⟨fun pins s σ H Q I q => h.run pins s σ H Q I (w σ H Q q)⟩
theorem weakT {t t' : TT} (h : PT X e t) (w : ∀ σ H Q, t' σ H Q → t σ H Q) : PT X e t' := ⟨fun pins s σ H Q I q => h.run pins s σ H Q I (w σ H Q q)⟩
theorem weakW {t t' : TT} (h : PW X e t) (w : ∀ σ H Q, t' σ H Q → t σ H Q) : PW X e t' := ⟨fun wh pins s σ H Q I q => h.run wh pins s σ H Q I (w σ H Q q)⟩
theorem weakA {es : List Expr} {t t' : TA} (h : PA X es t) (w : ∀ σ H Q, t' σ H Q → t σ H Q) : PA X es t' := ⟨fun p pins s σ H Q I q => h.run p pins s σ H Q I (w σ H Q q)⟩
theorem weakS {st : Stmt} {t t' : TS} (h : PS X st t) (w : ∀ D σ H, t' D σ H → t D σ H) : PS X st t' := ⟨fun pins s σ H D I q => h.run pins s σ H D I (w D σ H q)⟩
theorem weakB {st : List Stmt} {t t' : TS} (h : PSs X st t) (w : ∀ D σ H, t' D σ H → t D σ H) : PSs X st t' := ⟨fun pins s σ H D I q => h.run pins s σ H D I (w D σ H q)⟩
end
/-! names, constants, conversions -/
def varM (i : Nat) : M Av := fun ρ => match ρ[i]? with
  | some (some _) => .ok (.s i) ρ
  | _ => .bad
def frzM (f : M Rv) : M Av := bindM f fun r => match r with
  | .d x => retM (.d x)
  | .l xs => retM (.d (.list xs))
  | _ => badM
def dataM (f : M Av) : M Rv := bindM f fun a => optM fun ρ => (fzv ρ a).map Rv.d
section
variable {X : Cx} {b : Bs} {W : WX} {e : Expr} {f : M Av}
theorem m_var (i : Nat) {x : Str} {pos : Pos} (h : PE X (.Name x pos) (tVar i)) : PE X (.Name x pos) (tE b W (varM i)) := weakE h fun σ H Q ⟨c, G, ρ, S, q⟩ => by
  unfold varM at q
  split at q
  · rename_i sv hs
    obtain ⟨v, hv, _⟩ := S.sl i sv hs
    exact ⟨v, hv, q H G (Same.refl G) S v hv⟩
  · exact q.elim
theorem m_const {v : V} {x : Dt} (h : PE X e (tC v)) (r : ∀ K G, Rp K G v x) : PE X e (tE b W (retM (.d x))) := weakE h fun σ H Q ⟨c, G, ρ, S, q⟩ => q.ret S v (r _ _)
theorem m_int {i j pos} : PE X (.Constant (.int i) j pos) (tE b W (retM (.d (.int i)))) := m_const pe_int fun _ _ => .int i
theorem m_bl {i j pos} : PE X (.Constant (.bool i) j pos) (tE b W (retM (.d (.bool i)))) := m_const pe_bl fun _ _ => .bl i
theorem m_non {j pos} : PE X (.Constant .none j pos) (tE b W (retM (.d .none))) := m_const pe_non fun _ _ => .non
theorem m_str {i j pos} : PE X (.Constant (.str i) j pos) (tE b W (retM (.d (.str i)))) := m_const pe_str fun _ _ => .str i
theorem m_frz {f : M Rv} (h : PE X e (tV b W f)) : PE X e (tE b W (frzM f)) := weakE h fun σ H Q ⟨c, G, ρ, S, q⟩ => by
  refine ⟨c, G, ρ, S, (Post.bind q).imp fun r ρ1 G1 H1 e1 S1 q1 v hv ap => ?_⟩
  cases r with
  | d x => exact q1.ret S1 v hv
  | l xs =>
    obtain ⟨p, vs, rfl, h1, h2, h3, h4⟩ := hv
    obtain ⟨e2, S2⟩ := S1.freeze h1 h2 h4 (ap p rfl rfl)
    exact q1 H1 _ e2 S2 (.ref p) (.lst upd_same (Rps.mono e2 _ _ h3))
  | k kvs => exact q1.elim
  | t kvs => exact q1.elim
theorem m_data (h : PE X e (tE b W f)) : PE X e (tV b W (dataM f)) := weakE h fun σ H Q ⟨c, G, ρ, S, q⟩ => by
  refine ⟨c, G, ρ, S, (Post.bind q).imp fun a ρ1 G1 H1 e1 S1 q1 v hv => ?_⟩
  obtain ⟨r, h1, h2⟩ := q1.opt S1
  cases h : fzv ρ1 a with
  | none => rw [h] at h1; cases h1
  | some x =>
    rw [h] at h1
    cases h1
    exact h2 v (hv.fz S1 h) fun p _ z => by cases z
end
/-! operators: two operands, one -/
def bin2 (g : Dt → Dt → Option Rv) (fa fb : M Av) : M Rv := bindM fa fun a => bindM fb fun b => optM fun ρ => (res ρ a).bind fun x => (res ρ b).bind fun y => g x y
def un1 (g : Dt → Option Rv) (fa : M Av) : M Rv := bindM fa fun a => optM fun ρ => (res ρ a).bind g
/-- a rule on values does what g says of data -/
def Does2 (b : Bs) (r : R2) (g : Dt → Dt → Option Rv) : Prop := ∀ {c : Fc} {G H : Hp} {ρ : Ev} {σ : St} {x y : V} {dx dy : Dt} {z : Rv} {Q : VK}, SIG b c G ρ σ H → RO b.K G H x dx → RO b.K G H y dy → g dx dy = some z →
  (∀ v H' G', Same G G' → SIG b c G' ρ σ H' → RN b c G' H' v z → Apart ρ σ v z → Q v H') → r x y H Q
def Does1 (b : Bs) (r : V → Hp → VK → Prop) (g : Dt → Option Rv) : Prop := ∀ {c : Fc} {G H : Hp} {ρ : Ev} {σ : St} {x : V} {dx : Dt} {z : Rv} {Q : VK}, SIG b c G ρ σ H → RO b.K G H x dx → g dx = some z →
  (∀ v H' G', Same G G' → SIG b c G' ρ σ H' → RN b c G' H' v z → Apart ρ σ v z → Q v H') → r x H Q
section
variable {X : Cx} {b : Bs} {W : WX} {a a2 e : Expr} {fa fb : M Av}
theorem bin_core {r : R2} {g : Dt → Dt → Option Rv} (dz : Does2 b r g) {σ : St} {H : Hp} {Q : VK} (h : tV b W (bin2 g fa fb) σ H Q) : tOp r (tE b W fa) (tE b W fb) σ H Q := by
  obtain ⟨c, G, ρ, S, q⟩ := h
  refine ⟨c, G, ρ, S, (Post.bind q).imp fun aa ρ1 G1 H1 e1 S1 q1 v hv => ⟨c, G1, ρ1, S1, (Post.bind q1).imp fun ab ρ2 G2 H2 e2 S2 q2 u hu => ?_⟩⟩
  obtain ⟨z, h1, h2⟩ : ∃ z, _ = some z ∧ ∀ v' H' G', Same G2 G' → SIG b c G' ρ2 σ H' → RN b c G' H' v' z → Apart ρ2 σ v' z → Q v' H' := by
    unfold optM at q2
    split at q2
    · rename_i z hz
      exact ⟨z, hz, fun v' H' G' ee SS rr ap => q2 H' G' ee SS v' rr ap⟩
    · exact q2.elim
  dsimp only at h1
  cases hx : res ρ2 aa with
  | none => rw [hx] at h1; cases h1
  | some x =>
    cases hy : res ρ2 ab with
    | none => rw [hx, hy] at h1; cases h1
    | some y =>
      rw [hx, hy] at h1
      exact dz S2 ((hv.mono e2).res S2 hx) (hu.res S2 hy) h1 h2
theorem un_core {r : V → Hp → VK → Prop} {g : Dt → Option Rv} (dz : Does1 b r g) {σ : St} {H : Hp} {Q : VK} (h : tV b W (un1 g fa) σ H Q) : tUn r (tE b W fa) σ H Q := by
  obtain ⟨c, G, ρ, S, q⟩ := h
  refine ⟨c, G, ρ, S, (Post.bind q).imp fun a ρ1 G1 H1 e1 S1 q1 v hv => ?_⟩
  unfold optM at q1
  split at q1
  · rename_i z hz
    dsimp only at hz
    cases hx : res ρ1 a with
    | none => rw [hx] at hz; cases hz
    | some x =>
      rw [hx] at hz
      exact dz S1 (hv.res S1 hx) hz fun v' H' G' ee SS rr ap => q1 H' G' ee SS v' rr ap
  · exact q1.elim
theorem m_op {op : Operator} {r : R2} {g : Dt → Dt → Option Rv} {pos : Pos} (ho : OpR X (binaryOp op) r) (dz : Does2 b r g) (ha : PE X a (tE b W fa)) (hb : PE X a2 (tE b W fb)) : PE X (.BinOp a op a2 pos) (tV b W (bin2 g fa fb)) :=
  weakE (pe_op ho ha hb) fun _ _ _ h => bin_core dz h
theorem m_cmp {op : CmpOp} {r : R2} {g : Dt → Dt → Option Rv} {pos : Pos} (ho : OpR X (compareOp op) r) (dz : Does2 b r g) (ha : PE X a (tE b W fa)) (hb : PE X a2 (tE b W fb)) (hm : behindInMarks op a2 = false) : PE X (.Compare a [op] [a2] pos) (tV b W (bin2 g fa fb)) :=
  weakE (pe_cmpR ho ha hb hm) fun _ _ _ h => bin_core dz h
theorem m_ix {r : R2} {g : Dt → Dt → Option Rv} {pos : Pos} (ho : IxR X r) (dz : Does2 b r g) (ha : PE X a (tE b W fa)) (hb : PE X a2 (tE b W fb)) (hs : PlainIx a2) : PE X (.Subscript a a2 pos) (tV b W (bin2 g fa fb)) :=
  weakE (pe_ix ho ha hb hs) fun _ _ _ h => bin_core dz h
theorem m_un {op : UnaryOp} {r : V → Hp → VK → Prop} {g : Dt → Option Rv} {pos : Pos} (ho : UnR X (unaryOp op) r) (dz : Does1 b r g) (ha : PE X a (tE b W fa)) : PE X (.UnaryOp op a pos) (tV b W (un1 g fa)) :=
  weakE (pe_un ho ha) fun _ _ _ h => un_core dz h
end
end G8
namespace G8
open PySem L2
/-! tests -/
def truth : Dt → Option Bool
  | .none => some false
  | .bool b => some b
  | .int i => some (i != 0)
  | .str x => if x.length ≤ 1000000 then some ((x.length : Int) != 0) else none
  | .list xs => some (!xs.isEmpty)
  | .tuple xs => some (!xs.isEmpty)
  | .dict _ => none
def slotT : Option (Option Sv) → Option Bool
  | some (some (.d x)) => truth x
  | some (some (.ls _ xs)) => some (!xs.isEmpty)
  | some (some (.scr ns)) => some (!ns.isEmpty)
  | _ => none
def tru (ρ : Ev) : Av → Option Bool
  | .d x => truth x
  | .s i => slotT ρ[i]?
def testM (fa : M Av) : M Bool := bindM fa fun a => optM fun ρ => tru ρ a
def andM (fa fb : M Bool) : M Bool := bindM fa fun b => match b with
  | true => fb
  | false => retM false
def orM (fa fb : M Bool) : M Bool := bindM fa fun b => match b with
  | true => retM true
  | false => fb
def notM (fa : M Bool) : M Bool := bindM fa fun b => retM (!b)
def andV (fa fb : M Av) : M Av := bindM fa fun a => bindM (optM fun ρ => tru ρ a) fun b => match b with
  | true => fb
  | false => retM a
def orV (fa fb : M Av) : M Av := bindM fa fun a => bindM (optM fun ρ => tru ρ a) fun b => match b with
  | true => retM a
  | false => fb
def notV (fa : M Av) : M Av := bindM (testM fa) fun b => retM (.d (.bool (!b)))
def ifM {α : Type} (ft : M Bool) (fa fb : M α) : M α := bindM ft fun b => match b with
  | true => fa
  | false => fb
theorem isEmpty_rps {K : Fg} {G : Hp} {vs : List V} {ds : List Dt} (h : Rps K G vs ds) : ds.isEmpty = vs.isEmpty := by
  have := h.length
  cases vs <;> cases ds <;> first | rfl | (simp at this)
theorem truth_of {K : Fg} {G H : Hp} {v : V} {x : Dt} {k : Bool} (e : Same G H) (h : RO K G H v x) (q : truth x = some k) : TruV K v H k := by
  cases x with
  | none => cases q; rw [h.none]; rfl
  | bool b => cases q; rw [h.bool]; rfl
  | int i => cases q; rw [h.int]; rfl
  | str y =>
    rw [h.str]
    have q : (if y.length ≤ 1000000 then some ((y.length : Int) != 0) else none) = some k := q
    split at q
    · rename_i hl
      cases q
      exact ⟨Nat.le_trans hl (by decide), rfl⟩
    · cases q
  | list ds =>
    obtain ⟨p, vs, rfl, h1, h2⟩ := h.list e
    cases q
    exact .inl ⟨vs, SqL.of h1, by rw [isEmpty_rps h2]⟩
  | tuple ds =>
    obtain ⟨p, vs, rfl, h1, h2⟩ := h.tup
    cases q
    exact .inr (.inl ⟨vs, same_sqT e h1, by rw [isEmpty_rps h2]⟩)
  | dict kvs => cases q
theorem tru_of {b : Bs} {c : Fc} {G H : Hp} {ρ : Ev} {σ : St} {v : V} {a : Av} {k : Bool} (S : SIG b c G ρ σ H) (h : RA b.K G σ v a) (q : tru ρ a = some k) : TruV b.K v H k := by
  cases a with
  | d x => exact truth_of S.gh (.inl h) q
  | s i =>
    have q : slotT ρ[i]? = some k := q
    unfold slotT at q
    split at q
    · rename_i y hy
      exact truth_of S.gh (RA.res (a := .s i) S h (by show slotD ρ[i]? = some y; rw [hy]; rfl)) q
    · rename_i r y hy
      cases q
      exact truth_of S.gh (RA.res (a := .s i) S h (by show slotD ρ[i]? = some (.list y); rw [hy]; rfl)) rfl
    · rename_i ns hy
      cases q
      obtain ⟨u, hu, p, rfl, r⟩ := S.sl i _ hy
      rw [show σ[i]? = some (some v) from h] at hu
      cases hu
      exact .inl ⟨_, S.gh.seq r, by cases ns <;> rfl⟩
    · cases q
section
variable {X : Cx} {b : Bs} {W : WX} {e a a2 : Expr} {fa fb : M Av} {ft fu : M Bool} {rest : List Expr} {pos : Pos}
theorem m_test (hK : X.K = b.K) (ha : PE X a (tE b W fa)) (he : ∀ whole, isTrue a X.env whole = (do let v ← whole; standAt a.pos; holding [v] (truthy v)) := by intro _; rfl) : PT X a (tT b W (testM fa)) :=
  weakT (pt_truth ha he) fun σ H Q ⟨c, G, ρ, S, q⟩ => ⟨c, G, ρ, S, (Post.bind q).imp fun z ρ1 G1 H1 e1 S1 q1 v hv => by
    obtain ⟨k, h1, h2⟩ := q1.opt S1
    exact ⟨k, by rw [hK]; exact tru_of S1 hv h1, h2⟩⟩
theorem m_and1 (ha : PT X a (tT b W ft)) : PW X (.BoolOp .And [a] pos) (tT b W ft) := pw_and1 ha
theorem m_or1 (ha : PT X a (tT b W ft)) : PW X (.BoolOp .Or [a] pos) (tT b W ft) := pw_or1 ha
theorem m_and (ha : PT X a (tT b W ft)) (hb : PW X (.BoolOp .And (a2 :: rest) pos) (tT b W fu)) : PW X (.BoolOp .And (a :: a2 :: rest) pos) (tT b W (andM ft fu)) :=
  weakW (pw_and ha hb) fun σ H Q ⟨c, G, ρ, S, q⟩ => ⟨c, G, ρ, S, (Post.bind q).imp fun z ρ1 G1 H1 e1 S1 q1 => by
    cases z with
    | true => exact iteT ⟨c, G1, ρ1, S1, q1⟩
    | false => exact iteF (q1.ret S1)⟩
theorem m_or (ha : PT X a (tT b W ft)) (hb : PW X (.BoolOp .Or (a2 :: rest) pos) (tT b W fu)) : PW X (.BoolOp .Or (a :: a2 :: rest) pos) (tT b W (orM ft fu)) :=
  weakW (pw_or ha hb) fun σ H Q ⟨c, G, ρ, S, q⟩ => ⟨c, G, ρ, S, (Post.bind q).imp fun z ρ1 G1 H1 e1 S1 q1 => by
    cases z with
    | true => exact iteT (q1.ret S1)
    | false => exact iteF ⟨c, G1, ρ1, S1, q1⟩⟩
theorem m_not (ha : PT X a (tT b W ft)) : PT X (.UnaryOp .Not a pos) (tT b W (notM ft)) :=
  weakT (pt_not ha) fun σ H Q ⟨c, G, ρ, S, q⟩ => ⟨c, G, ρ, S, (Post.bind q).imp fun z ρ1 G1 H1 e1 S1 q1 => q1.ret S1⟩
theorem m_one {op} (ha : PE X a (tE b W fa)) : PE X (.BoolOp op [a] pos) (tE b W fa) := pe_one ha
theorem m_andV (hK : X.K = b.K) (ha : PE X a (tE b W fa)) (hb : PE X (.BoolOp .And (a2 :: rest) pos) (tE b W fb)) : PE X (.BoolOp .And (a :: a2 :: rest) pos) (tE b W (andV fa fb)) :=
  weakE (pe_andT ha hb) fun σ H Q ⟨c, G, ρ, S, q⟩ => ⟨c, G, ρ, S, (Post.bind q).imp fun z ρ1 G1 H1 e1 S1 q1 v hv => by
    obtain ⟨k, h1, h2⟩ := (Post.bind q1).opt S1
    refine ⟨k, by rw [hK]; exact tru_of S1 hv h1, ?_⟩
    cases k with
    | true => exact iteT ⟨c, G1, ρ1, S1, h2⟩
    | false => exact iteF (h2.ret S1 v hv)⟩
theorem m_orV (hK : X.K = b.K) (ha : PE X a (tE b W fa)) (hb : PE X (.BoolOp .Or (a2 :: rest) pos) (tE b W fb)) : PE X (.BoolOp .Or (a :: a2 :: rest) pos) (tE b W (orV fa fb)) :=
  weakE (pe_orT ha hb) fun σ H Q ⟨c, G, ρ, S, q⟩ => ⟨c, G, ρ, S, (Post.bind q).imp fun z ρ1 G1 H1 e1 S1 q1 v hv => by
    obtain ⟨k, h1, h2⟩ := (Post.bind q1).opt S1
    refine ⟨k, by rw [hK]; exact tru_of S1 hv h1, ?_⟩
    cases k with
    | true => exact iteT (h2.ret S1 v hv)
    | false => exact iteF ⟨c, G1, ρ1, S1, h2⟩⟩
theorem m_notV (hK : X.K = b.K) (ha : PE X a (tE b W fa)) : PE X (.UnaryOp .Not a pos) (tE b W (notV fa)) :=
  weakE (pe_notT ha) fun σ H Q ⟨c, G, ρ, S, q⟩ => ⟨c, G, ρ, S, (Post.bind (Post.bind q)).imp fun z ρ1 G1 H1 e1 S1 q1 v hv => by
    obtain ⟨k, h1, h2⟩ := q1.opt S1
    exact ⟨k, by rw [hK]; exact tru_of S1 hv h1, h2.ret S1 _ (.bl _)⟩⟩
theorem m_ifE {cnd : Expr} (hc : PT X cnd (tT b W ft)) (ha : PE X a (tE b W fa)) (hb : PE X a2 (tE b W fb)) : PE X (.IfExp cnd a a2 pos) (tE b W (ifM ft fa fb)) :=
  weakE (pe_ifExp hc ha hb) fun σ H Q ⟨c, G, ρ, S, q⟩ => ⟨c, G, ρ, S, (Post.bind q).imp fun z ρ1 G1 H1 e1 S1 q1 => by
    cases z with
    | true => exact iteT ⟨c, G1, ρ1, S1, q1⟩
    | false => exact iteF ⟨c, G1, ρ1, S1, q1⟩⟩
theorem m_ifV {cnd : Expr} {fa fb : M Rv} (hc : PT X cnd (tT b W ft)) (ha : PE X a (tV b W fa)) (hb : PE X a2 (tV b W fb)) : PE X (.IfExp cnd a a2 pos) (tV b W (ifM ft fa fb)) :=
  weakE (pe_ifExp hc ha hb) fun σ H Q ⟨c, G, ρ, S, q⟩ => ⟨c, G, ρ, S, (Post.bind q).imp fun z ρ1 G1 H1 e1 S1 q1 => by
    cases z with
    | true => exact iteT ⟨c, G1, ρ1, S1, q1⟩
    | false => exact iteF ⟨c, G1, ρ1, S1, q1⟩⟩
end
/-! chains of two comparisons; g, g' give truths -/
def chainM (g g' : Dt → Dt → Option Bool) (fa fb fc : M Av) : M Av := bindM fa fun a => bindM fb fun b => bindM (optM fun ρ => (res ρ a).bind fun x => (res ρ b).bind fun y => g x y) fun k => match k with
  | true => bindM fc fun z => optM fun ρ => (res ρ b).bind fun y => (res ρ z).bind fun w => (g' y w).map fun t => .d (.bool t)
  | false => retM (.d (.bool false))
/-- a rule of comparison that only looks -/
def Tells (b : Bs) (r : R2) (g : Dt → Dt → Option Bool) : Prop := ∀ {c : Fc} {G H : Hp} {ρ : Ev} {σ : St} {x y : V} {dx dy : Dt} {z : Bool} {Q : VK}, SIG b c G ρ σ H → RO b.K G H x dx → RO b.K G H y dy → g dx dy = some z → Q (.bl z) H → r x y H Q
theorem Tells.does {b : Bs} {r : R2} {g : Dt → Dt → Option Bool} (t : Tells b r g) : Does2 b r (fun x y => (g x y).map fun z => .d (.bool z)) := fun {c G H ρ σ x y dx dy z Q} S hx hy e q => by
  dsimp only at e
  cases hz : g dx dy with
  | none => rw [hz] at e; cases e
  | some w =>
    rw [hz] at e
    cases e
    exact t S hx hy hz (q _ H G (Same.refl G) S (.bl w) fun p _ z => by cases z)
section
variable {X : Cx} {b : Bs} {W : WX} {a a2 a3 : Expr} {fa fb fc : M Av} {pos : Pos}
theorem chain_core {r r' : R2} {g g' : Dt → Dt → Option Bool} (t : Tells b r g) (t' : Tells b r' g') {σ : St} {H : Hp} {Q : VK} (h : tE b W (chainM g g' fa fb fc) σ H Q) : tChain r r' (tE b W fa) (tE b W fb) (tE b W fc) σ H Q := by
  obtain ⟨c, G, ρ, S, q⟩ := h
  refine ⟨c, G, ρ, S, (Post.bind q).imp fun xa ρ1 G1 H1 e1 S1 q1 v hv => ⟨c, G1, ρ1, S1, (Post.bind q1).imp fun xb ρ2 G2 H2 e2 S2 q2 u hu => ?_⟩⟩
  obtain ⟨k, h1, h2⟩ := (Post.bind q2).opt S2
  cases hx : res ρ2 xa with
  | none => rw [hx] at h1; cases h1
  | some x =>
    cases hy : res ρ2 xb with
    | none => rw [hx, hy] at h1; cases h1
    | some y =>
      rw [hx, hy] at h1
      refine t S2 ((hv.mono e2).res S2 hx) (hu.res S2 hy) h1 ⟨k, rfl, ?_⟩
      cases k with
      | false => exact iteF (h2.ret S2 _ (.bl false))
      | true =>
        refine iteT ⟨c, G2, ρ2, S2, (Post.bind h2).imp fun xc ρ3 G3 H3 e3 S3 q3 w hw => ?_⟩
        obtain ⟨m, h3, h4⟩ := q3.opt S3
        cases hy3 : res ρ3 xb with
        | none => rw [hy3] at h3; cases h3
        | some y3 =>
          cases hz3 : res ρ3 xc with
          | none => rw [hy3, hz3] at h3; cases h3
          | some z3 =>
            rw [hy3, hz3] at h3
            dsimp only [Option.bind_some] at h3
            cases hg : g' y3 z3 with
            | none => rw [hg] at h3; cases h3
            | some tt =>
              rw [hg] at h3
              cases h3
              exact t' S3 ((hu.mono e3).res S3 hy3) (hw.res S3 hz3) hg (h4 _ (.bl tt))
theorem m_chain {op op' : CmpOp} {r r' : R2} {g g' : Dt → Dt → Option Bool} (ho : OpR X (compareOp op) r) (t : Tells b r g) (ho' : OpR X (compareOp op') r') (t' : Tells b r' g') (ha : PE X a (tE b W fa)) (hb : PE X a2 (tE b W fb)) (hc : PE X a3 (tE b W fc))
    (hm : lastMarks [op, op'] [a2, a3] = false := by with_unfolding_all rfl) : PE X (.Compare a [op, op'] [a2, a3] pos) (tE b W (chainM g g' fa fb fc)) := weakE (pe_chain ho ho' ha hb hc hm) fun _ _ _ h => chain_core t t' h
def chainT (g g' : Dt → Dt → Option Bool) (fa fb fc : M Av) : M Bool := bindM (chainM g g' fa fb fc) fun a => match a with
  | .d (.bool k) => retM k
  | _ => badM
theorem m_chainT {op op' : CmpOp} {r r' : R2} {g g' : Dt → Dt → Option Bool} (ho : OpR X (compareOp op) r) (t : Tells b r g) (ho' : OpR X (compareOp op') r') (t' : Tells b r' g') (ha : PE X a (tE b W fa)) (hb : PE X a2 (tE b W fb)) (hc : PE X a3 (tE b W fc))
    (hm : lastMarks [op, op'] [a2, a3] = false := by with_unfolding_all rfl) : PT X (.Compare a [op, op'] [a2, a3] pos) (tT b W (chainT g g' fa fb fc)) := weakT (pt_chain ho ho' ha hb hc hm) fun σ H Q h => by
  refine chain_core (W := W) t t' ?_
  obtain ⟨c, G, ρ, S, q⟩ := h
  refine ⟨c, G, ρ, S, (Post.bind q).imp fun z ρ1 G1 H1 e1 S1 q1 v hv => ?_⟩
  split at q1
  · cases hv
    exact ⟨_, rfl, q1.ret S1⟩
  · exact q1.elim
end
/-! argument lists, displays -/
def consM (fe : M Av) (fs : M (List Av)) : M (List Av) := bindM fe fun a => bindM fs fun as => retM (a :: as)
def fzs (ρ : Ev) : List Av → Option (List Dt)
  | [] => some []
  | a :: as => (fzv ρ a).bind fun x => (fzs ρ as).map fun xs => x :: xs
def lstM (fl : M (List Av)) : M Rv := bindM fl fun as => optM fun ρ => if as.length ≤ 1000 then (fzs ρ as).map Rv.l else none
def tupM (fl : M (List Av)) : M Av := bindM fl fun as => bindM (optM fun ρ => if as.length ≤ 1000 then fzs ρ as else none) fun xs => retM (.d (.tuple xs))
theorem fzs_of {b : Bs} {c : Fc} {G H : Hp} {ρ : Ev} {σ : St} (S : SIG b c G ρ σ H) : ∀ {vs : List V} {as : List Av} {xs : List Dt}, Ras b.K G σ vs as → fzs ρ as = some xs → Rps b.K G vs xs
  | _, [], _, h, e => by
    cases h
    cases e
    exact .nil
  | _, a :: as, _, h, e => by
    cases h with
    | cons h1 h2 =>
      unfold fzs at e
      cases hx : fzv ρ a with
      | none => rw [hx] at e; cases e
      | some x =>
        rw [hx] at e
        cases hy : fzs ρ as with
        | none => rw [hy] at e; cases e
        | some ys =>
          rw [hy] at e
          cases e
          exact .cons (h1.fz S hx) (fzs_of S h2 hy)
section
variable {X : Cx} {b : Bs} {W : WX} {e : Expr} {es : List Expr} {fe : M Av} {fs : M (List Av)} {pos : Pos}
theorem m_nil : PA X [] (tL b W (retM [])) := weakA pa_nil fun σ H Q ⟨c, G, ρ, S, q⟩ => q.ret S [] .nil
theorem m_cons (ha : PE X e (tE b W fe)) (hr : PA X es (tL b W fs)) (hs : starEach (e :: es) X.env = (false, eval e X.env) :: starEach es X.env := by rfl) : PA X (e :: es) (tL b W (consM fe fs)) :=
  weakA (pa_cons ha hr hs) fun σ H Q ⟨c, G, ρ, S, q⟩ => ⟨c, G, ρ, S, (Post.bind q).imp fun a ρ1 G1 H1 e1 S1 q1 v hv => ⟨c, G1, ρ1, S1, (Post.bind q1).imp fun as ρ2 G2 H2 e2 S2 q2 vs hvs =>
    q2.ret S2 (v :: vs) (.cons (hv.mono e2) hvs)⟩⟩
theorem m_lst (h : PA X es (tL b W fs)) : PE X (.List es pos) (tV b W (lstM fs)) := weakE (pe_lst h) fun σ H Q ⟨c, G, ρ, S, q⟩ => ⟨c, G, ρ, S, (Post.bind q).imp fun as ρ1 G1 H1 e1 S1 q1 vs hvs => by
  have hl := Paired.length hvs
  unfold optM at q1
  split at q1
  · rename_i z hz
    dsimp only at hz
    split at hz
    · rename_i hn
      cases hx : fzs ρ1 as with
      | none => rw [hx] at hz; cases hz
      | some xs =>
        rw [hx] at hz
        cases hz
        refine ⟨by rw [hl]; exact Nat.le_trans hn (by decide), fun p hp => ?_⟩
        refine q1 _ G1 (Same.refl G1) (S1.alloc hp) (.ref p) ⟨p, vs, rfl, upd_same, S1.gh.free hp, fzs_of S1 hvs hx, S1.fresh0 hp⟩ fun p' ep _ => ?_
        cases ep
        exact S1.noOwn hp
    · cases hz
  · exact q1.elim⟩
theorem m_tup {x1} (h : PA X es (tL b W fs)) : PE X (.Tuple es x1 pos) (tE b W (tupM fs)) := weakE (pe_tup h) fun σ H Q ⟨c, G, ρ, S, q⟩ => ⟨c, G, ρ, S, (Post.bind q).imp fun as ρ1 G1 H1 e1 S1 q1 vs hvs => by
  have hl := Paired.length hvs
  obtain ⟨xs, h1, h2⟩ := (Post.bind q1).opt S1
  split at h1
  · rename_i hn
    refine ⟨by rw [hl]; exact Nat.le_trans hn (by decide), fun p hp => ?_⟩
    obtain ⟨e2, S2⟩ := S1.lay (o := .tup vs) hp
    exact (Post.mono e2 h2).ret S2 (.ref p) (.tup (SqT.of upd_same) (Rps.mono e2 _ _ (fzs_of S1 hvs h1)))
  · cases h1⟩
end
end G8
namespace G8
open PySem L2
/-! statements -/
def seqM (f g : M Fl) : M Fl := fun ρ => match f ρ with
  | .ok .nx ρ' => g ρ'
  | o => o
theorem PostS.bind {α : Type} {b : Bs} {c : Fc} {W : WX} {G : Hp} {ρ : Ev} {D : Ends} {f : M α} {g : α → M Fl} (σ : St) (h : PostS b c W G D (bindM f g ρ)) : Post b c W G σ (fun a ρ1 G1 _ => PostS b c W G1 D (g a ρ1)) (f ρ) := by
  unfold bindM at h
  cases e : f ρ with
  | ok z ρ1 =>
    rw [e] at h
    exact fun H1 G1 e1 S1 => PostS.mono e1 h
  | err k ρ1 =>
    rw [e] at h
    exact h σ
  | bad =>
    rw [e] at h
    exact h
theorem PostS.seq {b : Bs} {c : Fc} {W : WX} {G : Hp} {ρ : Ev} {D : Ends} {f g : M Fl} {N : St → Hp → Prop} (h : PostS b c W G D (seqM f g ρ)) (hn : ∀ σ H' G' ρ', Same G G' → SIG b c G' ρ' σ H' → PostS b c W G' D (g ρ') → N σ H') : PostS b c W G { D with nx := N } (f ρ) := by
  unfold seqM at h
  cases e : f ρ with
  | ok z ρ1 =>
    rw [e] at h
    cases z with
    | nx => exact fun σ H1 G1 e1 S1 => hn σ H1 G1 ρ1 e1 S1 (PostS.mono e1 h)
    | bk => exact h
    | ct => exact h
    | rt r => exact h
  | err k ρ1 =>
    rw [e] at h
    exact h
  | bad =>
    rw [e] at h
    exact h
section
variable {X : Cx} {b : Bs} {W : WX} {st : Stmt} {sts us : List Stmt} {f g : M Fl} {pos : Pos}
theorem s_one (h : PS X st (tS b W f)) : PSs X [st] (tS b W f) := pss_one h
theorem s_nil : PSs X [] (tS b W (retM .nx)) := weakB pss_nil fun D σ H ⟨c, G, ρ, hb, S, q⟩ => q σ H G (Same.refl G) S
theorem s_cons (h1 : PS X st (tS b W f)) (h2 : PSs X sts (tS b W g)) : PSs X (st :: sts) (tS b W (seqM f g)) := weakB (pss_cons h1 h2) fun D σ H ⟨c, G, ρ, hb, S, q⟩ =>
  ⟨c, G, ρ, hb, S, q.seq fun σ' H' G' ρ' e' S' q' => ⟨c, G', ρ', hb, S', q'⟩⟩
theorem s_pass : PS X (.Pass pos) (tS b W (retM .nx)) := weakS ps_pass fun D σ H ⟨c, G, ρ, hb, S, q⟩ => q σ H G (Same.refl G) S
theorem s_break : PS X (.Break pos) (tS b W (retM .bk)) := weakS ps_break fun D σ H ⟨c, G, ρ, hb, S, q⟩ => q σ H G (Same.refl G) S
theorem s_continue : PS X (.Continue pos) (tS b W (retM .ct)) := weakS ps_continue fun D σ H ⟨c, G, ρ, hb, S, q⟩ => q σ H G (Same.refl G) S
theorem s_if {cnd : Expr} {ft : M Bool} (hc : PT X cnd (tT b W ft)) (ha : PSs X sts (tS b W f)) (hu : PSs X us (tS b W g)) : PS X (.If cnd sts us pos) (tS b W (ifM ft f g)) :=
  weakS (ps_if hc ha hu) fun D σ H ⟨c, G, ρ, hb, S, q⟩ => ⟨c, G, ρ, S, (PostS.bind σ q).imp fun z ρ1 G1 H1 e1 S1 q1 => by
    cases z with
    | true => exact iteT ⟨c, G1, ρ1, hb, S1, q1⟩
    | false => exact iteF ⟨c, G1, ρ1, hb, S1, q1⟩⟩
end
/-! storing a name -/
def refAt : Option (Option Sv) → Bool
  | some (some s) => s.isRef
  | _ => false
def Rv.sv : Rv → Sv
  | .d x => .d x
  | .l xs => .ls false xs
  | .k xs => .dk false xs
  | .t xs => .dt false xs
def putM (i : Nat) (s : Option Sv) : M Unit := fun ρ => if refAt ρ[i]? then .bad else .ok () (ρ.set i s)
def setM (i : Nat) (f : M Rv) : M Fl := bindM f fun r => bindM (putM i (some r.sv)) fun _ => retM .nx
theorem sv_ref (r : Rv) : r.sv.isRef = false := by cases r <;> rfl
theorem sv_own (r : Rv) : r.sv.own = r.new := by cases r <;> rfl
theorem sv_rs {b : Bs} {c : Fc} {G H : Hp} {v : V} {r : Rv} (h : RN b c G H v r) : RS b.K b.C G H v r.sv := by
  cases r with
  | d x => exact h
  | l xs => obtain ⟨p, vs, h1, h2, h3, h4, _⟩ := h; exact ⟨p, vs, h1, h2, h3, h4⟩
  | k xs => obtain ⟨p, vs, h1, h2, h3, h4, _⟩ := h; exact ⟨p, vs, h1, h2, h3, h4⟩
  | t xs => obtain ⟨p, vs, h1, h2, h3, h4, _⟩ := h; exact ⟨p, vs, h1, h2, h3, h4⟩
theorem rn_new {b : Bs} {c : Fc} {G H : Hp} {v : V} {r : Rv} (h : RN b c G H v r) (hn : r.new = true) {p : Addr} (hp : v = .ref p) : c.H0 p = none := by
  cases r with
  | d x => cases hn
  | l xs => obtain ⟨q, vs, h1, _, _, _, h5⟩ := h; rw [hp] at h1; cases h1; exact h5
  | k xs => obtain ⟨q, vs, h1, _, _, _, h5⟩ := h; rw [hp] at h1; cases h1; exact h5
  | t xs => obtain ⟨q, vs, h1, _, _, _, h5⟩ := h; rw [hp] at h1; cases h1; exact h5
theorem refAt_of {c : Fc} {ρ : Ev} {i : Nat} (hb : c.Fn) (h : ¬ refAt ρ[i]? = true) : Open c ρ i := fun s e => by
  rw [e] at h
  exact .inr ⟨hb, Bool.eq_false_iff.mpr h⟩
theorem set_rn {b : Bs} {c : Fc} {G H : Hp} {ρ : Ev} {σ : St} {v : V} {r : Rv} {i : Nat} (S : SIG b c G ρ σ H) (h : RN b c G H v r) (ap : Apart ρ σ v r) (hr : Open c ρ i) : SIG b c G (ρ.set i (some r.sv)) (σ.set i (some v)) H :=
  S.set (sv_rs h) hr fun p ep ho => ⟨ap p ep (by rw [← sv_own]; exact ho), rn_new h (by rw [← sv_own]; exact ho) ep⟩
section
variable {X : Cx} {b : Bs} {W : WX} {e : Expr} {pos pos' : Pos} {x : Str} {i : Nat}
theorem setM_core {f : M Rv} {D : Ends} {σ : St} {H : Hp} (h : tS b W (setM i f) D σ H) : tAsg (tV b W f) (gName i) D σ H := by
  obtain ⟨c, G, ρ, hb, S, q⟩ := h
  refine ⟨c, G, ρ, S, (PostS.bind σ q).imp fun r ρ1 G1 H1 e1 S1 q1 v hv ap => ?_⟩
  show D.nx (σ.set i (some v)) H1
  unfold bindM putM at q1
  by_cases hr : refAt ρ1[i]? = true
  · rw [if_pos hr] at q1
    exact q1.elim
  · rw [if_neg hr] at q1
    exact q1 _ H1 G1 (Same.refl G1) (set_rn S1 hv ap (refAt_of hb hr))
theorem s_set {f : M Rv} (hN : X.N.Nodup) (hi : X.N[i]? = some x) (hx : Loc X.env.scope x) (he : PE X e (tV b W f)) (hs : swapsWith e (some (.Name x pos')) pos.line X.env = pure false := by rfl)
    (hf : X.fn x = true ∨ X.env.scope.names.lookup x = some .local := by first | exact .inl rfl | exact .inr rfl | assumption) : PS X (.Assign [.Name x pos'] e pos) (tS b W (setM i f)) :=
  weakS (ps_set hN hi hx he hs hf) fun D σ H h => setM_core h
/-! return -/
def retS (f : M Rv) : M Fl := bindM f fun r => retM (.rt r)
theorem s_ret {f : M Rv} (he : PE X e (tV b W f)) : PS X (.Return (some e) pos) (tS b W (retS f)) := weakS (ps_ret he) fun D σ H ⟨c, G, ρ, hb, S, q⟩ =>
  ⟨c, G, ρ, S, (PostS.bind σ q).imp fun r ρ1 G1 H1 e1 S1 q1 v hv ap => q1 v σ H1 G1 (Same.refl G1) S1 hv⟩
theorem s_retN : PS X (.Return none pos) (tS b W (retM (.rt (.d .none)))) := weakS ps_retN fun D σ H ⟨c, G, ρ, hb, S, q⟩ => q .non σ H G (Same.refl G) S .non
/-- return x, x a slot: the list goes with it -/
def slotR : Option (Option Sv) → Option Rv
  | some (some (.d x)) => some (.d x)
  | some (some (.ls false xs)) => some (.l xs)
  | some (some (.dk false xs)) => some (.k xs)
  | some (some (.dt false xs)) => some (.t xs)
  | _ => none
def retO (i : Nat) : M Fl := bindM (optM fun ρ => slotR ρ[i]?) fun r => retM (.rt r)
theorem s_retO {n : Str} (i : Nat) (h : PE X (.Name n pos') (tVar i)) : PS X (.Return (some (.Name n pos')) pos) (tS b W (retO i)) := weakS (ps_ret h) fun D σ H ⟨c, G, ρ, hb, S, q⟩ => by
  obtain ⟨r, h1, h2⟩ := (PostS.bind σ q).opt S
  have own : ∀ sv p, ρ[i]? = some (some sv) → sv.own = true → sv.isRef = false → σ[i]? = some (some (.ref p)) → c.H0 p = none := fun sv p e ho hr hp => by
    rcases S.nw i sv p e ho hp with z | z
    · exact z
    · obtain ⟨f, z⟩ := z
      exact absurd z (S.noRef (fun s q => by rw [e] at q; cases q; exact .inr ⟨hb, hr⟩) p f)
  cases hq : ρ[i]? with
  | none => rw [hq] at h1; cases h1
  | some o =>
    cases o with
    | none => rw [hq] at h1; cases h1
    | some sv =>
      obtain ⟨v, hv, rs⟩ := S.sl i sv hq
      refine ⟨v, hv, h2 v σ H G (Same.refl G) S ?_⟩
      rw [hq] at h1
      cases sv with
      | d y => cases h1; exact rs
      | ls rr y =>
        cases rr
        · cases h1
          obtain ⟨p, vs, rfl, r2, r3, r4⟩ := rs
          exact ⟨p, vs, rfl, r2, r3, r4, own _ p hq rfl rfl hv⟩
        · cases h1
      | dk rr y =>
        cases rr
        · cases h1
          obtain ⟨p, vs, rfl, r2, r3, r4⟩ := rs
          exact ⟨p, vs, rfl, r2, r3, r4, own _ p hq rfl rfl hv⟩
        · cases h1
      | dt rr y =>
        cases rr
        · cases h1
          obtain ⟨p, vs, rfl, r2, r3, r4⟩ := rs
          exact ⟨p, vs, rfl, r2, r3, r4, own _ p hq rfl rfl hv⟩
        · cases h1
      | ex k => cases h1
      | scr ns => cases h1
      | fk kvs => cases h1
/-! a ghost: the list of a slot is shared -/
def shareM (i : Nat) : M Unit := fun ρ => match ρ[i]? with
  | some (some (.ls false xs)) => .ok () (ρ.set i (some (.d (.list xs))))
  | some (some (.d _)) => .ok () ρ
  | _ => .bad
theorem share_ok {c : Fc} {G H : Hp} {ρ ρ' : Ev} {σ : St} (hb : c.Fn) (S : SIG b c G ρ σ H) (h : shareM i ρ = .ok () ρ') : ∃ G', Same G G' ∧ SIG b c G' ρ' σ H := by
  unfold shareM at h
  split at h
  · rename_i xs hx
    cases h
    exact S.share hb hx
  · cases h
    exact ⟨G, Same.refl G, S⟩
  · cases h
def withS {α : Type} (i : Nat) (f : M α) : M α := bindM (shareM i) fun _ => f
theorem shareM_cases (ρ : Ev) (i : Nat) : (∃ ρ', shareM i ρ = .ok () ρ') ∨ shareM i ρ = .bad := by
  unfold shareM
  split
  · exact .inl ⟨_, rfl⟩
  · exact .inl ⟨_, rfl⟩
  · exact .inr rfl
theorem s_share {st : Stmt} {f : M Fl} (i : Nat) (h : PS X st (tS b W f)) : PS X st (tS b W (withS i f)) := weakS h fun D σ H ⟨c, G, ρ, hb, S, q⟩ => by
  unfold withS bindM at q
  rcases shareM_cases ρ i with ⟨ρ', e⟩ | e
  · rw [e] at q
    obtain ⟨G', e1, S1⟩ := share_ok hb S e
    exact ⟨c, G', ρ', hb, S1, q.mono e1⟩
  · rw [e] at q
    exact q.elim
theorem ss_share {st : List Stmt} {f : M Fl} (i : Nat) (h : PSs X st (tS b W f)) : PSs X st (tS b W (withS i f)) := weakB h fun D σ H ⟨c, G, ρ, hb, S, q⟩ => by
  unfold withS bindM at q
  rcases shareM_cases ρ i with ⟨ρ', e⟩ | e
  · rw [e] at q
    obtain ⟨G', e1, S1⟩ := share_ok hb S e
    exact ⟨c, G', ρ', hb, S1, q.mono e1⟩
  · rw [e] at q
    exact q.elim
end
/-! targets -/
inductive Tgt where
  | one (i : Nat)
  | tup (is : List Nat)
def Tgt.slots : Tgt → List Nat
  | .one i => [i]
  | .tup is => is
def gNs : List Nat → TGs
  | [] => gNil
  | i :: is => gCons (gName i) (gNs is)
def gRaw (K : Fg) : Tgt → TG
  | .one i => gName i
  | .tup is => gTup K is.length (gNs is)
def ownAt : Option (Option Sv) → Bool
  | some (some s) => s.own
  | _ => false
def putD (i : Nat) (d : Dt) : M Unit := fun ρ => if ownAt ρ[i]? then .bad else .ok () (ρ.set i (some (.d d)))
def putDs : List Nat → List Dt → M Unit
  | [], [] => retM ()
  | i :: is, d :: ds => bindM (putD i d) fun _ => putDs is ds
  | _, _ => badM
def putT : Tgt → Dt → M Unit
  | .one i, d => putD i d
  | .tup is, .tuple ds => putDs is ds
  | _, _ => badM
theorem ownAt_of {c : Fc} {ρ : Ev} {i : Nat} (h : ¬ ownAt ρ[i]? = true) : Open c ρ i := fun s e => by
  rw [e] at h
  exact .inl (Bool.eq_false_iff.mpr h)
theorem wipe_set (σ : St) (i : Nat) (w : Option V) : ∀ is : List Nat, i ∈ is → wipe (σ.set i w) is = wipe σ is
  | [], h => by cases h
  | j :: is, h => by
    unfold wipe
    by_cases hj : i = j
    · subst hj
      by_cases hm : i ∈ is
      · rw [wipe_set σ i w is hm]
      · rw [wipe_comm σ i w is hm, List.set_set]
    · rw [wipe_set σ i w is (by simpa [hj] using h)]
where wipe_comm (σ : St) (i : Nat) (w : Option V) : ∀ is : List Nat, i ∉ is → wipe (σ.set i w) is = (wipe σ is).set i w
  | [], _ => rfl
  | j :: is, h => by
    unfold wipe
    rw [List.mem_cons, not_or] at h
    rw [wipe_comm σ i w is h.2, List.set_comm _ _ h.1]
section
variable {b : Bs} {c : Fc} {G H : Hp} {ρ ρ' : Ev} {σ : St} {v : V} {d : Dt}
theorem putD_ok {i : Nat} (S : SIG b c G ρ σ H) (r : Rp b.K G v d) (e : putD i d ρ = .ok () ρ') : SIG b c G ρ' (σ.set i (some v)) H := by
  unfold putD at e
  split at e
  · cases e
  · rename_i hr
    cases e
    exact S.set (v := v) (sv := .d d) r (ownAt_of hr) fun _ _ z => by cases z
theorem putDs_ok : ∀ {is : List Nat} {vs : List V} {ds : List Dt} {ρ ρ' : Ev} {σ : St} {Q : St → Hp → Prop} (all : List Nat) (σ0 : St), (∀ i ∈ is, i ∈ all) → wipe σ all = wipe σ0 all → SIG b c G ρ σ H → Rps b.K G vs ds → putDs is ds ρ = .ok () ρ' →
    (∀ σ', SIG b c G ρ' σ' H → wipe σ' all = wipe σ0 all → Q σ' H) → gNs is vs σ H Q
  | [], vs, [], ρ, ρ', σ, Q, all, σ0, hm, hw, S, r, e, q => by
    cases r
    cases e
    exact ⟨rfl, q σ S hw⟩
  | [], vs, _ :: _, ρ, ρ', σ, Q, all, σ0, hm, hw, S, r, e, q => by cases e
  | _ :: _, vs, [], ρ, ρ', σ, Q, all, σ0, hm, hw, S, r, e, q => by cases e
  | i :: is, vs, d :: ds, ρ, ρ', σ, Q, all, σ0, hm, hw, S, r, e, q => by
    cases r with
    | cons r1 r2 =>
      have e : bindM (putD i d) (fun _ => putDs is ds) ρ = .ok () ρ' := e
      unfold bindM at e
      cases e1 : putD i d ρ with
      | ok z ρ1 =>
        rw [e1] at e
        refine ⟨_, _, rfl, ?_⟩
        exact putDs_ok all σ0 (fun j hj => hm j (List.mem_cons_of_mem _ hj)) ((wipe_set σ i _ all (hm i List.mem_cons_self)).trans hw) (putD_ok S r1 e1) r2 e q
      | err k ρ1 => rw [e1] at e; cases e
      | bad => rw [e1] at e; cases e
theorem putT_ok {t : Tgt} {Q : St → Hp → Prop} (S : SIG b c G ρ σ H) (r : Rp b.K G v d) (e : putT t d ρ = .ok () ρ') (q : ∀ σ', SIG b c G ρ' σ' H → wipe σ' t.slots = wipe σ t.slots → Q σ' H) : gRaw b.K t v σ H Q := by
  cases t with
  | one i => exact q _ (putD_ok S r e) (wipe_set σ i _ [i] List.mem_cons_self)
  | tup is =>
    cases d with
    | tuple ds =>
      cases r with
      | tup r1 r2 =>
        have hl : ∀ {is : List Nat} {ds : List Dt} {ρ ρ' : Ev}, putDs is ds ρ = .ok () ρ' → ds.length = is.length := by
          intro is
          induction is with
          | nil =>
            intro ds ρ ρ' e
            cases ds with
            | nil => rfl
            | cons _ _ => cases e
          | cons i is ih =>
            intro ds ρ ρ' e
            cases ds with
            | nil => cases e
            | cons x xs =>
              have e : bindM (putD i x) (fun _ => putDs is xs) ρ = .ok () ρ' := e
              unfold bindM at e
              cases e1 : putD i x ρ with
              | ok z ρ1 =>
                rw [e1] at e
                rw [List.length_cons, List.length_cons, ih e]
              | err k ρ1 => rw [e1] at e; cases e
              | bad => rw [e1] at e; cases e
        refine ⟨_, _, rfl, same_sqT S.gh r1, by rw [r2.length]; exact hl e, ?_⟩
        exact putDs_ok is σ (fun _ z => z) rfl S r2 e q
    | _ => cases e
theorem putT_noerr {t : Tgt} {d : Dt} {ρ : Ev} (k : Nat) (ρ' : Ev) : putT t d ρ ≠ .err k ρ' := by
  have h1 : ∀ i d ρ, putD i d ρ ≠ .err k ρ' := fun i d ρ e => by
    unfold putD at e
    split at e <;> cases e
  have h2 : ∀ (is : List Nat) (ds : List Dt) (ρ : Ev), putDs is ds ρ ≠ .err k ρ' := by
    intro is
    induction is with
    | nil =>
      intro ds ρ e
      cases ds <;> cases e
    | cons i is ih =>
      intro ds ρ e
      cases ds with
      | nil => cases e
      | cons x xs =>
        have e : bindM (putD i x) (fun _ => putDs is xs) ρ = .err k ρ' := e
        unfold bindM at e
        cases e1 : putD i x ρ with
        | ok z ρ1 => rw [e1] at e; exact ih _ _ e
        | err k1 ρ1 => rw [e1] at e; exact h1 _ _ _ (e1.trans e)
        | bad => rw [e1] at e; cases e
  intro e
  cases t with
  | one i => exact h1 _ _ _ e
  | tup is =>
    cases d with
    | tuple ds => exact h2 _ _ _ e
    | _ => cases e
end
/-- targets = e -/
def asgM (fe : M Av) (t : Tgt) : M Fl := bindM fe fun a => bindM (optM fun ρ => fzv ρ a) fun d => bindM (putT t d) fun _ => retM .nx
section
variable {X : Cx} {b : Bs} {W : WX} {pos : Pos}
theorem s_asg {tg e : Expr} {fe : M Av} {t : Tgt} (hK : X.K = b.K) (he : PE X e (tE b W fe)) (hg : PG X tg (gRaw X.K t)) (hp : ∀ {te : TE} {g : TG}, PE X e te → PG X tg g → PS X (.Assign [tg] e pos) (tAsg te g)) : PS X (.Assign [tg] e pos) (tS b W (asgM fe t)) :=
  weakS (hp he hg) fun D σ H ⟨c, G, ρ, hb, S, q⟩ => ⟨c, G, ρ, S, (PostS.bind σ q).imp fun a ρ1 G1 H1 e1 S1 q1 v hv => by
    obtain ⟨d, h1, h2⟩ := (PostS.bind σ q1).opt S1
    rw [hK]
    unfold bindM at h2
    cases e2 : putT t d ρ1 with
    | ok z ρ2 =>
      rw [e2] at h2
      exact putT_ok S1 (hv.fz S1 h1) e2 fun σ' S' _ => h2 σ' H1 G1 (Same.refl G1) S'
    | err k ρ2 => exact absurd e2 (putT_noerr k ρ2)
    | bad => rw [e2] at h2; exact h2.elim⟩
end
/-! what a for walks -/
structure Yl (K : Fg) (G : Hp) (J : It) (ds : List Dt) : Prop where
  go : ∀ i H, Same G H → i < ds.length → J.go i H
  yl : ∀ i H x H', Same G H → i < ds.length → J.yld i H x H' → H' = H ∧ ∃ d, ds[i]? = some d ∧ Rp K G x d
  st : ∀ H, Same G H → J.stop ds.length H
def tI (b : Bs) (W : WX) (f : M (List Dt)) : TI := fun σ H R => ∃ c G ρ, SIG b c G ρ σ H ∧ Post b c W G σ (fun ds _ G' H' => ∀ J, Yl b.K G' J ds → R J H') (f ρ)
def seqOf : Dt → Option (List Dt)
  | .list xs => some xs
  | _ => none
def tupOf : Dt → Option (List Dt)
  | .tuple xs => some xs
  | _ => none
/-- over a list that is frozen; over a tuple -/
def itM (fa : M Av) : M (List Dt) := bindM fa fun a => optM fun ρ => (fzv ρ a).bind seqOf
def itT (fa : M Av) : M (List Dt) := bindM fa fun a => optM fun ρ => (fzv ρ a).bind tupOf
theorem yl_list {K : Fg} {G : Hp} {p : Addr} {vs : List V} {ds : List Dt} (h : SqL K G p vs) (r : Rps K G vs ds) : Yl K G (Itl K p) ds := by
  have hl := r.length
  refine ⟨fun i H e hi => ?_, fun i H x H' e hi hy => ?_, fun H e => ⟨vs, e.seq h, by rw [hl]; exact Nat.le_refl _⟩⟩
  · exact ⟨vs, _, e.seq h, List.getElem?_eq_getElem (by rw [hl]; exact hi)⟩
  · obtain ⟨rfl, hy⟩ := hy
    obtain ⟨d, h1, h2⟩ := r.getV (hy vs (e.seq h))
    exact ⟨rfl, d, h1, h2⟩
theorem yl_tup {K : Fg} {G : Hp} {p : Addr} {vs : List V} {ds : List Dt} (h : SqT K G p vs) (r : Rps K G vs ds) : Yl K G (Itt K p) ds := by
  have hl := r.length
  refine ⟨fun i H e hi => ?_, fun i H x H' e hi hy => ?_, fun H e => ⟨vs, same_sqT e h, by rw [hl]; exact Nat.le_refl _⟩⟩
  · exact ⟨vs, _, same_sqT e h, List.getElem?_eq_getElem (by rw [hl]; exact hi)⟩
  · obtain ⟨rfl, hy⟩ := hy
    obtain ⟨d, h1, h2⟩ := r.getV (hy vs (same_sqT e h))
    exact ⟨rfl, d, h1, h2⟩
def rangeD (lo : Int) (n : Nat) : List Dt := (List.range n).map fun (i : Nat) => .int (lo + (i : Int))
theorem rangeD_get {lo : Int} {n i : Nat} (h : i < n) : (rangeD lo n)[i]? = some (.int (lo + (i : Int))) := by
  unfold rangeD
  rw [List.getElem?_map, List.getElem?_range h]
  rfl
theorem rangeD_len (lo : Int) (n : Nat) : (rangeD lo n).length = n := by
  unfold rangeD
  rw [List.length_map, List.length_range]
theorem yl_range (K : Fg) (G : Hp) (lo : Int) (n : Nat) : Yl K G (Itr lo n) (rangeD lo n) := by
  refine ⟨fun i H e hi => by rw [rangeD_len] at hi; exact hi, fun i H x H' e hi hy => ?_, fun H e => by rw [rangeD_len]; exact Nat.le_refl _⟩
  rw [rangeD_len] at hi
  obtain ⟨rfl, rfl⟩ := hy
  exact ⟨rfl, _, rangeD_get hi, .int _⟩
def rangeC (lo c : Int) (n : Nat) : List Dt := (List.range n).map fun (i : Nat) => .int (lo + (i : Int) * c)
theorem yl_rangeC (K : Fg) (G : Hp) (lo c : Int) (n : Nat) : Yl K G (Itc lo c n) (rangeC lo c n) := by
  have hl : (rangeC lo c n).length = n := by unfold rangeC; rw [List.length_map, List.length_range]
  refine ⟨fun i H e hi => by rw [hl] at hi; exact hi, fun i H x H' e hi hy => ?_, fun H e => by rw [hl]; exact Nat.le_refl _⟩
  rw [hl] at hi
  obtain ⟨rfl, rfl⟩ := hy
  refine ⟨rfl, _, ?_, .int _⟩
  unfold rangeC
  rw [List.getElem?_map, List.getElem?_range hi]
  rfl
def int1 : List Dt → Option Int
  | [.int i] => some i
  | _ => none
def int2 : List Dt → Option (Int × Int)
  | [.int i, .int j] => some (i, j)
  | _ => none
def int3 : List Dt → Option (Int × Int × Int)
  | [.int i, .int j, .int k] => some (i, j, k)
  | _ => none
def mid (i : Int) : Bool := Nat.blt i.natAbs 4611686018427387904
def rg1 (fl : M (List Av)) : M (List Dt) := bindM fl fun as => optM fun ρ => (fzs ρ as).bind fun xs => (int1 xs).bind fun j => if mid j then some (rangeD 0 j.toNat) else none
def rg2 (fl : M (List Av)) : M (List Dt) := bindM fl fun as => optM fun ρ => (fzs ρ as).bind fun xs => (int2 xs).bind fun q => if mid q.1 && mid q.2 then some (rangeD q.1 (q.2 - q.1).toNat) else none
/-- downward by ones -/
def rg3 (fl : M (List Av)) : M (List Dt) := bindM fl fun as => optM fun ρ => (fzs ρ as).bind fun xs => (int3 xs).bind fun q => if mid q.1 && mid q.2.1 && decide (q.2.2 = -1) then some (rangeC q.1 (-1) (q.1 - q.2.1).toNat) else none
section
variable {X : Cx} {b : Bs} {W : WX} {tg l : Expr} {fa : M Av} {fl : M (List Av)}
theorem weakI {iter : Expr} {t t' : TI} (h : PI X tg iter t) (w : ∀ σ H R, t' σ H R → t σ H R) : PI X tg iter t' := ⟨fun pins s σ H R I q => h.run pins s σ H R I (w σ H R q)⟩
theorem i_list (hK : X.K = b.K) (hl : PE X l (tE b W fa)) : PI X tg l (tI b W (itM fa)) := weakI (pi_list hl) fun σ H R ⟨c, G, ρ, S, q⟩ => ⟨c, G, ρ, S, (Post.bind q).imp fun a ρ1 G1 H1 e1 S1 q1 v hv => by
  obtain ⟨ds, h1, h2⟩ := q1.opt S1
  cases hx : fzv ρ1 a with
  | none => rw [hx] at h1; cases h1
  | some d =>
    rw [hx] at h1
    have r := hv.fz S1 hx
    cases d with
    | list xs =>
      cases h1
      cases r with
      | lst r1 r2 => exact ⟨_, rfl, ⟨_, SqL.of (S1.gh _ _ r1)⟩, by rw [hK]; exact h2 _ (yl_list (SqL.of r1) r2)⟩
    | _ => cases h1⟩
theorem i_tup (hK : X.K = b.K) (hl : PE X l (tE b W fa)) : PI X tg l (tI b W (itT fa)) := weakI (pi_tup hl) fun σ H R ⟨c, G, ρ, S, q⟩ => ⟨c, G, ρ, S, (Post.bind q).imp fun a ρ1 G1 H1 e1 S1 q1 v hv => by
  obtain ⟨ds, h1, h2⟩ := q1.opt S1
  cases hx : fzv ρ1 a with
  | none => rw [hx] at h1; cases h1
  | some d =>
    rw [hx] at h1
    have r := hv.fz S1 hx
    cases d with
    | tuple xs =>
      cases h1
      cases r with
      | tup r1 r2 => exact ⟨_, rfl, ⟨_, by rw [hK]; exact same_sqT S1.gh r1⟩, by rw [hK]; exact h2 _ (yl_tup r1 r2)⟩
    | _ => cases h1⟩
theorem mid_of {i : Int} (h : mid i = true) : -(2 ^ 62) ≤ i ∧ i < 2 ^ 62 := by
  unfold mid at h
  have h := Nat.blt_eq.mp h
  omega
theorem rps_int1 {K : Fg} {G : Hp} {vs : List V} {xs : List Dt} {i : Int} (r : Rps K G vs xs) (e : int1 xs = some i) : vs = [.int i] := by
  unfold int1 at e
  split at e
  · cases e
    cases r with
    | cons r1 r2 =>
      cases r1
      cases r2
      rfl
  · cases e
theorem rps_int2 {K : Fg} {G : Hp} {vs : List V} {xs : List Dt} {i : Int × Int} (r : Rps K G vs xs) (e : int2 xs = some i) : vs = [.int i.1, .int i.2] := by
  unfold int2 at e
  split at e
  · cases e
    cases r with
    | cons r1 r2 =>
      cases r1
      cases r2 with
      | cons r3 r4 =>
        cases r3
        cases r4
        rfl
  · cases e
theorem rps_int3 {K : Fg} {G : Hp} {vs : List V} {xs : List Dt} {i : Int × Int × Int} (r : Rps K G vs xs) (e : int3 xs = some i) : vs = [.int i.1, .int i.2.1, .int i.2.2] := by
  unfold int3 at e
  split at e
  · cases e
    cases r with
    | cons r1 r2 =>
      cases r1
      cases r2 with
      | cons r3 r4 =>
        cases r3
        cases r4 with
        | cons r5 r6 =>
          cases r5
          cases r6
          rfl
  · cases e
theorem i_range1 {a : Expr} {p pos : Pos} (hg : Gl X "range") (hm : X.mg "range" = none) (ha : PA X [a] (tL b W fl)) (hs : starEach [a] X.env = [(false, eval a X.env)] := by rfl) : PI X tg (.Call (.Name "range" p) [a] [] pos) (tI b W (rg1 fl)) :=
  weakI (pi_range1 hg hm ha hs) fun σ H R ⟨c, G, ρ, S, q⟩ => ⟨c, G, ρ, S, (Post.bind q).imp fun as ρ1 G1 H1 e1 S1 q1 vs hv => by
    obtain ⟨ds, h1, h2⟩ := q1.opt S1
    cases hx : fzs ρ1 as with
    | none => rw [hx] at h1; cases h1
    | some xs =>
      rw [hx, Option.bind_some] at h1
      cases hy : int1 xs with
      | none => rw [hy] at h1; cases h1
      | some j =>
        rw [hy, Option.bind_some] at h1
        split at h1
        · rename_i hj
          cases h1
          exact ⟨j, rps_int1 (fzs_of S1 hv hx) hy, (mid_of hj).1, (mid_of hj).2, h2 _ (yl_range _ _ _ _)⟩
        · cases h1⟩
theorem i_range2 {a a2 : Expr} {p pos : Pos} (hg : Gl X "range") (hm : X.mg "range" = none) (ha : PA X [a, a2] (tL b W fl)) (hs : starEach [a, a2] X.env = [(false, eval a X.env), (false, eval a2 X.env)] := by rfl) (hs2 : starEach [a2] X.env = [(false, eval a2 X.env)] := by rfl) : PI X tg (.Call (.Name "range" p) [a, a2] [] pos) (tI b W (rg2 fl)) :=
  weakI (pi_range2 hg hm ha hs hs2) fun σ H R ⟨c, G, ρ, S, q⟩ => ⟨c, G, ρ, S, (Post.bind q).imp fun as ρ1 G1 H1 e1 S1 q1 vs hv => by
    obtain ⟨ds, h1, h2⟩ := q1.opt S1
    cases hx : fzs ρ1 as with
    | none => rw [hx] at h1; cases h1
    | some xs =>
      rw [hx, Option.bind_some] at h1
      cases hy : int2 xs with
      | none => rw [hy] at h1; cases h1
      | some j =>
        rw [hy, Option.bind_some] at h1
        split at h1
        · rename_i hj
          cases h1
          rw [Bool.and_eq_true] at hj
          exact ⟨j.1, j.2, rps_int2 (fzs_of S1 hv hx) hy, ⟨(mid_of hj.1).1, (mid_of hj.1).2, (mid_of hj.2).1, (mid_of hj.2).2⟩, h2 _ (yl_range _ _ _ _)⟩
        · cases h1⟩
theorem i_range3 {a a2 a3 : Expr} {p pos : Pos} (ha : PA X [a, a2, a3] (tL b W fl)) (hp : ∀ {ta : TA}, PA X [a, a2, a3] ta → PI X tg (.Call (.Name "range" p) [a, a2, a3] [] pos) (iRng3 ta)) : PI X tg (.Call (.Name "range" p) [a, a2, a3] [] pos) (tI b W (rg3 fl)) :=
  weakI (hp ha) fun σ H R ⟨c, G, ρ, S, q⟩ => ⟨c, G, ρ, S, (Post.bind q).imp fun as ρ1 G1 H1 e1 S1 q1 vs hv => by
    obtain ⟨ds, h1, h2⟩ := q1.opt S1
    cases hx : fzs ρ1 as with
    | none => rw [hx] at h1; cases h1
    | some xs =>
      rw [hx, Option.bind_some] at h1
      cases hy : int3 xs with
      | none => rw [hy] at h1; cases h1
      | some j =>
        rw [hy, Option.bind_some] at h1
        split at h1
        · rename_i hj
          cases h1
          rw [Bool.and_eq_true, Bool.and_eq_true, decide_eq_true_eq] at hj
          obtain ⟨⟨j1, j2⟩, j3⟩ := hj
          have ev := rps_int3 (fzs_of S1 hv hx) hy
          rw [j3] at ev
          exact ⟨j.1, j.2.1, -1, _, ev, RgC.neg (mid_of j1).1 (mid_of j1).2 (mid_of j2).1 (mid_of j2).2, h2 _ (yl_rangeC _ _ _ _ _)⟩
        · cases h1⟩
end
/-! for -/
def forL (t : Tgt) (body : M Fl) : List Dt → M Fl
  | [] => retM .nx
  | d :: ds => fun ρ => match putT t d ρ with
    | .ok _ ρ1 => (match body ρ1 with
      | .ok .nx ρ2 => forL t body ds ρ2
      | .ok .ct ρ2 => forL t body ds ρ2
      | .ok .bk ρ2 => .ok .nx ρ2
      | o => o)
    | _ => .bad
def forM (fi : M (List Dt)) (t : Tgt) (body : M Fl) : M Fl := bindM fi fun ds => forL t body ds
section
variable {X : Cx} {b : Bs} {W : WX} {tg iter : Expr} {body : List Stmt} {fi : M (List Dt)} {t : Tgt} {f : M Fl} {pos : Pos}
theorem s_for (hK : X.K = b.K) (hp : PassesOwn (model X.prog X.w) X.A X.env X.xe) (hc : X.calm = true) (hi : PI X tg iter (tI b W fi)) (hg : PG X tg (gRaw X.K t)) (hd : PSs X body (tS b W f)) (hs : ∀ x, foldedSetIterable iter X.env x = pure x := by intro _; rfl) :
    PS X (.For tg iter body [] pos) (tS b W (forM fi t f)) := weakS (ps_for hp hc hi hg hd hs) fun D σ H ⟨c, G, ρ, hb, S, q⟩ => by
  refine ⟨c, G, ρ, S, (PostS.bind σ q).imp fun ds ρ1 G1 H1 e1 S1 q1 J hJ => ?_⟩
  refine ⟨fun i m σ' H' => ∃ G' ρ', Same G1 G' ∧ SIG b c G' ρ' σ' H' ∧ i + m = ds.length ∧ PostS b c W G' D (forL t f (ds.drop i) ρ'), ⟨ds.length, G1, ρ1, Same.refl _, S1, Nat.zero_add _, q1⟩, ?_⟩
  rintro i m σ' H' ⟨G', ρ', e', S', em, q'⟩
  have gh : Same G1 H' := e'.trans S'.gh
  by_cases hi : i < ds.length
  · have ed : ds.drop i = ds[i] :: ds.drop (i + 1) := List.drop_eq_getElem_cons hi
    refine .inr ⟨hJ.go i H' gh hi, fun σ2 H2 => ∃ G2 ρ2, Same G1 G2 ∧ SIG b c G2 ρ2 σ2 H2 ∧ PostS b c W G2 D (forL t f (ds.drop (i + 1)) ρ2), ?_, fun x H2 hy => ?_⟩
    · rintro σ2 H2 ⟨G2, ρ2, a1, a2, a3⟩
      exact ⟨m - 1, by omega, G2, ρ2, a1, a2, by omega, a3⟩
    · obtain ⟨rfl, d, hd, rd⟩ := hJ.yl i H' x H2 gh hi hy
      have ed2 : d = ds[i] := by
        rw [List.getElem?_eq_getElem hi] at hd
        exact (Option.some.inj hd).symm
      rw [hK]
      rw [ed] at q'
      have q2 : PostS b c W G' D (match putT t ds[i] ρ' with
        | .ok _ ρ1 => (match f ρ1 with
          | .ok .nx ρ2 => forL t f (ds.drop (i + 1)) ρ2
          | .ok .ct ρ2 => forL t f (ds.drop (i + 1)) ρ2
          | .ok .bk ρ2 => .ok .nx ρ2
          | o => o)
        | _ => .bad) := q'
      rw [ed2] at rd
      cases e3 : putT t ds[i] ρ' with
      | err k ρ3 => rw [e3] at q2; exact q2.elim
      | bad => rw [e3] at q2; exact q2.elim
      | ok z ρ3 =>
        rw [e3] at q2
        refine putT_ok S' (Rp.mono e' _ _ rd) e3 fun σ3 S3 _ => ?_
        have ee := Same.refl G'
        refine ⟨c, G', ρ3, hb, S3, ?_⟩
        dsimp only at q2
        cases e4 : f ρ3 with
        | bad => rw [e4] at q2; exact q2.elim
        | err k ρ4 =>
          rw [e4] at q2
          exact fun σ4 H4 G4 e5 S4 => q2 σ4 H4 G4 (ee.trans e5) S4
        | ok fl ρ4 =>
          rw [e4] at q2
          cases fl with
          | nx => exact fun σ4 H4 G4 e5 S4 => ⟨G4, ρ4, (e'.trans ee).trans e5, S4, PostS.mono (ee.trans e5) q2⟩
          | ct => exact fun σ4 H4 G4 e5 S4 => ⟨G4, ρ4, (e'.trans ee).trans e5, S4, PostS.mono (ee.trans e5) q2⟩
          | bk => exact fun σ4 H4 G4 e5 S4 => q2 σ4 H4 G4 (ee.trans e5) S4
          | rt r => exact fun v σ4 H4 G4 e5 S4 => q2 v σ4 H4 G4 (ee.trans e5) S4
  · have ei : i = ds.length := by omega
    subst ei
    refine .inl ⟨hJ.st H' gh, ?_⟩
    rw [List.drop_length] at q'
    exact q' σ' H' G' (Same.refl _) S'
end
end G8
namespace G8
open PySem L2
/-! list comprehensions -/
def wipeE (ρ : Ev) : List Nat → Ev
  | [] => ρ
  | v :: vs => (wipeE ρ vs).set v none
def backE (ρ ρ' : Ev) : List Nat → Ev
  | [] => ρ'
  | v :: vs => (backE ρ ρ' vs).set v ((ρ[v]?).getD none)
def anyOwn (ρ : Ev) (is : List Nat) : Bool := is.any fun i => ownAt ρ[i]?
def stepL (t : Tgt) (ft : M Bool) (fe : M Av) (d : Dt) : M (Option Dt) := fun ρ => if anyOwn ρ t.slots then .bad else match putT t d (wipeE ρ t.slots) with
  | .ok _ ρ1 => (match ft ρ1 with
    | .ok true ρ2 => (match fe ρ2 with
      | .ok a ρ3 => (match fzv ρ3 a with
        | some x => .ok (some x) (backE ρ ρ3 t.slots)
        | none => .bad)
      | _ => .bad)
    | .ok false ρ2 => .ok none (backE ρ ρ2 t.slots)
    | _ => .bad)
  | _ => .bad
def compL (t : Tgt) (ft : M Bool) (fe : M Av) : List Dt → List Dt → M (List Dt)
  | [], acc => retM acc
  | d :: ds, acc => bindM (stepL t ft fe d) fun o => match o with
    | some x => if acc.length < 1000000 then compL t ft fe ds (acc ++ [x]) else badM
    | none => compL t ft fe ds acc
theorem bindM_ok {α β : Type} {f : M α} {g : α → M β} {ρ ρ' : Ev} {a : α} (h : f ρ = .ok a ρ') : bindM f g ρ = g a ρ' := by
  unfold bindM
  rw [h]
theorem bindM_bad {α β : Type} {f : M α} {g : α → M β} {ρ : Ev} (h : f ρ = .bad) : bindM f g ρ = .bad := by
  unfold bindM
  rw [h]
theorem bindM_err {α β : Type} {f : M α} {g : α → M β} {ρ ρ' : Ev} {k : Nat} (h : f ρ = .err k ρ') : bindM f g ρ = .err k ρ' := by
  unfold bindM
  rw [h]
theorem bindM_assoc {α β γ : Type} (f : M α) (g : α → M β) (h : β → M γ) (ρ : Ev) : bindM (bindM f g) h ρ = bindM f (fun a => bindM (g a) h) ρ := by
  cases e : f ρ with
  | ok a ρ1 => rw [bindM_ok e]; unfold bindM; rw [e]
  | err k ρ1 => rw [bindM_err e, bindM_err (bindM_err e)]
  | bad => rw [bindM_bad e, bindM_bad (bindM_bad e)]
theorem stepL_cases {t : Tgt} {ft : M Bool} {fe : M Av} {d : Dt} {ρ ρ' : Ev} {o : Option Dt} (h : stepL t ft fe d ρ = .ok o ρ') : anyOwn ρ t.slots = false ∧ ∃ ρ1, putT t d (wipeE ρ t.slots) = .ok () ρ1 ∧ ∃ bb ρ2, ft ρ1 = .ok bb ρ2 ∧
    ((bb = false ∧ o = none ∧ ρ' = backE ρ ρ2 t.slots) ∨ (bb = true ∧ ∃ a ρ3 x, fe ρ2 = .ok a ρ3 ∧ fzv ρ3 a = some x ∧ o = some x ∧ ρ' = backE ρ ρ3 t.slots)) := by
  unfold stepL at h
  cases ha : anyOwn ρ t.slots with
  | true => rw [ha, if_pos rfl] at h; cases h
  | false =>
    rw [ha, if_neg Bool.false_ne_true] at h
    refine ⟨rfl, ?_⟩
    cases e1 : putT t d (wipeE ρ t.slots) with
    | err k ρ1 => rw [e1] at h; cases h
    | bad => rw [e1] at h; cases h
    | ok z ρ1 =>
      rw [e1] at h
      dsimp only at h
      refine ⟨ρ1, rfl, ?_⟩
      cases e2 : ft ρ1 with
      | err k ρ2 => rw [e2] at h; cases h
      | bad => rw [e2] at h; cases h
      | ok bb ρ2 =>
        rw [e2] at h
        refine ⟨bb, ρ2, rfl, ?_⟩
        cases bb with
        | false =>
          dsimp only at h
          cases h
          exact .inl ⟨rfl, rfl, rfl⟩
        | true =>
          dsimp only at h
          cases e3 : fe ρ2 with
          | err k ρ3 => rw [e3] at h; cases h
          | bad => rw [e3] at h; cases h
          | ok a ρ3 =>
            rw [e3] at h
            dsimp only at h
            cases e4 : fzv ρ3 a with
            | none => rw [e4] at h; cases h
            | some x =>
              rw [e4] at h
              cases h
              exact .inr ⟨rfl, a, ρ3, x, rfl, e4, rfl, rfl⟩
theorem stepL_noerr {t : Tgt} {ft : M Bool} {fe : M Av} {d : Dt} {ρ ρ' : Ev} {k : Nat} : stepL t ft fe d ρ ≠ .err k ρ' := fun h => by
  unfold stepL at h
  split at h
  · cases h
  · split at h
    · split at h
      · split at h
        · split at h <;> cases h
        · cases h
      · cases h
      · cases h
    · cases h
def lcM (fi : M (List Dt)) (t : Tgt) (ft : M Bool) (fe : M Av) : M Rv := bindM fi fun ds => bindM (compL t ft fe ds []) fun xs => retM (.l xs)
abbrev W0 : WX := fun _ _ _ _ => False
theorem wipeE_len (ρ : Ev) : ∀ is : List Nat, (wipeE ρ is).length = ρ.length
  | [] => rfl
  | i :: is => by unfold wipeE; rw [List.length_set, wipeE_len ρ is]
theorem wipeE_in (ρ : Ev) : ∀ (is : List Nat) (j : Nat) (s : Sv), (wipeE ρ is)[j]? = some (some s) → ρ[j]? = some (some s)
  | [], _, _, h => h
  | i :: is, j, s, h => by
    unfold wipeE at h
    rw [getElem?_set_eq'] at h
    split at h
    · split at h <;> cases h
    · exact wipeE_in ρ is j s h
theorem backE_len (ρ ρ' : Ev) : ∀ is : List Nat, (backE ρ ρ' is).length = ρ'.length
  | [] => rfl
  | i :: is => by unfold backE; rw [List.length_set, backE_len ρ ρ' is]
theorem backE_out (ρ ρ' : Ev) : ∀ (is : List Nat) (j : Nat), j ∉ is → (backE ρ ρ' is)[j]? = ρ'[j]?
  | [], _, _ => rfl
  | i :: is, j, h => by
    rw [List.mem_cons, not_or] at h
    unfold backE
    rw [List.getElem?_set_ne (Ne.symm h.1)]
    exact backE_out ρ ρ' is j h.2
theorem backE_own (ρ ρ' : Ev) : ∀ (is : List Nat) (j : Nat), j ∈ is → ∀ s, (backE ρ ρ' is)[j]? = some (some s) → ρ[j]? = some (some s)
  | [], _, h, _, _ => by cases h
  | i :: is, j, h, s, e => by
    unfold backE at e
    by_cases hj : i = j
    · subst hj
      rw [getElem?_set_eq', if_pos rfl] at e
      split at e
      · cases q : ρ[i]? with
        | none => rw [q] at e; cases e
        | some o => rw [q] at e; cases e; rfl
      · cases e
    · rw [List.getElem?_set_ne hj] at e
      exact backE_own ρ ρ' is j (by simpa [Ne.symm hj] using h) s e
theorem wipe_wipe (σ : St) (is : List Nat) : ∀ js : List Nat, (∀ j ∈ js, j ∈ is) → wipe (wipe σ js) is = wipe σ is
  | [], _ => rfl
  | j :: js, h => by
    rw [show wipe σ (j :: js) = (wipe σ js).set j none from rfl, wipe_set _ j _ is (h j List.mem_cons_self)]
    exact wipe_wipe σ is js fun k hk => h k (List.mem_cons_of_mem _ hk)
def refsOf (ρ : Ev) (σ : St) : List (Nat × Addr × Bool) := (List.range ρ.length).filterMap fun (j : Nat) => match ρ[j]?, σ[j]? with
  | some (some s), some (some (V.ref p)) => if s.own then some (j, p, s.isRef) else none
  | _, _ => none
theorem mem_refsOf {ρ : Ev} {σ : St} {j : Nat} {p : Addr} {f : Bool} : (j, p, f) ∈ refsOf ρ σ ↔ ∃ s, ρ[j]? = some (some s) ∧ s.own = true ∧ s.isRef = f ∧ σ[j]? = some (some (.ref p)) := by
  unfold refsOf
  rw [List.mem_filterMap]
  constructor
  · rintro ⟨k, _, e⟩
    split at e
    · rename_i s p' h1 h2
      split at e
      · rename_i ho
        cases e
        exact ⟨s, h1, ho, rfl, h2⟩
      · cases e
    · cases e
  · rintro ⟨s, h1, h2, rfl, h3⟩
    refine ⟨j, List.mem_range.mpr (List.getElem?_eq_some_iff.mp h1).1, ?_⟩
    rw [h1, h3]
    show (if s.own = true then _ else _) = _
    rw [if_pos h2]
section
variable {b : Bs} {c : Fc} {G G' H H' : Hp} {ρ ρ' : Ev} {σ σ' : St}
def inner (G H : Hp) (ρ : Ev) (σ : St) : Fc := ⟨G, H, refsOf ρ σ⟩
theorem SIG.enter (S : SIG b c G ρ σ H) : SIG b (inner G H ρ σ) G ρ σ H :=
  ⟨S.len, Same.refl _, S.gh, fun a o e _ => e, fun a o e => .inl e, S.sl, S.sp, fun i s p e ho hp => .inr ⟨_, mem_refsOf.mpr ⟨s, e, ho, rfl, hp⟩⟩, fun i p f h => by
    obtain ⟨s, h1, h2, h3, h4⟩ := mem_refsOf.mp h
    exact ⟨h4, s, h1, h2, h3⟩⟩
theorem SIG.wipe (S : SIG b c G ρ σ H) : ∀ is : List Nat, anyOwn ρ is = false → SIG b c G (wipeE ρ is) (wipe σ is) H
  | [], _ => S
  | i :: is, h => by
    unfold anyOwn at h
    rw [List.any_cons, Bool.or_eq_false_iff] at h
    refine (SIG.wipe S is h.2).drop (fun s e => .inl ?_) none
    have := wipeE_in ρ is i s e
    rw [this] at h
    exact h.1
theorem SIG.leave (S : SIG b c G ρ σ H) {is : List Nat} (ha : anyOwn ρ is = false) (S' : SIG b (inner G H ρ σ) G' ρ' σ' H') (e : Same G G') (hw : L2.wipe σ' is = L2.wipe σ is) : SIG b c G' (backE ρ ρ' is) σ H' := by
  have hno : ∀ j ∈ is, ownAt ρ[j]? = false := fun j hj => by
    unfold anyOwn at ha
    exact Bool.eq_false_iff.mpr fun z => by
      have := List.any_eq_true (p := fun (i : Nat) => ownAt ρ[i]?) |>.mpr ⟨j, hj, z⟩
      rw [ha] at this
      cases this
  have hσ : ∀ j, j ∉ is → σ'[j]? = σ[j]? := fun j hj => by rw [← wipe_out (σ := σ') hj, hw, wipe_out hj]
  have hlen : σ'.length = σ.length := by rw [← wipe_length σ' is, hw, wipe_length]
  have out : ∀ {j s}, (backE ρ ρ' is)[j]? = some (some s) → s.own = true → j ∉ is ∧ ρ'[j]? = some (some s) := fun {j s} q ho => by
    by_cases hj : j ∈ is
    · have h1 := backE_own ρ ρ' is j hj s q
      have h2 := hno j hj
      rw [h1] at h2
      rw [show ownAt (some (some s)) = s.own from rfl, ho] at h2
      cases h2
    · exact ⟨hj, by rw [← backE_out ρ ρ' is j hj]; exact q⟩
  refine ⟨by rw [backE_len, S'.len, hlen], S.g0.trans e, S'.gh, fun a o h1 h2 => ?_, fun a o h1 => ?_, fun j s q => ?_, fun j k sj sk p q1 q2 o1 o2 a1 a2 => ?_, fun j s p q o1 a1 => ?_, fun j p f hj => ?_⟩
  · refine S'.fr a o (S.fr a o h1 h2) fun j f hj => ?_
    obtain ⟨s, r1, r2, r3, r4⟩ := mem_refsOf.mp hj
    rcases S.nw j s a r1 r2 r4 with z | ⟨f', z⟩
    · rw [h1] at z; cases z
    · exact h2 j f' z
  · rcases S'.gn a o h1 with z | z
    · exact S.gn a o z
    · exact .inr (S.fresh0 z)
  · by_cases hj : j ∈ is
    · have h1 := backE_own ρ ρ' is j hj s q
      obtain ⟨v, hv, r⟩ := S.sl j s h1
      have h2 := hno j hj
      rw [h1] at h2
      exact ⟨v, hv, r.keep e fun p u ho _ _ => by rw [show ownAt (some (some s)) = s.own from rfl, ho] at h2; cases h2⟩
    · rw [backE_out ρ ρ' is j hj] at q
      obtain ⟨v, hv, r⟩ := S'.sl j s q
      exact ⟨v, by rw [← hσ j hj]; exact hv, r⟩
  · obtain ⟨n1, q1⟩ := out q1 o1
    obtain ⟨n2, q2⟩ := out q2 o2
    exact S'.sp j k sj sk p q1 q2 o1 o2 (by rw [hσ j n1]; exact a1) (by rw [hσ k n2]; exact a2)
  · obtain ⟨n1, q⟩ := out q o1
    rcases S'.nw j s p q o1 (by rw [hσ j n1]; exact a1) with z | ⟨f, z⟩
    · exact .inl (S.fresh0 z)
    · obtain ⟨s', r1, r2, r3, r4⟩ := mem_refsOf.mp z
      exact S.nw j s' p r1 r2 r4
  · obtain ⟨h1, s, h2, h3, h4⟩ := S.rf j p f hj
    have n1 : j ∉ is := fun z => by
      have := hno j z
      rw [h2, show ownAt (some (some s)) = s.own from rfl, h3] at this
      cases this
    obtain ⟨g1, s', g2, g3, g4⟩ := S'.rf j p f (mem_refsOf.mpr ⟨s, h2, h3, h4, h1⟩)
    exact ⟨h1, s', by rw [backE_out ρ ρ' is j n1]; exact g2, g3, g4⟩
/-- an object apart is changed -/
theorem SIG.poke (S : SIG b c G ρ σ H) {p : Addr} {o : HO} (hg : G p = none) (h0 : c.H0 p = none) (no : NoOwn ρ σ p) : SIG b c G ρ σ (upd H p o) := by
  refine ⟨S.len, S.g0, fun a u e => by rw [upd_ne (ne_of_none e hg)]; exact S.gh a u e, fun a u e n => by rw [upd_ne (ne_of_none e h0)]; exact S.fr a u e n, S.gn, fun i sv e => ?_, S.sp, S.nw, S.rf⟩
  obtain ⟨v, hv, r⟩ := S.sl i sv e
  refine ⟨v, hv, r.keep (Same.refl G) fun q u ho ev hq => ?_⟩
  have hne : q ≠ p := fun z => no i sv e ho (by rw [hv, ev, z])
  obtain ⟨q', _, e', _, g'⟩ := r.at ho
  rw [ev] at e'
  cases e'
  exact ⟨by rw [upd_ne hne]; exact hq, g'⟩
theorem noOwn_back {is : List Nat} {D : Addr} (S : SIG b c G ρ σ H) (ha : anyOwn ρ is = false) (S' : SIG b (inner G H ρ σ) G' ρ' σ' H') (hw : L2.wipe σ' is = L2.wipe σ is) {o : HO} (hD : H D = some o) (no : NoOwn ρ σ D) : NoOwn (backE ρ ρ' is) σ D := fun j s q ho a1 => by
  by_cases hj : j ∈ is
  · have h1 := backE_own ρ ρ' is j hj s q
    exact no j s h1 ho a1
  · rw [backE_out ρ ρ' is j hj] at q
    have hσ : σ'[j]? = σ[j]? := by rw [← wipe_out (σ := σ') hj, hw, wipe_out hj]
    rcases S'.nw j s D q ho (by rw [hσ]; exact a1) with z | ⟨f, z⟩
    · rw [show (inner G H ρ σ).H0 D = H D from rfl, hD] at z
      cases z
    · obtain ⟨s', r1, r2, r3, r4⟩ := mem_refsOf.mp z
      exact no j s' r1 r2 r4
end
section
variable {X : Cx} {b : Bs} {W : WX} {fi : M (List Dt)} {t : Tgt} {ft : M Bool} {fe : M Av}
theorem lc_sound {σ : St} {H : Hp} {Q : VK} (h : tV b W (lcM fi t ft fe) σ H Q) : tLc (tI b W fi) (gRaw b.K t) (tT b W0 ft) (tE b W0 fe) t.slots σ H Q := by
  obtain ⟨c, G, ρ, S, q⟩ := h
  refine ⟨c, G, ρ, S, (Post.bind q).imp fun ds ρ1 G1 H1 e1 S1 q1 J hJ => ?_⟩
  intro D hD
  have h0 : c.H0 D = none := S1.fresh0 hD
  let P : Rv → Ev → Hp → Hp → Prop := fun r ρ' G' H' => ∀ v, RN b c G' H' v r → Apart ρ' σ v r → Q v H'
  refine ⟨fun i m H' => ∃ G' ρ' accV acc, Same G1 G' ∧ SIG b c G' ρ' σ H' ∧ i + m = ds.length ∧ H' D = some (.lst accV) ∧ G' D = none ∧ Rps b.K G' accV acc ∧ NoOwn ρ' σ D ∧ Post b c W G' σ P (bindM (compL t ft fe (ds.drop i) acc) (fun xs => retM (.l xs)) ρ'),
    ⟨ds.length, G1, ρ1, [], [], Same.refl _, S1.alloc hD, Nat.zero_add _, upd_same, S1.gh.free hD, .nil, S1.noOwn hD, q1⟩, ?_⟩
  rintro i m H' ⟨G', ρ', accV, acc, e', S', em, hA, gD, rA, no, q'⟩
  have gh : Same G1 H' := e'.trans S'.gh
  by_cases hi : i < ds.length
  · have ed : ds.drop i = ds[i] :: ds.drop (i + 1) := List.drop_eq_getElem_cons hi
    rw [ed] at q'
    refine .inr ⟨hJ.go i H' gh hi, fun H2 => ∃ G' ρ' accV acc, Same G1 G' ∧ SIG b c G' ρ' σ H2 ∧ H2 D = some (.lst accV) ∧ G' D = none ∧ Rps b.K G' accV acc ∧ NoOwn ρ' σ D ∧ Post b c W G' σ P (bindM (compL t ft fe (ds.drop (i + 1)) acc) (fun xs => retM (.l xs)) ρ'), ?_, fun x H2 hy => ?_⟩
    · rintro H2 ⟨G2, ρ2, av, ac, a1, a2, a3, a4, a5, a6, a7⟩
      exact ⟨m - 1, by omega, G2, ρ2, av, ac, a1, a2, by omega, a3, a4, a5, a6, a7⟩
    · obtain ⟨rfl, d, hd, rd⟩ := hJ.yl i H' x H2 gh hi hy
      have ed2 : d = ds[i] := by
        rw [List.getElem?_eq_getElem hi] at hd
        exact (Option.some.inj hd).symm
      rw [ed2] at rd
      rw [show compL t ft fe (ds[i] :: ds.drop (i + 1)) acc = bindM (stepL t ft fe ds[i]) (fun o => match o with
        | some x => if acc.length < 1000000 then compL t ft fe (ds.drop (i + 1)) (acc ++ [x]) else badM
        | none => compL t ft fe (ds.drop (i + 1)) acc) from rfl, bindM_assoc] at q'
      cases hs : stepL t ft fe ds[i] ρ' with
      | err k ρn => exact absurd hs stepL_noerr
      | bad => rw [bindM_bad hs] at q'; exact q'.elim
      | ok o ρn =>
        rw [bindM_ok hs] at q'
        obtain ⟨ha, ρ3, e3, bb, ρ4, e4, hcase⟩ := stepL_cases hs
        have S2 := (S'.enter).wipe t.slots ha
        refine putT_ok S2 (Rp.mono e' _ _ rd) e3 fun σ3 S3 hw => ?_
        have hw' : wipe σ3 t.slots = wipe σ t.slots := hw.trans (wipe_wipe σ t.slots t.slots fun _ z => z)
        refine ⟨hw', inner G' H2 ρ' σ, G', ρ3, S3, ?_⟩
        have fin : ∀ {G4 H4 ρ4}, Same G' G4 → SIG b (inner G' H2 ρ' σ) G4 ρ4 σ3 H4 → SIG b c G4 (backE ρ' ρ4 t.slots) σ H4 ∧ H4 D = some (.lst accV) ∧ G4 D = none ∧ NoOwn (backE ρ' ρ4 t.slots) σ D := fun {G4 H4 ρ4} e4 S4 => by
          refine ⟨S'.leave ha S4 e4 hw', S4.fr D _ hA fun j f hj => ?_, ?_, noOwn_back S' ha S4 hw' hA no⟩
          · obtain ⟨s, r1, r2, r3, r4⟩ := mem_refsOf.mp hj
            exact no j s r1 r2 r4
          · cases z : G4 D with
            | none => rfl
            | some o =>
              rcases S4.gn D o z with y | y
              · rw [show (inner G' H2 ρ' σ).G0 D = G' D from rfl, gD] at y; cases y
              · rw [show (inner G' H2 ρ' σ).H0 D = H2 D from rfl, hA] at y; cases y
        rw [e4]
        intro H4 G4 ee4 S4
        rcases hcase with ⟨rfl, rfl, rfl⟩ | ⟨rfl, a, ρ5, xx, e5, e6, rfl, rfl⟩
        · refine iteF ?_
          obtain ⟨f1, f2, f3, f4⟩ := fin ee4 S4
          exact ⟨G4, _, accV, acc, e'.trans ee4, f1, f2, f3, Rps.mono ee4 _ _ rA, f4, Post.mono ee4 q'⟩
        · refine iteT ⟨inner G' H2 ρ' σ, G4, ρ4, S4, ?_⟩
          rw [e5]
          intro H5 G5 ee5 S5 y hy'
          by_cases hl : acc.length < 1000000
          · have q3 : Post b c W G' σ P (bindM (compL t ft fe (ds.drop (i + 1)) (acc ++ [xx])) (fun xs => retM (.l xs)) (backE ρ' ρ5 t.slots)) := by
              dsimp only at q'
              rw [if_pos hl] at q'
              exact q'
            obtain ⟨f1, f2, f3, f4⟩ := fin (ee4.trans ee5) S5
            have hz : accV.length < sizeLine := by rw [rA.length]; exact Nat.lt_of_lt_of_le hl (by decide)
            refine ⟨accV, f2, hz, G5, _, accV ++ [y], acc ++ [xx], (e'.trans ee4).trans ee5, f1.poke f3 h0 f4, upd_same, f3, ?_, f4, Post.mono (ee4.trans ee5) q3⟩
            exact (Rps.mono (ee4.trans ee5) _ _ rA).append (.cons (hy'.fz S5 e6) .nil)
          · dsimp only at q'
            rw [if_neg hl] at q'
            exact q'.elim
  · have ei : i = ds.length := by omega
    subst ei
    refine .inl ⟨hJ.st H' gh, ?_⟩
    rw [List.drop_length] at q'
    exact q' H' G' (Same.refl _) S' (.ref D) ⟨D, accV, rfl, hA, gD, rA, h0⟩ fun p ep _ => by cases ep; exact no
theorem m_lc {elt tg iter : Expr} {ifs : List Expr} {scope : Scope} {own : List (Str × Nat)} {pos : Pos} (hK : X.K = b.K) (hv : own.map (·.2) = t.slots) (hc : X.calm = true) (hN : X.N.Nodup) (hi : PI X tg iter (tI b W fi)) (ok : BlkOk X.N X.env.scope scope own)
    (hg : ∀ (s : Shared) (H : Hp) (C : Addr) (cl : List (Str × Addr)) (fp : List Addr), PG (X.blk s H scope (compEnvC scope cl C X.env) fp) tg (gRaw X.K t))
    (ht : ∀ (s : Shared) (H : Hp) (C : Addr) (cl : List (Str × Addr)) (fp : List Addr), PTs (X.blk s H scope (compEnvC scope cl C X.env) fp) ifs (tT b W0 ft))
    (he : ∀ (s : Shared) (H : Hp) (C : Addr) (cl : List (Str × Addr)) (fp : List Addr), PE (X.blk s H scope (compEnvC scope cl C X.env) fp) elt (tE b W0 fe)) (hs : ∀ x, foldedSetIterable iter X.env x = pure x := by intro _; rfl) :
    PE X (.ListComp elt [⟨tg, iter, ifs, 0⟩] scope pos) (tV b W (lcM fi t ft fe)) := weakE (pe_lc hc hN hi ok hg ht he hs) fun σ H Q h => by
  rw [hv, hK]
  exact lc_sound h
theorem s_setLc {i : Nat} {y : Str} {py : Pos} {elt tg iter : Expr} {ifs : List Expr} {scope : Scope} {own : List (Str × Nat)} {pos spos : Pos} (hK : X.K = b.K) (hv : own.map (·.2) = t.slots) (hc : X.calm = true) (hN : X.N.Nodup) (hy : X.N[i]? = some y) (hyl : X.env.scope.names.lookup y = some .local)
    (hsw : swapsWith (.ListComp elt [⟨tg, iter, ifs, 0⟩] scope pos) (some (.Name y py)) spos.line X.env = pure true) (hi : PI X tg iter (tI b W fi)) (ok : BlkOk X.N X.env.scope scope own)
    (hg : ∀ (s : Shared) (H : Hp) (C : Addr) (cl : List (Str × Addr)) (fp : List Addr), PG (X.blk s H scope (compEnvC scope cl C X.env) fp) tg (gRaw X.K t))
    (ht : ∀ (s : Shared) (H : Hp) (C : Addr) (cl : List (Str × Addr)) (fp : List Addr), PTs (X.blk s H scope (compEnvC scope cl C X.env) fp) ifs (tT b W0 ft))
    (he : ∀ (s : Shared) (H : Hp) (C : Addr) (cl : List (Str × Addr)) (fp : List Addr), PE (X.blk s H scope (compEnvC scope cl C X.env) fp) elt (tE b W0 fe)) (hs : ∀ x, foldedSetIterable iter X.env x = pure x := by intro _; rfl) :
    PS X (.Assign [.Name y py] (.ListComp elt [⟨tg, iter, ifs, 0⟩] scope pos) spos) (tS b W (setM i (lcM fi t ft fe))) := weakS (ps_setLc hc hN hy hyl hsw hi ok hg ht he hs) fun D σ H h => by
  rw [hv, hK]
  exact lc_sound (setM_core h)
theorem ts_nil : PTs X [] (tT b W (retM true)) := ⟨fun pins s σ H Q I ⟨c, G, ρ, S, q⟩ => pts_nil.run pins s σ H Q I (q H G (Same.refl G) S)⟩
theorem ts_one {c : Expr} (h : PT X c (tT b W ft)) : PTs X [c] (tT b W ft) := pts_one h
end
end G8
namespace G8
open PySem L2
/-! defs: what they do, calls -/
abbrev Fn := List Sv → Out Rv
def svsE (svs : List Sv) : Ev := svs.map some
def vsE (vs : List V) : St := vs.map some
def ctx0 (G H : Hp) (svs : List Sv) (vs : List V) : Fc := inner G H (svsE svs) (vsE vs)
def PostF (b : Bs) (c : Fc) (vs : List V) (Q : VK) (E : XK) : Out Rv → Prop
  | .ok r outs => ∀ v H' G', SIG b c G' outs (vsE vs) H' → RN b c G' H' v r → Q v H'
  | .err k outs => ∀ H' G', SIG b c G' outs (vsE vs) H' → E (.ref (b.C k)) none H'
  | .bad => False
def spF (b : Bs) (n : Nat) (F : Fn) : Sp := fun vs H Q E => ∃ G svs, vs.length = n ∧ SIG b (ctx0 G H svs vs) G (svsE svs) (vsE vs) H ∧ (∀ s ∈ svs, s.own = true → s.isRef = true) ∧ PostF b (ctx0 G H svs vs) vs Q E (F svs)
def finE : List Sv → Ev → Ev
  | [], _ => []
  | s :: ss, ρ => (if s.isRef then (ρ.head?).getD none else none) :: finE ss ρ.tail
def bodyF (n : Nat) (f : M Fl) : Fn := fun svs => match f (svsE svs ++ List.replicate (n - svs.length) none) with
  | .ok (.rt r) ρ => .ok r (finE svs ρ)
  | .ok .nx ρ => .ok (.d .none) (finE svs ρ)
  | .ok _ _ => .bad
  | .err k ρ => .err k (finE svs ρ)
  | .bad => .bad
theorem finE_len : ∀ (svs : List Sv) (ρ : Ev), (finE svs ρ).length = svs.length
  | [], _ => rfl
  | s :: ss, ρ => by unfold finE; rw [List.length_cons, List.length_cons, finE_len ss]
theorem finE_get : ∀ (svs : List Sv) (ρ : Ev) (i : Nat), (finE svs ρ)[i]? = (svs[i]?).map fun s => if s.isRef then (ρ[i]?).getD none else none
  | [], _, i => by simp [finE]
  | s :: ss, ρ, 0 => by
    unfold finE
    cases ρ <;> simp
  | s :: ss, ρ, i + 1 => by
    unfold finE
    rw [List.getElem?_cons_succ, finE_get ss ρ.tail i, List.getElem?_cons_succ]
    cases ρ <;> simp
section
variable {b : Bs} {c : Fc} {G G' H H' : Hp} {svs : List Sv} {vs : List V} {ρ : Ev} {σ : St}
theorem svsE_get {i : Nat} {s : Sv} : (svsE svs)[i]? = some (some s) ↔ svs[i]? = some s := by
  unfold svsE
  rw [List.getElem?_map]
  cases svs[i]? <;> simp
theorem SIG.exit (S : SIG b (ctx0 G H svs vs) G (svsE svs) (vsE vs) H) (hm : ∀ s ∈ svs, s.own = true → s.isRef = true) (S' : SIG b (ctx0 G H svs vs) G' ρ σ H') : SIG b (ctx0 G H svs vs) G' (finE svs ρ) (vsE vs) H' := by
  have key : ∀ {i s}, (finE svs ρ)[i]? = some (some s) → ∃ p, (i, p, true) ∈ (ctx0 G H svs vs).refs ∧ (vsE vs)[i]? = some (some (.ref p)) ∧ σ[i]? = some (some (.ref p)) ∧ ρ[i]? = some (some s) := fun {i s} e => by
    rw [finE_get] at e
    cases q : svs[i]? with
    | none => rw [q] at e; cases e
    | some s0 =>
      rw [q] at e
      have e : some (if s0.isRef = true then (ρ[i]?).getD none else none) = some (some s) := e
      cases hr : s0.isRef with
      | false => rw [hr, if_neg Bool.false_ne_true] at e; cases e
      | true =>
        rw [hr, if_pos rfl] at e
        have ho := own_of_ref hr
        obtain ⟨v, hv, rs⟩ := S.sl i s0 (svsE_get.mpr q)
        obtain ⟨p, o, rfl, _, _⟩ := rs.at ho
        have hmem : (i, p, true) ∈ (ctx0 G H svs vs).refs := mem_refsOf.mpr ⟨s0, svsE_get.mpr q, ho, hr, hv⟩
        obtain ⟨h1, sv, h2, h3, h4⟩ := S'.rf i p true hmem
        rw [h2] at e
        cases e
        exact ⟨p, hmem, hv, h1, h2⟩
  refine ⟨?_, S'.g0, S'.gh, S'.fr, S'.gn, fun i s e => ?_, fun i j si sj p e1 e2 o1 o2 a1 a2 => ?_, fun i s p e o1 a1 => ?_, fun i p f hi => ?_⟩
  · rw [finE_len]
    have := S.len
    unfold svsE at this
    rw [List.length_map] at this
    exact this
  · obtain ⟨p, _, h1, h2, h3⟩ := key e
    obtain ⟨v, hv, r⟩ := S'.sl i s h3
    rw [h2] at hv
    cases hv
    exact ⟨.ref p, h1, r⟩
  · obtain ⟨p1, _, h1, h2, h3⟩ := key e1
    obtain ⟨p2, _, g1, g2, g3⟩ := key e2
    rw [h1] at a1
    rw [g1] at a2
    cases a1
    cases a2
    exact S'.sp i j si sj p h3 g3 o1 o2 h2 g2
  · obtain ⟨p1, hm1, h1, h2, h3⟩ := key e
    rw [h1] at a1
    cases a1
    exact .inr ⟨true, hm1⟩
  · obtain ⟨h1, sv, h2, h3, h4⟩ := S'.rf i p f hi
    obtain ⟨s0, r1, r2, r3, r4⟩ := mem_refsOf.mp hi
    refine ⟨r4, sv, ?_, h3, h4⟩
    have r1' := svsE_get.mp r1
    rw [finE_get, r1']
    show some (if s0.isRef = true then (ρ[i]?).getD none else none) = some (some sv)
    rw [if_pos (hm s0 (List.mem_of_getElem? r1') r2), h2]
    rfl
theorem SIG.pad (S : SIG b c G ρ σ H) (n : Nat) : SIG b c G (ρ ++ List.replicate n none) (σ ++ List.replicate n none) H := by
  have key : ∀ {i : Nat} {s : Sv}, (ρ ++ List.replicate n none)[i]? = some (some s) → ρ[i]? = some (some s) ∧ (σ ++ List.replicate n none)[i]? = σ[i]? := fun {i s} e => by
    by_cases hi : i < ρ.length
    · rw [List.getElem?_append_left hi] at e
      exact ⟨e, List.getElem?_append_left (by rw [← S.len]; exact hi)⟩
    · rw [List.getElem?_append_right (by omega), List.getElem?_replicate] at e
      split at e <;> cases e
  refine ⟨by rw [List.length_append, List.length_append, S.len, List.length_replicate, List.length_replicate], S.g0, S.gh, S.fr, S.gn, fun i s e => ?_, fun i j si sj p e1 e2 o1 o2 a1 a2 => ?_, fun i s p e o1 a1 => ?_, fun i p f hi => ?_⟩
  · obtain ⟨h1, h2⟩ := key e
    obtain ⟨v, hv, r⟩ := S.sl i s h1
    exact ⟨v, by rw [h2]; exact hv, r⟩
  · obtain ⟨h1, h2⟩ := key e1
    obtain ⟨g1, g2⟩ := key e2
    rw [h2] at a1
    rw [g2] at a2
    exact S.sp i j si sj p h1 g1 o1 o2 a1 a2
  · obtain ⟨h1, h2⟩ := key e
    rw [h2] at a1
    exact S.nw i s p h1 o1 a1
  · obtain ⟨h1, sv, h2, h3, h4⟩ := S.rf i p f hi
    have hl := (List.getElem?_eq_some_iff.mp h2).1
    exact ⟨by rw [List.getElem?_append_left (by rw [← S.len]; exact hl)]; exact h1, sv, by rw [List.getElem?_append_left hl]; exact h2, h3, h4⟩
end
theorem start_eq (N : List Str) (vs : List V) : start N vs = vsE vs ++ List.replicate (N.length - vs.length) none := rfl
section
variable {P : Program} {w : World} {K : Fg} {mg : Str → Option Value} {base : Heap} {x qual : Str} {params : Arguments} {body : List Stmt} {scope : Scope} {f : Addr} {fd : FuncData} {b : Bs}
/-- what is wanted of exceptions in a def's body -/
abbrev WF (E : XK) : WX := fun cls d _ H => E cls d H
theorem fn_body {N ps : List Str} {k : Nat} {g : M Fl} (F : FunD K x qual params body scope [] [] f fd) (S : FnScope N ps scope)
    (hd : ∀ (cdv : Value) (A : Around) (outer : List Env) (s : Shared) (H : Hp) (E : XK), Room k (A.deeper (PyProof.Rows.envOfC qual scope s.heap.objs.size f cdv)) →
      PSs (cxOf (L2.CX P w) P w K mg base N qual scope f cdv A outer s H E) body (tS b (WF E) g)) : FnOk P w K mg base (L2.CX P w) (k + 1) f fd ps (spF b ps.length (bodyF N.length g)) := by
  refine F.ok S (fun vs H Q E h => ?_) (fun cdv A outer s H vs Q E hr h => ⟨_, hd cdv A outer s H E hr, ?_⟩)
  · obtain ⟨G, svs, h1, _⟩ := h
    exact h1
  · obtain ⟨G, svs, hl, S0, hm, q⟩ := h
    have hlen : svs.length = vs.length := by
      have := S0.len
      unfold svsE vsE at this
      rw [List.length_map, List.length_map] at this
      exact this
    have S1 := S0.pad (N.length - vs.length)
    rw [← start_eq] at S1
    refine ⟨ctx0 G H svs vs, G, _, fun i p fl hi => ?_, S1, ?_⟩
    · obtain ⟨s0, r1, r2, r3, r4⟩ := mem_refsOf.mp hi
      rw [← r3]
      exact hm s0 (List.mem_of_getElem? (svsE_get.mp r1)) r2
    · unfold bodyF at q
      rw [hlen] at q
      cases e : g (svsE svs ++ List.replicate (N.length - vs.length) none) with
      | bad => rw [e] at q; exact q.elim
      | err kk ρ =>
        rw [e] at q
        exact fun σ' H' G' e' S' => q H' G' (S0.exit hm S')
      | ok fl ρ =>
        rw [e] at q
        cases fl with
        | nx => exact fun σ' H' G' e' S' => q .non H' G' (S0.exit hm S') .non
        | bk => exact q.elim
        | ct => exact q.elim
        | rt r => exact fun v σ' H' G' e' S' rn => q v H' G' (S0.exit hm S') rn
end
/-! the caller's side -/
def posOf (i : Nat) : List Av → Option Nat
  | [] => none
  | .d _ :: as => (posOf i as).map (· + 1)
  | .s k :: as => if k = i then some 0 else (posOf i as).map (· + 1)
def wb1 (as : List Av) (outs : Ev) (i : Nat) : Option Sv → Option Sv
  | none => none
  | some s => if s.own then (match posOf i as with
    | some j => (match outs[j]? with
      | some (some s') => some (s'.mark s.isRef)
      | _ => some s)
    | none => some s) else some s
def writeBack (ρ : Ev) (as : List Av) (outs : Ev) : Ev := ρ.mapIdx fun i o => wb1 as outs i o
def resolve (ρ : Ev) : List Av → Option (List Sv)
  | [] => some []
  | .d x :: as => (resolve ρ as).map fun r => .d x :: r
  | .s i :: as => match ρ[i]? with
    | some (some s) => (resolve ρ as).map fun r => s.mark true :: r
    | _ => none
def hasS (i : Nat) : List Av → Bool
  | [] => false
  | .d _ :: as => hasS i as
  | .s k :: as => decide (k = i) || hasS i as
def okArgs (ρ : Ev) : List Av → Bool
  | [] => true
  | .d _ :: as => okArgs ρ as
  | .s i :: as => (!ownAt ρ[i]? || !hasS i as) && okArgs ρ as
def callF (n : Nat) (F : Fn) (as : List Av) : M Rv := fun ρ => if as.length = n ∧ okArgs ρ as = true then (match resolve ρ as with
  | none => .bad
  | some svs => (match F svs with
    | .ok r outs => .ok r (writeBack ρ as outs)
    | .err k outs => .err k (writeBack ρ as outs)
    | .bad => .bad)) else .bad
def callM (n : Nat) (F : Fn) (fl : M (List Av)) : M Rv := bindM fl fun as => callF n F as
theorem hasS_of : ∀ {as : List Av} {j i : Nat}, as[j]? = some (.s i) → hasS i as = true
  | [], _, _, h => by simp at h
  | .d _ :: as, 0, _, h => by simp at h
  | .d _ :: as, j + 1, i, h => hasS_of (as := as) (j := j) (by simpa using h)
  | .s k :: as, 0, i, h => by
    simp at h
    subst h
    simp [hasS]
  | .s k :: as, j + 1, i, h => by
    have := hasS_of (as := as) (j := j) (i := i) (by simpa using h)
    simp [hasS, this]
theorem okArgs_uniq {ρ : Ev} : ∀ {as : List Av} {j k i : Nat}, okArgs ρ as = true → ownAt ρ[i]? = true → as[j]? = some (.s i) → as[k]? = some (.s i) → j = k
  | [], _, _, _, _, _, h, _ => by simp at h
  | .d _ :: as, 0, _, _, _, _, h, _ => by simp at h
  | .d _ :: as, _ + 1, 0, _, _, _, _, h => by simp at h
  | .d _ :: as, j + 1, k + 1, i, hk, ho, h1, h2 => by
    rw [okArgs_uniq (as := as) (j := j) (k := k) (i := i) hk ho (by simpa using h1) (by simpa using h2)]
  | .s m :: as, 0, 0, _, _, _, _, _ => rfl
  | .s m :: as, 0, k + 1, i, hk, ho, h1, h2 => by
    simp at h1
    subst h1
    unfold okArgs at hk
    rw [ho, hasS_of (as := as) (j := k) (i := m) (by simpa using h2)] at hk
    simp at hk
  | .s m :: as, j + 1, 0, i, hk, ho, h1, h2 => by
    simp at h2
    subst h2
    unfold okArgs at hk
    rw [ho, hasS_of (as := as) (j := j) (i := m) (by simpa using h1)] at hk
    simp at hk
  | .s m :: as, j + 1, k + 1, i, hk, ho, h1, h2 => by
    unfold okArgs at hk
    rw [Bool.and_eq_true] at hk
    rw [okArgs_uniq (as := as) (j := j) (k := k) (i := i) hk.2 ho (by simpa using h1) (by simpa using h2)]
theorem posOf_some : ∀ {as : List Av} {i j : Nat}, posOf i as = some j → as[j]? = some (.s i)
  | [], _, _, h => by cases h
  | .d x :: as, i, j, h => by
    have h : (posOf i as).map (· + 1) = some j := h
    cases q : posOf i as with
    | none => rw [q] at h; cases h
    | some k =>
      rw [q] at h
      cases h
      rw [List.getElem?_cons_succ]
      exact posOf_some q
  | .s m :: as, i, j, h => by
    unfold posOf at h
    split at h
    · rename_i e
      cases h
      rw [e]
      rfl
    · cases q : posOf i as with
      | none => rw [q] at h; cases h
      | some k =>
        rw [q] at h
        cases h
        rw [List.getElem?_cons_succ]
        exact posOf_some q
theorem posOf_none : ∀ {as : List Av} {i j : Nat}, posOf i as = none → as[j]? ≠ some (.s i)
  | [], _, _, _ => by simp
  | .d x :: as, i, 0, _ => by simp
  | .d x :: as, i, j + 1, h => by
    have h : (posOf i as).map (· + 1) = none := h
    rw [List.getElem?_cons_succ]
    exact posOf_none (by cases q : posOf i as with
      | none => rfl
      | some k => rw [q] at h; cases h)
  | .s m :: as, i, j, h => by
    unfold posOf at h
    split at h
    · cases h
    · rename_i hne
      cases j with
      | zero =>
        simp
        exact hne
      | succ j =>
        rw [List.getElem?_cons_succ]
        exact posOf_none (by cases q : posOf i as with
          | none => rfl
          | some k => rw [q] at h; cases h)
theorem resolve_get {ρ : Ev} : ∀ {as : List Av} {svs : List Sv} {j : Nat}, resolve ρ as = some svs → (svs[j]? = none ∧ as[j]? = none) ∨ (∃ x, as[j]? = some (.d x) ∧ svs[j]? = some (.d x)) ∨ ∃ i s, as[j]? = some (.s i) ∧ ρ[i]? = some (some s) ∧ svs[j]? = some (s.mark true)
  | [], svs, j, h => by
    cases h
    exact .inl ⟨by simp, by simp⟩
  | .d x :: as, svs, j, h => by
    have h : (resolve ρ as).map (fun r => Sv.d x :: r) = some svs := h
    cases q : resolve ρ as with
    | none => rw [q] at h; cases h
    | some r =>
      rw [q] at h
      cases h
      cases j with
      | zero => exact .inr (.inl ⟨x, rfl, rfl⟩)
      | succ j =>
        rw [List.getElem?_cons_succ, List.getElem?_cons_succ]
        exact resolve_get q
  | .s i :: as, svs, j, h => by
    unfold resolve at h
    split at h
    · rename_i s hs
      cases q : resolve ρ as with
      | none => rw [q] at h; cases h
      | some r =>
        rw [q] at h
        cases h
        cases j with
        | zero => exact .inr (.inr ⟨i, s, rfl, hs, rfl⟩)
        | succ j =>
          rw [List.getElem?_cons_succ, List.getElem?_cons_succ]
          exact resolve_get q
    · cases h
theorem resolve_len {ρ : Ev} : ∀ {as : List Av} {svs : List Sv}, resolve ρ as = some svs → svs.length = as.length
  | [], svs, h => by cases h; rfl
  | .d x :: as, svs, h => by
    have h : (resolve ρ as).map (fun r => Sv.d x :: r) = some svs := h
    cases q : resolve ρ as with
    | none => rw [q] at h; cases h
    | some r =>
      rw [q] at h
      cases h
      rw [List.length_cons, List.length_cons, resolve_len q]
  | .s i :: as, svs, h => by
    unfold resolve at h
    split at h
    · cases q : resolve ρ as with
      | none => rw [q] at h; cases h
      | some r =>
        rw [q] at h
        cases h
        rw [List.length_cons, List.length_cons, resolve_len q]
    · cases h
theorem ras_get {K : Fg} {G : Hp} {σ : St} : ∀ {vs : List V} {as : List Av} {j : Nat} {a : Av}, Ras K G σ vs as → as[j]? = some a → ∃ v, vs[j]? = some v ∧ RA K G σ v a
  | _, [], _, _, _, e => by simp at e
  | _, a :: as, 0, x, h, e => by
    cases h with
    | cons h1 h2 =>
      simp at e
      subst e
      exact ⟨_, rfl, h1⟩
  | _, a :: as, j + 1, x, h, e => by
    cases h with
    | cons h1 h2 =>
      obtain ⟨v, q, r⟩ := ras_get (j := j) h2 (by simpa using e)
      exact ⟨v, by simpa using q, r⟩
theorem vsE_get {vs : List V} {i : Nat} {v : V} : (vsE vs)[i]? = some (some v) ↔ vs[i]? = some v := by
  unfold vsE
  rw [List.getElem?_map]
  cases vs[i]? <;> simp
section
variable {b : Bs} {c : Fc} {G G' H H' : Hp} {ρ outs : Ev} {σ : St} {as : List Av} {svs : List Sv} {vs : List V}
/-- where an own argument comes from -/
theorem arg_own (S : SIG b c G ρ σ H) (r : Ras b.K G σ vs as) (hr : resolve ρ as = some svs) {j : Nat} {s : Sv} (e : svs[j]? = some s) (ho : s.own = true) : ∃ i s0, as[j]? = some (.s i) ∧ ρ[i]? = some (some s0) ∧ s0.own = true ∧ s = s0.mark true ∧ ∃ p, vs[j]? = some (.ref p) ∧ σ[i]? = some (some (.ref p)) := by
  rcases resolve_get (j := j) hr with ⟨z, _⟩ | ⟨x, _, z⟩ | ⟨i, s0, h1, h2, h3⟩
  · rw [z] at e; cases e
  · rw [z] at e; cases e; cases ho
  · rw [h3] at e
    cases e
    rw [own_mark] at ho
    obtain ⟨v, hv, ra⟩ := ras_get r h1
    obtain ⟨u, hu, rs⟩ := S.sl i s0 h2
    have ra : σ[i]? = some (some v) := ra
    rw [ra] at hu
    cases hu
    obtain ⟨p, o, rfl, _, _⟩ := rs.at ho
    exact ⟨i, s0, h1, h2, ho, rfl, p, hv, ra⟩
theorem SIG.give (S : SIG b c G ρ σ H) (r : Ras b.K G σ vs as) (hk : okArgs ρ as = true) (hr : resolve ρ as = some svs) : SIG b (ctx0 G H svs vs) G (svsE svs) (vsE vs) H := by
  have hlen : svs.length = vs.length := (resolve_len hr).trans (Paired.length r).symm
  have base : SIG b ⟨G, H, refsOf (svsE svs) (vsE vs)⟩ G (svsE svs) (vsE vs) H := by
    refine ⟨by unfold svsE vsE; rw [List.length_map, List.length_map, hlen], Same.refl _, S.gh, fun a o e _ => e, fun a o e => .inl e, fun j s e => ?_, fun j k sj sk p e1 e2 o1 o2 a1 a2 => ?_, fun j s p e o1 a1 => .inr ⟨_, mem_refsOf.mpr ⟨s, e, o1, rfl, a1⟩⟩, fun j p f hj => ?_⟩
    · have e := svsE_get.mp e
      rcases resolve_get (j := j) hr with ⟨z, _⟩ | ⟨x, z1, z⟩ | ⟨i, s0, h1, h2, h3⟩
      · rw [z] at e; cases e
      · rw [z] at e
        cases e
        obtain ⟨v, hv, ra⟩ := ras_get r z1
        exact ⟨v, vsE_get.mpr hv, ra⟩
      · rw [h3] at e
        cases e
        obtain ⟨v, hv, ra⟩ := ras_get r h1
        obtain ⟨u, hu, rs⟩ := S.sl i s0 h2
        have ra : σ[i]? = some (some v) := ra
        rw [ra] at hu
        cases hu
        exact ⟨v, vsE_get.mpr hv, rs.mark true⟩
    · obtain ⟨i, s0, h1, h2, h3, _, q, h4, h5⟩ := arg_own S r hr (svsE_get.mp e1) o1
      obtain ⟨i', s0', g1, g2, g3, _, q', g4, g5⟩ := arg_own S r hr (svsE_get.mp e2) o2
      rw [vsE_get.mpr h4] at a1
      rw [vsE_get.mpr g4] at a2
      cases a1
      cases a2
      have ei := S.sp i i' s0 s0' p h2 g2 h3 g3 h5 g5
      subst ei
      exact okArgs_uniq hk (by rw [h2]; exact h3) h1 g1
    · obtain ⟨s, h1, h2, h3, h4⟩ := mem_refsOf.mp hj
      exact ⟨h4, s, h1, h2, h3⟩
  exact base
theorem wb_get (i : Nat) : (writeBack ρ as outs)[i]? = (ρ[i]?).map (wb1 as outs i) := by
  unfold writeBack
  rw [List.getElem?_mapIdx]
/-- behind the call -/
theorem SIG.take (S : SIG b c G ρ σ H) (r : Ras b.K G σ vs as) (hk : okArgs ρ as = true) (hr : resolve ρ as = some svs) (S' : SIG b (ctx0 G H svs vs) G' outs (vsE vs) H') : SIG b c G' (writeBack ρ as outs) σ H' := by
  -- a slot behind the call: as it was, or lent
  have lent : ∀ {i : Nat} {s0 : Sv} {p : Addr}, ρ[i]? = some (some s0) → s0.own = true → σ[i]? = some (some (.ref p)) → (∃ j s', posOf i as = some j ∧ outs[j]? = some (some s') ∧ s'.own = true ∧ (vsE vs)[j]? = some (some (.ref p)) ∧ (writeBack ρ as outs)[i]? = some (some (s'.mark s0.isRef))) ∨
      ((∀ j f, (j, p, f) ∉ (ctx0 G H svs vs).refs) ∧ (writeBack ρ as outs)[i]? = some (some s0)) := fun {i s0 p} h1 h2 h3 => by
    cases q : posOf i as with
    | some j =>
      have hj := posOf_some q
      obtain ⟨v, hv, ra⟩ := ras_get r hj
      have ra : σ[i]? = some (some v) := ra
      rw [ra] at h3
      cases h3
      have hs : svs[j]? = some (s0.mark true) := by
        rcases resolve_get (j := j) hr with ⟨_, z⟩ | ⟨x, z, _⟩ | ⟨i', s', z1, z2, z3⟩
        · rw [hj] at z; cases z
        · rw [hj] at z; cases z
        · rw [hj] at z1
          cases z1
          rw [h1] at z2
          cases z2
          exact z3
      have hm : (j, p, true) ∈ (ctx0 G H svs vs).refs := mem_refsOf.mpr ⟨_, svsE_get.mpr hs, by rw [own_mark]; exact h2, ref_mark h2, vsE_get.mpr hv⟩
      obtain ⟨g1, s', g2, g3, g4⟩ := S'.rf j p true hm
      refine .inl ⟨j, s', rfl, g2, g3, g1, ?_⟩
      rw [wb_get, h1]
      show some (wb1 as outs i (some s0)) = _
      unfold wb1
      dsimp only
      rw [if_pos h2, q]
      dsimp only
      rw [g2]
    | none =>
      refine .inr ⟨fun j f hj => ?_, ?_⟩
      · obtain ⟨s, r1, r2, r3, r4⟩ := mem_refsOf.mp hj
        obtain ⟨i', s', g1, g2, g3, _, p', g4, g5⟩ := arg_own S r hr (svsE_get.mp r1) r2
        rw [vsE_get.mpr g4] at r4
        cases r4
        have := S.sp i i' s0 s' p h1 g2 h2 g3 h3 g5
        subst this
        exact posOf_none q g1
      · rw [wb_get, h1]
        show some (wb1 as outs i (some s0)) = _
        unfold wb1
        dsimp only
        rw [if_pos h2, q]
  have back : ∀ {i : Nat} {s : Sv}, (writeBack ρ as outs)[i]? = some (some s) → ∃ s0 : Sv, ρ[i]? = some (some s0) ∧ s.own = s0.own ∧ (s0.own = false → s = s0) ∧ (s0.own = true → s.isRef = s0.isRef) := fun {i s} e => by
    have e0 := e
    rw [wb_get] at e
    cases q : ρ[i]? with
    | none => rw [q] at e; cases e
    | some o =>
      cases o with
      | none => rw [q] at e; cases e
      | some s0 =>
        refine ⟨s0, rfl, ?_⟩
        cases ho : s0.own with
        | false =>
          rw [q] at e
          have e : some (wb1 as outs i (some s0)) = some (some s) := e
          unfold wb1 at e
          dsimp only at e
          rw [ho, if_neg Bool.false_ne_true] at e
          cases e
          exact ⟨ho, fun _ => rfl, fun z => by cases z⟩
        | true =>
          obtain ⟨v, hv, rs⟩ := S.sl i s0 q
          obtain ⟨p, o, rfl, _, _⟩ := rs.at ho
          rcases lent q ho hv with ⟨j, s', h1, h2, h3, h4, h5⟩ | ⟨_, h5⟩
          · rw [h5] at e0
            cases e0
            exact ⟨by rw [own_mark]; exact h3, (fun z => by cases z), fun _ => ref_mark h3⟩
          · rw [h5] at e0
            cases e0
            exact ⟨ho, (fun z => by cases z), fun _ => rfl⟩
  have frz : ∀ {p o}, G p = none → H p = some o → G' p = none := fun {p o} g1 h1 => by
    cases z : G' p with
    | none => rfl
    | some u =>
      rcases S'.gn p u z with y | y
      · rw [show (ctx0 G H svs vs).G0 p = G p from rfl, g1] at y; cases y
      · rw [show (ctx0 G H svs vs).H0 p = H p from rfl, h1] at y; cases y
  have sGG : Same G G' := S'.g0
  refine ⟨by unfold writeBack; rw [List.length_mapIdx]; exact S.len, S.g0.trans sGG, S'.gh, fun a o h1 h2 => ?_, fun a o h1 => ?_, fun i s e => ?_, fun i j si sj p e1 e2 o1 o2 a1 a2 => ?_, fun i s p e o1 a1 => ?_, fun i p f hi => ?_⟩
  · refine S'.fr a o (S.fr a o h1 h2) fun j f hj => ?_
    obtain ⟨s, r1, r2, r3, r4⟩ := mem_refsOf.mp hj
    obtain ⟨i', s', g1, g2, g3, _, p', g4, g5⟩ := arg_own S r hr (svsE_get.mp r1) r2
    rw [vsE_get.mpr g4] at r4
    cases r4
    rcases S.nw i' s' a g2 g3 g5 with z | ⟨f', z⟩
    · rw [h1] at z; cases z
    · exact h2 i' f' z
  · rcases S'.gn a o h1 with z | z
    · exact S.gn a o z
    · exact .inr (S.fresh0 z)
  · obtain ⟨s0, h0, h1, h2, h3⟩ := back e
    obtain ⟨v, hv, rs⟩ := S.sl i s0 h0
    refine ⟨v, hv, ?_⟩
    cases ho : s0.own with
    | false =>
      rw [h2 ho]
      exact rs.keep sGG fun p u z _ _ => by rw [ho] at z; cases z
    | true =>
      obtain ⟨p, o, rfl, hp, gp⟩ := rs.at ho
      rcases lent h0 ho hv with ⟨j, s', q1, q2, q3, q4, q5⟩ | ⟨q1, q5⟩
      · rw [q5] at e
        cases e
        obtain ⟨u, hu, ru⟩ := S'.sl j s' q2
        rw [q4] at hu
        cases hu
        exact ru.mark _
      · rw [q5] at e
        cases e
        refine rs.keep sGG fun p' u _ ev hq => ?_
        cases ev
        exact ⟨S'.fr p u hq q1, frz gp hq⟩
  · obtain ⟨s0, h0, h1, _⟩ := back e1
    obtain ⟨s1, g0, g1, _⟩ := back e2
    exact S.sp i j s0 s1 p h0 g0 (by rw [← h1]; exact o1) (by rw [← g1]; exact o2) a1 a2
  · obtain ⟨s0, h0, h1, _⟩ := back e
    exact S.nw i s0 p h0 (by rw [← h1]; exact o1) a1
  · obtain ⟨h1, s0, h2, h3, h4⟩ := S.rf i p f hi
    rcases lent h2 h3 h1 with ⟨j, s', q1, q2, q3, q4, q5⟩ | ⟨q1, q5⟩
    · exact ⟨h1, _, q5, by rw [own_mark]; exact q3, by rw [ref_mark q3]; exact h4⟩
    · exact ⟨h1, s0, q5, h3, h4⟩
theorem own_back (S : SIG b c G ρ σ H) {i : Nat} {s : Sv} (e : (writeBack ρ as outs)[i]? = some (some s)) (ho : s.own = true) : ∃ s0, ρ[i]? = some (some s0) ∧ s0.own = true := by
  rw [wb_get] at e
  cases q : ρ[i]? with
  | none => rw [q] at e; cases e
  | some o =>
    cases o with
    | none => rw [q] at e; cases e
    | some s0 =>
      refine ⟨s0, rfl, ?_⟩
      cases h0 : s0.own with
      | true => rfl
      | false =>
        rw [q] at e
        have e : some (wb1 as outs i (some s0)) = some (some s) := e
        unfold wb1 at e
        dsimp only at e
        rw [h0, if_neg Bool.false_ne_true] at e
        cases e
        rw [h0] at ho
        cases ho
end
theorem rn_inner {b : Bs} {c : Fc} {G G' H H' : Hp} {ρ : Ev} {σ : St} {v : V} {r : Rv} {refs : List (Nat × Addr × Bool)} (S : SIG b c G ρ σ H) (h : RN b ⟨G, H, refs⟩ G' H' v r) : RN b c G' H' v r := by
  cases r with
  | d x => exact h
  | l xs => obtain ⟨p, vs, h1, h2, h3, h4, h5⟩ := h; exact ⟨p, vs, h1, h2, h3, h4, S.fresh0 h5⟩
  | k xs => obtain ⟨p, vs, h1, h2, h3, h4, h5⟩ := h; exact ⟨p, vs, h1, h2, h3, h4, S.fresh0 h5⟩
  | t xs => obtain ⟨p, vs, h1, h2, h3, h4, h5⟩ := h; exact ⟨p, vs, h1, h2, h3, h4, S.fresh0 h5⟩
section
variable {X : Cx} {b : Bs} {W : WX} {k n : Nat} {f : Addr} {fd : FuncData} {ps : List Str} {F : Fn} {x : Str} {p pos : Pos} {e : Expr} {es : List Expr} {fl : M (List Av)}
theorem m_call (FN : FnOk X.prog X.w X.K X.mg X.base (L2.CX X.prog X.w) k f fd ps (spF b n F)) (hr : Room k X.A) (hg : Gl X x) (hm : X.mg x = some (.ref f)) (hk : PySem.W.keepIn X.K (.ref f) = true) (hb : Binds X.K fd ps []) (tk : Takes X W)
    (ha : PA X (e :: es) (tL b W fl)) (hdb : (x == ("__debug__" : Str)) = false := by decide) (he : starEach (e :: es) X.env = (false, eval e X.env) :: starEach es X.env := by rfl) (hpl : (backTo pos (starEach es X.env)).any (·.1) = false := by rfl) :
    PE X (.Call (.Name x p) (e :: es) [] pos) (tV b W (callM n F fl)) := weakE (pe_callS (E := WE W) FN hr hg hm hk hb (fun σ => passAt tk σ) ha hdb he hpl) fun σ H Q ⟨c, G, ρ, S, q⟩ => by
  refine ⟨c, G, ρ, S, (Post.bind q).imp fun as ρ1 G1 H1 e1 S1 q1 vs hvs => ?_⟩
  unfold callF at q1
  split at q1
  · rename_i hc
    cases hres : resolve ρ1 as with
    | none => rw [hres] at q1; exact q1.elim
    | some svs =>
      rw [hres] at q1
      dsimp only at q1
      have S2 := S1.give hvs hc.2 hres
      refine ⟨G1, svs, by rw [Paired.length hvs]; exact hc.1, S2, fun s hs ho => ?_, ?_⟩
      · obtain ⟨j, hj⟩ := List.getElem?_of_mem hs
        obtain ⟨i, s0, h1, h2, h3, rfl, _⟩ := arg_own S1 hvs hres hj ho
        exact ref_mark h3
      · cases hF : F svs with
        | bad => rw [hF] at q1; exact q1.elim
        | err kk outs =>
          rw [hF] at q1
          exact fun H' G' S' => q1 H' G' S'.g0 (S1.take hvs hc.2 hres S')
        | ok rr outs =>
          rw [hF] at q1
          intro v H' G' S' rn
          refine q1 H' G' S'.g0 (S1.take hvs hc.2 hres S') v (rn_inner S1 rn) fun pp ep hn i s es ho a1 => ?_
          obtain ⟨s0, h1, h2⟩ := own_back S1 es ho
          exact S1.noOwn (rn_new rn hn ep) i s0 h1 h2 a1
  · exact q1.elim
end
end G8
namespace G8
open PySem L2
/-! what operators do with data -/
section
variable {K : Fg} {G H : Hp}
mutual
theorem Rp.plain : ∀ (d : Dt) (v : V), Rp K G v d → d.plain = true
  | .none, _, _ => rfl
  | .bool b, _, _ => rfl
  | .int i, _, _ => rfl
  | .str x, _, _ => rfl
  | .list ds, _, h => by
    cases h with
    | lst h1 h2 => exact Rps.plain ds _ h2
  | .tuple ds, _, h => by
    cases h with
    | tup h1 h2 => exact Rps.plain ds _ h2
  | .dict _, _, h => by cases h
theorem Rps.plain : ∀ (ds : List Dt) (vs : List V), Rps K G vs ds → PyData.plainAll ds = true
  | [], _, _ => rfl
  | d :: ds, _, h => by
    cases h with
    | cons h1 h2 =>
      show (d.plain && PyData.plainAll ds) = true
      rw [Rp.plain d _ h1, Rps.plain ds _ h2]
      rfl
end
theorem RO.plain {v : V} {x : Dt} (h : RO K G H v x) : x.plain = true := by
  rcases h with h | ⟨p, vs, xs, _, rfl, _, h⟩
  · exact Rp.plain _ _ h
  · exact Rps.plain _ _ h
end
def shal (x : Dt) : Bool := decide (x.depth ≤ 60)
def shalL (x : List Dt) : Bool := decide (PyData.depthAll x ≤ 60)
/-- readable data at two places -/
def rTwo (K : Fg) (g : Dt → Dt → Option Bool) : R2 := fun x y H Q => ∃ d e z, Dp K H x d ∧ Dp K H y e ∧ d.plain = true ∧ e.plain = true ∧ g d e = some z ∧ Q (.bl z) H
theorem tells_two {b : Bs} (g : Dt → Dt → Option Bool) : Tells b (rTwo b.K g) g := fun {c G H ρ σ x y dx dy z Q} S hx hy e q => ⟨dx, dy, z, hx.dp S.gh, hy.dp S.gh, hx.plain, hy.plain, e, q⟩
def eqD (x y : Dt) : Option Bool := if shal x && shal y then some (PyData.eqv x y) else none
def neD (x y : Dt) : Option Bool := if shal x && shal y then some (!PyData.eqv x y) else none
def inD (x y : Dt) : Option Bool := match y with
  | .list ys => if shal x && shalL ys then some (ys.any fun z => PyData.eqv z x) else none
  | .tuple ys => if shal x && shalL ys then some (ys.any fun z => PyData.eqv z x) else none
  | _ => none
def ninD (x y : Dt) : Option Bool := (inD x y).map not
section
variable {X : Cx}
theorem sh_of {x : Dt} (h : shal x = true) : x.depth ≤ 60 := of_decide_eq_true h
theorem shL_of {x : List Dt} (h : shalL x = true) : PyData.depthAll x ≤ 60 := of_decide_eq_true h
theorem o_eq (hu : X.A.units + 64 < cLine) : OpR X (compareOp .Eq) (rTwo X.K eqD) := by
  intro pins s σ H x y v u Q I rx ry h
  obtain ⟨d, e, z, hd, he, pd, pe, hg, q⟩ := h
  obtain ⟨as, r1⟩ := Dp.reads I d x v hd rx
  obtain ⟨bs, r2⟩ := Dp.reads I e y u he ry
  unfold eqD at hg
  split at hg
  · rename_i hs
    rw [Bool.and_eq_true] at hs
    cases hg
    have h1 := sh_of hs.1
    exact SeqAt.eq_plain r1 r2 pd pe (by have := Nat.min_le_left d.depth e.depth; omega) ⟨.bl _, H, I, rfl, q⟩
  · cases hg
theorem o_ne (hu : X.A.units + 64 < cLine) : OpR X (compareOp .NotEq) (rTwo X.K neD) := by
  intro pins s σ H x y v u Q I rx ry h
  obtain ⟨d, e, z, hd, he, pd, pe, hg, q⟩ := h
  obtain ⟨as, r1⟩ := Dp.reads I d x v hd rx
  obtain ⟨bs, r2⟩ := Dp.reads I e y u he ry
  unfold neD at hg
  split at hg
  · rename_i hs
    rw [Bool.and_eq_true] at hs
    cases hg
    have h1 := sh_of hs.1
    exact SeqAt.ne_plain r1 r2 pd pe (by have := Nat.min_le_left d.depth e.depth; omega) ⟨.bl _, H, I, rfl, q⟩
  · cases hg
theorem o_in (hu : X.A.units + 64 < cLine) : OpR X (compareOp .In) (rTwo X.K inD) := by
  intro pins s σ H x y v u Q I rx ry h
  obtain ⟨d, e, z, hd, he, pd, pe, hg, q⟩ := h
  obtain ⟨as, r1⟩ := Dp.reads I d x v hd rx
  obtain ⟨bs, r2⟩ := Dp.reads I e y u he ry
  unfold inD at hg
  split at hg
  · rename_i ys
    split at hg
    · rename_i hs
      rw [Bool.and_eq_true] at hs
      cases hg
      have h1 := sh_of hs.1
      exact SeqAt.in_list_data r2 r1 pe pd (by have := Nat.min_le_right (PyData.depthAll ys) d.depth; omega) ⟨.bl _, H, I, rfl, q⟩
    · cases hg
  · rename_i ys
    split at hg
    · rename_i hs
      rw [Bool.and_eq_true] at hs
      cases hg
      have h1 := sh_of hs.1
      exact SeqAt.in_tuple_data r2 r1 pe pd (by have := Nat.min_le_right (PyData.depthAll ys) d.depth; omega) ⟨.bl _, H, I, rfl, q⟩
    · cases hg
  · cases hg
theorem o_nin (hu : X.A.units + 64 < cLine) : OpR X (compareOp .NotIn) (rTwo X.K ninD) := by
  intro pins s σ H x y v u Q I rx ry h
  obtain ⟨d, e, z, hd, he, pd, pe, hg, q⟩ := h
  obtain ⟨as, r1⟩ := Dp.reads I d x v hd rx
  obtain ⟨bs, r2⟩ := Dp.reads I e y u he ry
  unfold ninD inD at hg
  split at hg
  · rename_i ys
    split at hg
    · rename_i hs
      rw [Bool.and_eq_true] at hs
      cases hg
      have h1 := sh_of hs.1
      exact SeqAt.notIn_list_data r2 r1 pe pd (by have := Nat.min_le_right (PyData.depthAll ys) d.depth; omega) ⟨.bl _, H, I, rfl, q⟩
    · cases hg
  · rename_i ys
    split at hg
    · rename_i hs
      rw [Bool.and_eq_true] at hs
      cases hg
      have h1 := sh_of hs.1
      exact SeqAt.notIn_tuple_data r2 r1 pe pd (by have := Nat.min_le_right (PyData.depthAll ys) d.depth; omega) ⟨.bl _, H, I, rfl, q⟩
    · cases hg
  · cases hg
end
def ltI (x y : Dt) : Option Bool := match x, y with
  | .int i, .int j => some (decide (i < j))
  | _, _ => none
def leI (x y : Dt) : Option Bool := match x, y with
  | .int i, .int j => some (decide (i ≤ j))
  | _, _ => none
def gtI (x y : Dt) : Option Bool := match x, y with
  | .int i, .int j => some (decide (j < i))
  | _, _ => none
def geI (x y : Dt) : Option Bool := match x, y with
  | .int i, .int j => some (decide (j ≤ i))
  | _, _ => none
theorem tells_ints {b : Bs} {g : Int → Int → Bool} {h : Dt → Dt → Option Bool} (hh : ∀ x y z, h x y = some z → ∃ i j, x = .int i ∧ y = .int j ∧ z = g i j) : Tells b (rI0 fun i j => .bl (g i j)) h := fun {c G H ρ σ x y dx dy z Q} S hx hy e q => by
  obtain ⟨i, j, rfl, rfl, rfl⟩ := hh _ _ _ e
  exact ⟨i, j, hx.int, hy.int, q⟩
theorem t_lt {b : Bs} : Tells b (rI0 fun i j => .bl (decide (i < j))) ltI := tells_ints fun x y z e => by
  cases x <;> cases y <;> first | (cases e; exact ⟨_, _, rfl, rfl, rfl⟩) | cases e
theorem t_le {b : Bs} : Tells b (rI0 fun i j => .bl (decide (i ≤ j))) leI := tells_ints fun x y z e => by
  cases x <;> cases y <;> first | (cases e; exact ⟨_, _, rfl, rfl, rfl⟩) | cases e
theorem t_gt {b : Bs} : Tells b (rI0 fun i j => .bl (decide (j < i))) gtI := tells_ints fun x y z e => by
  cases x <;> cases y <;> first | (cases e; exact ⟨_, _, rfl, rfl, rfl⟩) | cases e
theorem t_ge {b : Bs} : Tells b (rI0 fun i j => .bl (decide (j ≤ i))) geI := tells_ints fun x y z e => by
  cases x <;> cases y <;> first | (cases e; exact ⟨_, _, rfl, rfl, rfl⟩) | cases e
/-- comparisons as values -/
def cmpM (g : Dt → Dt → Option Bool) (fa fb : M Av) : M Av := bindM fa fun a => bindM fb fun b => optM fun ρ => (res ρ a).bind fun x => (res ρ b).bind fun y => (g x y).map fun z => .d (.bool z)
section
variable {X : Cx} {b : Bs} {W : WX} {a a2 : Expr} {fa fb : M Av} {pos : Pos}
theorem m_cmpB {op : CmpOp} {r : R2} {g : Dt → Dt → Option Bool} (ho : OpR X (compareOp op) r) (t : Tells b r g) (ha : PE X a (tE b W fa)) (hb : PE X a2 (tE b W fb)) (hm : behindInMarks op a2 = false) : PE X (.Compare a [op] [a2] pos) (tE b W (cmpM g fa fb)) :=
  weakE (pe_cmpR ho ha hb hm) fun σ H Q ⟨c, G, ρ, S, q⟩ => ⟨c, G, ρ, S, (Post.bind q).imp fun xa ρ1 G1 H1 e1 S1 q1 v hv => ⟨c, G1, ρ1, S1, (Post.bind q1).imp fun xb ρ2 G2 H2 e2 S2 q2 u hu => by
    obtain ⟨z, h1, h2⟩ := q2.opt S2
    cases hx : res ρ2 xa with
    | none => rw [hx] at h1; cases h1
    | some x =>
      cases hy : res ρ2 xb with
      | none => rw [hx, hy] at h1; cases h1
      | some y =>
        rw [hx, hy] at h1
        dsimp only [Option.bind_some] at h1
        cases hg : g x y with
        | none => rw [hg] at h1; cases h1
        | some k =>
          rw [hg] at h1
          cases h1
          exact t S2 ((hv.mono e2).res S2 hx) (hu.res S2 hy) hg (h2 _ (.bl k))⟩⟩
theorem m_lt (ha : PE X a (tE b W fa)) (hb : PE X a2 (tE b W fb)) : PE X (.Compare a [.Lt] [a2] pos) (tE b W (cmpM ltI fa fb)) := m_cmpB op_lt t_lt ha hb (nomark _)
theorem m_le (ha : PE X a (tE b W fa)) (hb : PE X a2 (tE b W fb)) : PE X (.Compare a [.LtE] [a2] pos) (tE b W (cmpM leI fa fb)) := m_cmpB op_le t_le ha hb (nomark _)
theorem m_gt (ha : PE X a (tE b W fa)) (hb : PE X a2 (tE b W fb)) : PE X (.Compare a [.Gt] [a2] pos) (tE b W (cmpM gtI fa fb)) := m_cmpB op_gt t_gt ha hb (nomark _)
theorem m_ge (ha : PE X a (tE b W fa)) (hb : PE X a2 (tE b W fb)) : PE X (.Compare a [.GtE] [a2] pos) (tE b W (cmpM geI fa fb)) := m_cmpB op_ge t_ge ha hb (nomark _)
theorem m_eq (hu : X.A.units + 64 < cLine) (hK : X.K = b.K) (ha : PE X a (tE b W fa)) (hb : PE X a2 (tE b W fb)) : PE X (.Compare a [.Eq] [a2] pos) (tE b W (cmpM eqD fa fb)) := m_cmpB (o_eq hu) (by rw [hK]; exact tells_two _) ha hb (nomark _)
theorem m_ne (hu : X.A.units + 64 < cLine) (hK : X.K = b.K) (ha : PE X a (tE b W fa)) (hb : PE X a2 (tE b W fb)) : PE X (.Compare a [.NotEq] [a2] pos) (tE b W (cmpM neD fa fb)) := m_cmpB (o_ne hu) (by rw [hK]; exact tells_two _) ha hb (nomark _)
theorem m_in (hu : X.A.units + 64 < cLine) (hK : X.K = b.K) (ha : PE X a (tE b W fa)) (hb : PE X a2 (tE b W fb)) (hm : behindInMarks .In a2 = false := by rfl) : PE X (.Compare a [.In] [a2] pos) (tE b W (cmpM inD fa fb)) := m_cmpB (o_in hu) (by rw [hK]; exact tells_two _) ha hb hm
theorem m_nin (hu : X.A.units + 64 < cLine) (hK : X.K = b.K) (ha : PE X a (tE b W fa)) (hb : PE X a2 (tE b W fb)) (hm : behindInMarks .NotIn a2 = false := by rfl) : PE X (.Compare a [.NotIn] [a2] pos) (tE b W (cmpM ninD fa fb)) := m_cmpB (o_nin hu) (by rw [hK]; exact tells_two _) ha hb hm
/-! is None -/
def isNone : Dt → Bool
  | .none => true
  | _ => false
def nonA (ρ : Ev) : Av → Option Bool
  | .d x => some (isNone x)
  | .s i => match ρ[i]? with
    | some (some (.d x)) => some (isNone x)
    | some (some _) => some false
    | _ => none
def isN (n : Bool) (fa : M Av) : M Av := bindM fa fun a => optM fun ρ => (nonA ρ a).map fun k => .d (.bool (if n then !k else k))
theorem isNone_of {K : Fg} {G : Hp} {v : V} {x : Dt} (h : Rp K G v x) : decide (v = .non) = isNone x := by
  cases h <;> rfl
theorem nonA_of {c : Fc} {G H : Hp} {ρ : Ev} {σ : St} {v : V} {z : Av} {k : Bool} (S : SIG b c G ρ σ H) (h : RA b.K G σ v z) (e : nonA ρ z = some k) : decide (v = .non) = k := by
  cases z with
  | d x => cases e; exact isNone_of h
  | s i =>
    have e : (match ρ[i]? with
      | some (some (.d x)) => some (isNone x)
      | some (some _) => some false
      | _ => none) = some k := e
    have h : σ[i]? = some (some v) := h
    split at e
    · rename_i x hx
      cases e
      obtain ⟨u, hu, r⟩ := S.sl i _ hx
      rw [h] at hu
      cases hu
      exact isNone_of r
    · rename_i sv hne hx
      cases e
      obtain ⟨u, hu, r⟩ := S.sl i _ hx
      rw [h] at hu
      cases hu
      cases sv with
      | d x => exact absurd rfl (hne x)
      | ls r' xs => obtain ⟨p, _, rfl, _⟩ := r; rfl
      | dk r' xs => obtain ⟨p, _, rfl, _⟩ := r; rfl
      | dt r' xs => obtain ⟨p, _, rfl, _⟩ := r; rfl
      | ex k => obtain ⟨p, rfl, _⟩ := r; rfl
      | scr ns => obtain ⟨p, rfl, _⟩ := r; rfl
      | fk kvs => obtain ⟨p, _, _, rfl, _⟩ := r; rfl
    · cases e
theorem m_isN {j pos'} (ha : PE X a (tE b W fa)) : PE X (.Compare a [.Is] [.Constant .none j pos'] pos) (tE b W (isN false fa)) := weakE (pe_cmp (pc_isN ha)) fun σ H Q ⟨c, G, ρ, S, q⟩ => ⟨c, G, ρ, S, (Post.bind q).imp fun z ρ1 G1 H1 e1 S1 q1 v hv => by
  obtain ⟨k, h1, h2⟩ := q1.opt S1
  cases hx : nonA ρ1 z with
  | none => rw [hx] at h1; cases h1
  | some t =>
    rw [hx] at h1
    cases h1
    rw [nonA_of S1 hv hx]
    exact h2 _ (.bl t)⟩
theorem m_notN {j pos'} (ha : PE X a (tE b W fa)) : PE X (.Compare a [.IsNot] [.Constant .none j pos'] pos) (tE b W (isN true fa)) := weakE (pe_cmp (pc_notN ha)) fun σ H Q ⟨c, G, ρ, S, q⟩ => ⟨c, G, ρ, S, (Post.bind q).imp fun z ρ1 G1 H1 e1 S1 q1 v hv => by
  obtain ⟨k, h1, h2⟩ := q1.opt S1
  cases hx : nonA ρ1 z with
  | none => rw [hx] at h1; cases h1
  | some t =>
    rw [hx] at h1
    cases h1
    rw [nonA_of S1 hv hx]
    exact h2 _ (.bl (!t))⟩
end
/-! comparisons as tests -/
def cmpT (g : Dt → Dt → Option Bool) (fa fb : M Av) : M Bool := bindM fa fun a => bindM fb fun b => optM fun ρ => (res ρ a).bind fun x => (res ρ b).bind fun y => g x y
def isNT (n : Bool) (fa : M Av) : M Bool := bindM fa fun a => optM fun ρ => (nonA ρ a).map fun k => if n then !k else k
section
variable {X : Cx} {b : Bs} {W : WX} {a a2 : Expr} {fa fb : M Av} {pos : Pos}
theorem m_tcmp {op : CmpOp} {r : R2} {g : Dt → Dt → Option Bool} (ho : OpR X (compareOp op) r) (t : Tells b r g) (ha : PE X a (tE b W fa)) (hb : PE X a2 (tE b W fb)) (hm : behindInMarks op a2 = false) : PT X (.Compare a [op] [a2] pos) (tT b W (cmpT g fa fb)) :=
  weakT (pt_cmpR ho ha hb hm) fun σ H Q ⟨c, G, ρ, S, q⟩ => ⟨c, G, ρ, S, (Post.bind q).imp fun xa ρ1 G1 H1 e1 S1 q1 v hv => ⟨c, G1, ρ1, S1, (Post.bind q1).imp fun xb ρ2 G2 H2 e2 S2 q2 u hu => by
    obtain ⟨z, h1, h2⟩ := q2.opt S2
    cases hx : res ρ2 xa with
    | none => rw [hx] at h1; cases h1
    | some x =>
      cases hy : res ρ2 xb with
      | none => rw [hx, hy] at h1; cases h1
      | some y =>
        rw [hx, hy] at h1
        exact t S2 ((hv.mono e2).res S2 hx) (hu.res S2 hy) h1 ⟨z, rfl, h2⟩⟩⟩
theorem m_tisN {j pos'} (ha : PE X a (tE b W fa)) : PT X (.Compare a [.Is] [.Constant .none j pos'] pos) (tT b W (isNT false fa)) := weakT (pt_cmp (pc_isN ha)) fun σ H Q ⟨c, G, ρ, S, q⟩ => ⟨c, G, ρ, S, (Post.bind q).imp fun z ρ1 G1 H1 e1 S1 q1 v hv => by
  obtain ⟨k, h1, h2⟩ := q1.opt S1
  cases hx : nonA ρ1 z with
  | none => rw [hx] at h1; cases h1
  | some t =>
    rw [hx] at h1
    cases h1
    exact ⟨_, congrArg V.bl (nonA_of S1 hv hx), h2⟩⟩
theorem m_tnotN {j pos'} (ha : PE X a (tE b W fa)) : PT X (.Compare a [.IsNot] [.Constant .none j pos'] pos) (tT b W (isNT true fa)) := weakT (pt_cmp (pc_notN ha)) fun σ H Q ⟨c, G, ρ, S, q⟩ => ⟨c, G, ρ, S, (Post.bind q).imp fun z ρ1 G1 H1 e1 S1 q1 v hv => by
  obtain ⟨k, h1, h2⟩ := q1.opt S1
  cases hx : nonA ρ1 z with
  | none => rw [hx] at h1; cases h1
  | some t =>
    rw [hx] at h1
    cases h1
    exact ⟨_, congrArg (fun k => V.bl (!k)) (nonA_of S1 hv hx), h2⟩⟩
end
/-! arithmetic, lists by operators -/
def small64 (i : Int) : Bool := Nat.blt i.natAbs 18446744073709551616
def addD (x y : Dt) : Option Rv := match x, y with
  | .int i, .int j => some (.d (.int (i + j)))
  | .list xs, .list ys => if xs.length + ys.length ≤ 1000000 then some (.l (xs ++ ys)) else none
  | .str s, .str t => if s.length + t.length ≤ 1000000 then some (.d (.str (s ++ t))) else none
  | _, _ => none
def subD (x y : Dt) : Option Rv := match x, y with
  | .int i, .int j => some (.d (.int (i - j)))
  | _, _ => none
def mulD (x y : Dt) : Option Rv := match x, y with
  | .int i, .int j => if small64 i || small64 j then some (.d (.int (i * j))) else none
  | .list xs, .int k => if mid k && decide (k ≤ 1000) && decide (xs.length ≤ 1000) then some (.l (List.replicate k.toNat xs).flatten) else none
  | _, _ => none
def fdivD (x y : Dt) : Option Rv := match x, y with
  | .int i, .int j => if 0 < j ∧ j.natAbs < 1073741824 then some (.d (.int (i / j))) else none
  | _, _ => none
def modD (x y : Dt) : Option Rv := match x, y with
  | .int i, .int j => if 0 < j then some (.d (.int (i % j))) else none
  | _, _ => none
def powD (x y : Dt) : Option Rv := match x, y with
  | .int i, .int j => if 0 ≤ j ∧ j ≤ 1000000 ∧ i.natAbs < 2 ^ 64 then some (.d (.int (i ^ j.toNat))) else none
  | _, _ => none
theorem fin_d {b : Bs} {c : Fc} {G H : Hp} {ρ : Ev} {σ : St} {v : V} {x : Dt} {Q : VK} (S : SIG b c G ρ σ H) (q : ∀ v H' G', Same G G' → SIG b c G' ρ σ H' → RN b c G' H' v (.d x) → Apart ρ σ v (.d x) → Q v H') (r : Rp b.K G v x) : Q v H :=
  q v H G (Same.refl G) S r fun p _ z => by cases z
theorem fin_l {b : Bs} {c : Fc} {G H : Hp} {ρ : Ev} {σ : St} {p : Addr} {vs : List V} {xs : List Dt} {Q : VK} (S : SIG b c G ρ σ H) (q : ∀ v H' G', Same G G' → SIG b c G' ρ σ H' → RN b c G' H' v (.l xs) → Apart ρ σ v (.l xs) → Q v H') (hp : H p = none) (r : Rps b.K G vs xs) : Q (.ref p) (upd H p (.lst vs)) :=
  q (.ref p) _ G (Same.refl G) (S.alloc hp) ⟨p, vs, rfl, upd_same, S.gh.free hp, r, S.fresh0 hp⟩ fun p' ep _ => by cases ep; exact S.noOwn hp
def rAddD : R2 := fun x y H Q => (rI0 fun i j => .int (i + j)) x y H Q ∨ rCat x y H Q ∨ (∃ i j, x = .str i ∧ y = .str j ∧ i.length + j.length ≤ sizeLine ∧ Q (.str (i ++ j)) H)
theorem le_line {n : Nat} (h : n ≤ 1000000) : n ≤ sizeLine := Nat.le_trans h (by decide)
theorem d_add {b : Bs} : Does2 b rAddD addD := fun {c G H ρ σ x y dx dy z Q} S hx hy e q => by
  unfold addD at e
  split at e
  · cases e
    exact .inl ⟨_, _, hx.int, hy.int, fin_d S q (.int _)⟩
  · split at e
    · rename_i xs ys hl
      cases e
      obtain ⟨p, vs, rfl, h1, h2⟩ := hx.list S.gh
      obtain ⟨p', vs', rfl, h1', h2'⟩ := hy.list S.gh
      exact .inr (.inl ⟨p, p', vs, vs', rfl, rfl, h1, h1', by rw [h2.length, h2'.length]; exact le_line hl, fun r hr => fin_l S q hr (h2.append h2')⟩)
    · cases e
  · split at e
    · rename_i hl
      cases e
      exact .inr (.inr ⟨_, _, hx.str, hy.str, le_line hl, fin_d S q (.str _)⟩)
    · cases e
  · cases e
def rMulD : R2 := fun x y H Q => (rI CMul fun i j => .int (i * j)) x y H Q ∨ rRep x y H Q
theorem small64_of {i : Int} (h : small64 i = true) : -(2 ^ 64) < i ∧ i < 2 ^ 64 := by
  unfold small64 at h
  have h := Nat.blt_eq.mp h
  omega
theorem d_mul {b : Bs} : Does2 b rMulD mulD := fun {c G H ρ σ x y dx dy z Q} S hx hy e q => by
  unfold mulD at e
  split at e
  · split at e
    · rename_i hl
      cases e
      rw [Bool.or_eq_true] at hl
      exact .inl ⟨_, _, hx.int, hy.int, hl.elim (fun z => .inl (small64_of z)) fun z => .inr (small64_of z), fin_d S q (.int _)⟩
    · cases e
  · split at e
    · rename_i xs k hl
      cases e
      rw [Bool.and_eq_true, Bool.and_eq_true, decide_eq_true_eq, decide_eq_true_eq] at hl
      obtain ⟨⟨l1, l2⟩, l3⟩ := hl
      have l1 := mid_of l1
      obtain ⟨p, vs, rfl, h1, h2⟩ := hx.list S.gh
      refine .inr ⟨p, k, vs, rfl, hy.int, h1, by omega, by omega, ?_, fun r hr => fin_l S q hr (h2.rep _)⟩
      rw [h2.length]
      have : k.toNat ≤ 1000 := by omega
      exact Nat.le_trans (Nat.mul_le_mul l3 this) (by decide)
    · cases e
  · cases e
theorem d_sub {b : Bs} : Does2 b (rI0 fun i j => .int (i - j)) subD := fun {c G H ρ σ x y dx dy z Q} S hx hy e q => by
  unfold subD at e
  split at e
  · cases e
    exact ⟨_, _, hx.int, hy.int, fin_d S q (.int _)⟩
  · cases e
theorem d_fdiv {b : Bs} : Does2 b (rI CDiv fun i j => .int (i / j)) fdivD := fun {c G H ρ σ x y dx dy z Q} S hx hy e q => by
  unfold fdivD at e
  split at e
  · split at e
    · rename_i hl
      cases e
      exact ⟨_, _, hx.int, hy.int, ⟨hl.1, by have := hl.2; omega⟩, fin_d S q (.int _)⟩
    · cases e
  · cases e
theorem d_mod {b : Bs} : Does2 b (rI (fun _ j => 0 < j) fun i j => .int (i % j)) modD := fun {c G H ρ σ x y dx dy z Q} S hx hy e q => by
  unfold modD at e
  split at e
  · split at e
    · rename_i hl
      cases e
      exact ⟨_, _, hx.int, hy.int, hl, fin_d S q (.int _)⟩
    · cases e
  · cases e
theorem d_pow {b : Bs} : Does2 b (rI CPow fun i j => .int (i ^ j.toNat)) powD := fun {c G H ρ σ x y dx dy z Q} S hx hy e q => by
  unfold powD at e
  split at e
  · split at e
    · rename_i hl
      cases e
      exact ⟨_, _, hx.int, hy.int, hl, fin_d S q (.int _)⟩
    · cases e
  · cases e
def negD (x : Dt) : Option Rv := match x with
  | .int i => some (.d (.int (-i)))
  | _ => none
theorem d_neg {b : Bs} : Does1 b (rU fun i => .int (-i)) negD := fun {c G H ρ σ x dx z Q} S hx e q => by
  unfold negD at e
  split at e
  · cases e
    exact ⟨_, hx.int, fin_d S q (.int _)⟩
  · cases e
/-- an item -/
def ixD (x y : Dt) : Option Rv := match x, y with
  | .list xs, .int i => (atI xs i).map Rv.d
  | .tuple xs, .int i => (atI xs i).map Rv.d
  | .str s, .int i => if s.length ≤ 1000000 then (atI s.cps.toList i).map fun c => .d (.str ⟨#[c]⟩) else none
  | _, _ => none
theorem atI_rps {K : Fg} {G : Hp} {vs : List V} {xs : List Dt} {i : Int} {d : Dt} (r : Rps K G vs xs) (e : atI xs i = some d) : ∃ v, atI vs i = some v ∧ Rp K G v d := by
  unfold atI at e ⊢
  rw [← r.length] at e
  cases h : ixN vs.length i with
  | none => rw [h] at e; cases e
  | some j =>
    rw [h] at e
    exact r.get e
theorem d_ix {b : Bs} : Does2 b (rIx b.K) ixD := fun {c G H ρ σ x y dx dy z Q} S hx hy e q => by
  unfold ixD at e
  split at e
  · rename_i xs i
    obtain ⟨p, vs, rfl, h1, h2⟩ := hx.list S.gh
    cases hd : atI xs i with
    | none => rw [hd] at e; cases e
    | some d =>
      rw [hd] at e
      cases e
      obtain ⟨v, h3, h4⟩ := atI_rps h2 hd
      exact .inl ⟨p, vs, i, v, rfl, hy.int, SqL.of h1, h3, fin_d S q h4⟩
  · rename_i xs i
    obtain ⟨p, vs, rfl, h1, h2⟩ := hx.tup
    cases hd : atI xs i with
    | none => rw [hd] at e; cases e
    | some d =>
      rw [hd] at e
      cases e
      obtain ⟨v, h3, h4⟩ := atI_rps h2 hd
      exact .inr (.inl ⟨p, vs, i, v, rfl, hy.int, same_sqT S.gh h1, h3, fin_d S q h4⟩)
  · split at e
    · rename_i s i hl
      cases hd : atI s.cps.toList i with
      | none => rw [hd] at e; cases e
      | some d =>
        rw [hd] at e
        cases e
        exact .inr (.inr ⟨s, i, d, hx.str, hy.int, le_line hl, hd, fin_d S q (.str _)⟩)
    · cases e
  · cases e
section
variable {X : Cx} {b : Bs} {W : WX} {a a2 : Expr} {fa fb : M Av} {pos : Pos}
theorem m_add (ha : PE X a (tE b W fa)) (hb : PE X a2 (tE b W fb)) : PE X (.BinOp a .Add a2 pos) (tV b W (bin2 addD fa fb)) := m_op (op_add.or (op_cat.or op_add_str)) d_add ha hb
theorem m_sub (ha : PE X a (tE b W fa)) (hb : PE X a2 (tE b W fb)) : PE X (.BinOp a .Sub a2 pos) (tV b W (bin2 subD fa fb)) := m_op op_sub d_sub ha hb
theorem m_mul (ha : PE X a (tE b W fa)) (hb : PE X a2 (tE b W fb)) : PE X (.BinOp a .Mult a2 pos) (tV b W (bin2 mulD fa fb)) := m_op (op_mul.or op_rep) d_mul ha hb
theorem m_fdiv (ha : PE X a (tE b W fa)) (hb : PE X a2 (tE b W fb)) : PE X (.BinOp a .FloorDiv a2 pos) (tV b W (bin2 fdivD fa fb)) := m_op op_fdiv d_fdiv ha hb
theorem m_mod (ha : PE X a (tE b W fa)) (hb : PE X a2 (tE b W fb)) : PE X (.BinOp a .Mod a2 pos) (tV b W (bin2 modD fa fb)) := m_op op_mod d_mod ha hb
theorem m_pow (ha : PE X a (tE b W fa)) (hb : PE X a2 (tE b W fb)) : PE X (.BinOp a .Pow a2 pos) (tV b W (bin2 powD fa fb)) := m_op op_pow d_pow ha hb
theorem m_neg (ha : PE X a (tE b W fa)) : PE X (.UnaryOp .USub a pos) (tV b W (un1 negD fa)) := m_un un_neg d_neg ha
theorem m_idx (hK : X.K = b.K) (ha : PE X a (tE b W fa)) (hb : PE X a2 (tE b W fb)) (hs : PlainIx a2 := by intro _ _; rfl) : PE X (.Subscript a a2 pos) (tV b W (bin2 ixD fa fb)) := m_ix ix_seq (by rw [hK]; exact d_ix) ha hb hs
end
/-! slices -/
def cutD (xs : List Dt) (lo hi : Option Int) : List Dt := (xs.drop (HT.sIx xs.length 0 lo)).take (HT.sIx xs.length xs.length hi - HT.sIx xs.length 0 lo)
theorem cut_rps {K : Fg} {G : Hp} {vs : List V} {xs : List Dt} (r : Rps K G vs xs) (lo hi : Option Int) : Rps K G (cutV vs lo hi) (cutD xs lo hi) := by
  unfold cutV cutD
  rw [r.length]
  exact (r.drop _).take _
def partN : M (Option Int) := retM none
def partS (f : M Av) : M (Option Int) := bindM f fun a => optM fun ρ => match res ρ a with
  | some (.int i) => some (some i)
  | _ => none
def slD (x : Dt) (lo hi : Option Int) : Option Rv := match x with
  | .list xs => some (.l (cutD xs lo hi))
  | .str s => if s.length ≤ 1000000 then some (.d (.str (cutS s lo hi))) else none
  | _ => none
def sliceM (fa : M Av) (fl fh : M (Option Int)) : M Rv := bindM fa fun a => bindM fl fun lo => bindM fh fun hi => optM fun ρ => (res ρ a).bind fun x => slD x lo hi
def tPO (b : Bs) (W : WX) (f : M (Option Int)) : TO := fun σ H Q => ∃ c G ρ, SIG b c G ρ σ H ∧ Post b c W G σ (fun o _ _ H' => Q o H') (f ρ)
section
variable {X : Cx} {b : Bs} {W : WX} {a : Expr} {lo hi : Option Expr} {fa : M Av} {fl fh : M (Option Int)} {pos p2 : Pos}
theorem weakO {e : Option Expr} {t t' : TO} (h : PO X e t) (w : ∀ σ H Q, t' σ H Q → t σ H Q) : PO X e t' := ⟨fun pins s σ H Q I q => h.run pins s σ H Q I (w σ H Q q)⟩
theorem p_none : PO X none (tPO b W partN) := weakO po_none fun σ H Q ⟨c, G, ρ, S, q⟩ => q.ret S
theorem p_some {e : Expr} (h : PE X e (tE b W fa)) : PO X (some e) (tPO b W (partS fa)) := weakO (po_some h) fun σ H Q ⟨c, G, ρ, S, q⟩ => ⟨c, G, ρ, S, (Post.bind q).imp fun z ρ1 G1 H1 e1 S1 q1 v hv => by
  obtain ⟨o, h1, h2⟩ := q1.opt S1
  split at h1
  · rename_i i hx
    cases h1
    exact ⟨i, (hv.res S1 hx).int, h2⟩
  · cases h1⟩
def rSlD (K : Fg) : V → Option Int → Option Int → Hp → VK → Prop := fun x l h H Q => rSlL K x l h H Q ∨ ∃ z, x = .str z ∧ z.length ≤ sizeLine ∧ Q (.str (cutS z l h)) H
theorem m_slice (hK : X.K = b.K) (hr : SlR X (rSlD X.K)) (ha : PE X a (tE b W fa)) (hl : PO X lo (tPO b W fl)) (hh : PO X hi (tPO b W fh)) : PE X (.Subscript a (.Slice lo hi none p2) pos) (tV b W (sliceM fa fl fh)) :=
  weakE (pe_slice hr ha hl hh) fun σ H Q ⟨c, G, ρ, S, q⟩ => ⟨c, G, ρ, S, (Post.bind q).imp fun z ρ1 G1 H1 e1 S1 q1 v hv => ⟨c, G1, ρ1, S1, (Post.bind q1).imp fun l ρ2 G2 H2 e2 S2 q2 => ⟨c, G2, ρ2, S2, (Post.bind q2).imp fun h ρ3 G3 H3 e3 S3 q3 => by
    unfold optM at q3
    split at q3
    · rename_i r hr'
      dsimp only at hr'
      cases hx : res ρ3 z with
      | none => rw [hx] at hr'; cases hr'
      | some x =>
        rw [hx] at hr'
        have ro := ((hv.mono e2).mono e3).res S3 hx
        have hr' : slD x l h = some r := hr'
        have q4 : ∀ v H' G', Same G3 G' → SIG b c G' ρ3 σ H' → RN b c G' H' v r → Apart ρ3 σ v r → Q v H' := fun v' H' G' ee SS rr ap => q3 H' G' ee SS v' rr ap
        unfold slD at hr'
        split at hr'
        · cases hr'
          obtain ⟨p, vs, rfl, h1, h2⟩ := ro.list S3.gh
          exact .inl ⟨p, vs, rfl, by rw [hK]; exact SqL.of h1, fun r hr => fin_l S3 q4 hr (cut_rps h2 l h)⟩
        · split at hr'
          · rename_i hz
            cases hr'
            exact .inr ⟨_, ro.str, le_line hz, fin_d S3 q4 (.str _)⟩
          · cases hr'
        · cases hr'
    · exact q3.elim⟩⟩⟩
end
end G8
namespace G8
open PySem L2
/-! built-in calls upon data -/
def ress (ρ : Ev) : List Av → Option (List Dt)
  | [] => some []
  | a :: as => (res ρ a).bind fun x => (ress ρ as).map fun xs => x :: xs
inductive ROs (K : Fg) (G H : Hp) : List V → List Dt → Prop
  | nil : ROs K G H [] []
  | cons {v : V} {d : Dt} {vs : List V} {ds : List Dt} : RO K G H v d → ROs K G H vs ds → ROs K G H (v :: vs) (d :: ds)
theorem ress_of {b : Bs} {c : Fc} {G H : Hp} {ρ : Ev} {σ : St} (S : SIG b c G ρ σ H) : ∀ {vs : List V} {as : List Av} {xs : List Dt}, Ras b.K G σ vs as → ress ρ as = some xs → ROs b.K G H vs xs
  | _, [], _, h, e => by
    cases h
    cases e
    exact .nil
  | _, a :: as, _, h, e => by
    cases h with
    | cons h1 h2 =>
      unfold ress at e
      cases hx : res ρ a with
      | none => rw [hx] at e; cases e
      | some x =>
        rw [hx] at e
        cases hy : ress ρ as with
        | none => rw [hy] at e; cases e
        | some ys =>
          rw [hy] at e
          cases e
          exact .cons (h1.res S hx) (ress_of S h2 hy)
def biM (g : List Dt → Option Rv) (fl : M (List Av)) : M Rv := bindM fl fun as => optM fun ρ => (ress ρ as).bind g
def DoesN (b : Bs) (r : List V → Hp → VK → Prop) (g : List Dt → Option Rv) : Prop := ∀ {c : Fc} {G H : Hp} {ρ : Ev} {σ : St} {xs : List V} {ds : List Dt} {z : Rv} {Q : VK}, SIG b c G ρ σ H → ROs b.K G H xs ds → g ds = some z →
  (∀ v H' G', Same G G' → SIG b c G' ρ σ H' → RN b c G' H' v z → Apart ρ σ v z → Q v H') → r xs H Q
theorem bi_core {b : Bs} {W : WX} {fl : M (List Av)} {r : List V → Hp → VK → Prop} {g : List Dt → Option Rv} (dz : DoesN b r g) {σ : St} {H : Hp} {Q : VK} (h : tV b W (biM g fl) σ H Q) : tCB r (tL b W fl) σ H Q := by
  obtain ⟨c, G, ρ, S, q⟩ := h
  refine ⟨c, G, ρ, S, (Post.bind q).imp fun as ρ1 G1 H1 e1 S1 q1 vs hv => ?_⟩
  unfold optM at q1
  split at q1
  · rename_i z hz
    dsimp only at hz
    cases hx : ress ρ1 as with
    | none => rw [hx] at hz; cases hz
    | some xs =>
      rw [hx] at hz
      exact dz S1 (ress_of S1 hv hx) hz fun v' H' G' ee SS rr ap => q1 H' G' ee SS v' rr ap
  · exact q1.elim
section
variable {X : Cx} {b : Bs} {W : WX} {x : Str} {p pos : Pos} {e : Expr} {es : List Expr} {fl : M (List Av)} {id T : String} {r : List V → Hp → VK → Prop} {g : List Dt → Option Rv}
theorem m_bi (hc : CallR X (.builtin id) r) (dz : DoesN b r g) (hg : Gl X x) (hm : X.mg x = none) (hv : bootBuiltins x = some (.builtin id)) (ha : PA X (e :: es) (tL b W fl)) (hn : x ≠ "__name__" := by decide) (hdb : (x == ("__debug__" : Str)) = false := by decide)
    (he : starEach (e :: es) X.env = (false, eval e X.env) :: starEach es X.env := by rfl) (hpl : (backTo pos (starEach es X.env)).any (·.1) = false := by rfl) : PE X (.Call (.Name x p) (e :: es) [] pos) (tV b W (biM g fl)) :=
  weakE (pe_callB hc hg hm hv ha hn hdb he hpl) fun _ _ _ h => bi_core dz h
theorem m_ty (hc : CallR X (.type T) r) (dz : DoesN b r g) (hg : Gl X x) (hm : X.mg x = none) (hv : bootBuiltins x = some (.type T)) (ha : PA X (e :: es) (tL b W fl)) (hn : x ≠ "__name__" := by decide) (hdb : (x == ("__debug__" : Str)) = false := by decide)
    (he : starEach (e :: es) X.env = (false, eval e X.env) :: starEach es X.env := by rfl) (hpl : (backTo pos (starEach es X.env)).any (·.1) = false := by rfl) : PE X (.Call (.Name x p) (e :: es) [] pos) (tV b W (biM g fl)) :=
  weakE (pe_callTy hc hg hm hv ha hn hdb he hpl) fun _ _ _ h => bi_core dz h
end
/-! len -/
def lenD : Dt → Option Nat
  | .list xs => some xs.length
  | .tuple xs => some xs.length
  | .str s => if s.length ≤ 1000000 then some s.length else none
  | _ => none
def lenA (ρ : Ev) : Av → Option Nat
  | .d x => lenD x
  | .s i => match ρ[i]? with
    | some (some (.d x)) => lenD x
    | some (some (.ls _ xs)) => some xs.length
    | some (some (.dk _ xs)) => some xs.length
    | some (some (.scr ns)) => some ns.length
    | _ => none
def lenM (fa : M Av) : M Av := bindM fa fun a => optM fun ρ => (lenA ρ a).map fun (n : Nat) => Av.d (.int (n : Int))
def rLenA (K : Fg) : List V → Hp → VK → Prop := fun xs H Q => (∃ x n, xs = [x] ∧ LenV K x H n ∧ Q (.int n) H) ∨ ∃ a kvs, xs = [V.ref a] ∧ H a = some (.dK kvs) ∧ Q (.int kvs.length) H
theorem lenD_of {K : Fg} {G H : Hp} {v : V} {x : Dt} {n : Nat} (e : Same G H) (h : RO K G H v x) (q : lenD x = some n) : LenV K v H n := by
  cases x with
  | list ds =>
    obtain ⟨p, vs, rfl, h1, h2⟩ := h.list e
    cases q
    exact .inl ⟨vs, SqL.of h1, h2.length.symm⟩
  | tuple ds =>
    obtain ⟨p, vs, rfl, h1, h2⟩ := h.tup
    cases q
    exact .inr ⟨vs, same_sqT e h1, h2.length.symm⟩
  | str s =>
    rw [h.str]
    have q : (if s.length ≤ 1000000 then some s.length else none) = some n := q
    split at q
    · rename_i hl
      cases q
      exact ⟨le_line hl, rfl⟩
    · cases q
  | _ => cases q
section
variable {X : Cx} {b : Bs} {W : WX} {p pos : Pos} {e : Expr} {fa : M Av}
theorem m_len (hK : X.K = b.K) (hg : Gl X "len") (hm : X.mg "len" = none) (ha : PE X e (tE b W fa)) (hs : starEach [e] X.env = (false, eval e X.env) :: starEach [] X.env := by rfl) : PE X (.Call (.Name "len" p) [e] [] pos) (tE b W (lenM fa)) :=
  weakE (pe_callB ((call_len (X := X)).or call_lenD) hg hm PySem.boot_len (pa_cons ha pa_nil hs) (by decide) (by decide) hs) fun σ H Q ⟨c, G, ρ, S, q⟩ => ⟨c, G, ρ, S, (Post.bind q).imp fun a ρ1 G1 H1 e1 S1 q1 v hv => by
    obtain ⟨z, h1, h2⟩ := q1.opt S1
    show (∃ x n, [v] = [x] ∧ LenV X.K x H1 n ∧ Q (.int n) H1) ∨ ∃ a kvs, [v] = [V.ref a] ∧ H1 a = some (.dK kvs) ∧ Q (.int kvs.length) H1
    cases hx : lenA ρ1 a with
    | none => rw [hx] at h1; cases h1
    | some n =>
      rw [hx] at h1
      cases h1
      have fin := h2 _ (.int (n : Int))
      rw [hK]
      cases a with
      | d x => exact .inl ⟨v, n, rfl, lenD_of S1.gh (.inl hv) hx, fin⟩
      | s i =>
        have hv : σ[i]? = some (some v) := hv
        have hx : (match ρ1[i]? with
          | some (some (.d x)) => lenD x
          | some (some (.ls _ xs)) => some xs.length
          | some (some (.dk _ xs)) => some xs.length
          | some (some (.scr ns)) => some ns.length
          | _ => none) = some n := hx
        split at hx
        · rename_i x hs
          obtain ⟨u, hu, r⟩ := S1.sl i _ hs
          rw [hv] at hu
          cases hu
          exact .inl ⟨v, n, rfl, lenD_of S1.gh (.inl r) hx, fin⟩
        · rename_i rr xs hs
          cases hx
          obtain ⟨u, hu, p', vs, rfl, r2, r3, r4⟩ := S1.sl i _ hs
          rw [hv] at hu
          cases hu
          exact .inl ⟨_, _, rfl, .inl ⟨vs, SqL.of r2, r4.length.symm⟩, fin⟩
        · rename_i rr xs hs
          cases hx
          obtain ⟨u, hu, p', vs, rfl, r2, r3, r4⟩ := S1.sl i _ hs
          rw [hv] at hu
          cases hu
          exact .inr ⟨p', vs, rfl, r2, by rw [Paired.length r4]; exact fin⟩
        · rename_i ns hs
          cases hx
          obtain ⟨u, hu, p', rfl, r2⟩ := S1.sl i _ hs
          rw [hv] at hu
          cases hu
          exact .inl ⟨_, _, rfl, .inl ⟨_, S1.gh.seq r2, by rw [List.length_map]⟩, fin⟩
        · cases hx⟩
/-- an item of the script -/
def ixS (i : Nat) (fb : M Av) : M Av := bindM (varM i) fun _ => bindM fb fun a => optM fun ρ => match ρ[i]?, res ρ a with
  | some (some (.scr ns)), some (.int k) => (atI ns k).map fun z => .d (.int z)
  | _, _ => none
theorem varM_is {ρ ρ' : Ev} {i : Nat} {a : Av} (h : varM i ρ = .ok a ρ') : a = .s i := by
  unfold varM at h
  split at h
  · cases h; rfl
  · cases h
theorem m_ixS {x : Str} {a2 : Expr} {fb : M Av} (hK : X.K = b.K) (i : Nat) (ha : PE X (.Name x p) (tVar i)) (hb : PE X a2 (tE b W fb)) (hs : PlainIx a2 := by intro _ _; rfl) : PE X (.Subscript (.Name x p) a2 pos) (tE b W (ixS i fb)) :=
  weakE (pe_ix ix_list (m_var (b := b) (W := W) i ha) hb hs) fun σ H Q ⟨c, G, ρ, S, q⟩ => by
    have q0 := Post.bind q
    cases hv0 : varM i ρ with
    | bad => rw [hv0] at q0; exact q0.elim
    | err k ρ' => unfold varM at hv0; split at hv0 <;> cases hv0
    | ok a0 ρ0 =>
      have e0 := varM_is hv0
      subst e0
      rw [hv0] at q0
      refine ⟨c, G, ρ, S, ?_⟩
      rw [hv0]
      intro H' G' e' S' v hv
      exact ⟨c, G', ρ0, S', (Post.bind (q0 H' G' e' S')).imp fun a ρ1 G1 H1 e1 S1 q1 u hu => by
          obtain ⟨z, h1, h2⟩ := q1.opt S1
          split at h1
          · rename_i ns k h3 h4
            cases hat : atI ns k with
            | none => rw [hat] at h1; cases h1
            | some y =>
              rw [hat] at h1
              cases h1
              obtain ⟨w, hw, p', rfl, r2⟩ := S1.sl i _ h3
              rw [show σ[i]? = some (some v) from hv] at hw
              cases hw
              refine ⟨p', _, k, .int y, rfl, (hu.res S1 h4).int, by rw [hK]; exact S1.gh.seq r2, ?_, h2 _ (.int y)⟩
              unfold atI at hat ⊢
              rw [List.length_map]
              cases hj : ixN ns.length k with
              | none => rw [hj] at hat; cases hat
              | some j =>
                rw [hj] at hat
                have hat : ns[j]? = some y := hat
                show (ns.map V.int)[j]? = _
                rw [List.getElem?_map, hat]
                rfl
          · cases h1⟩
end
/-! min, max, sum, any, all, list, tuple, int -/
def alikeB (xs : List Dt) : Bool := (xs.all fun x => xs.all fun y => PySem.W.alike x y) && xs.all fun x => !isNone x
theorem alikeB_of {xs : List Dt} (h : alikeB xs = true) : PySem.W.AlikeAll xs := by
  unfold alikeB at h
  rw [Bool.and_eq_true, List.all_eq_true, List.all_eq_true] at h
  refine ⟨fun x hx y hy => List.all_eq_true.mp (h.1 x hx) y hy, fun x hx e => ?_⟩
  have := h.2 x hx
  rw [e] at this
  cases this
def bestD (g : Dt → List Dt → Dt) : List Dt → Option Rv
  | [.list (x :: xs)] => if shalL (x :: xs) && alikeB (x :: xs) then some (.d (g x xs)) else none
  | [.int i, .int j] => none
  | _ => none
def rBest (K : Fg) (g : Dt → List Dt → Dt) : List V → Hp → VK → Prop := fun vs H Q => ∃ (a : Addr) (ys : List V) (x : Dt) (xs : List Dt), vs = [.ref a] ∧ SqL K H a ys ∧ DpAll K H ys (x :: xs) ∧ PyData.plainAll (x :: xs) = true ∧ PySem.W.AlikeAll (x :: xs) ∧ PyData.depthAll (x :: xs) ≤ 60 ∧
  ∀ (i : Nat) (y : V) (d : Dt), ys[i]? = some y → (x :: xs)[i]? = some d → d = g x xs → Q y H
theorem readsAll_get {h : Heap} : ∀ {vs : List Value} {xs : List Dt} {as : List Addr} {i : Nat} {v : Value}, ReadsAll h vs xs as → vs[i]? = some v → ∃ d bs, xs[i]? = some d ∧ Reads h v d bs
  | _, _, _, _, _, .nil, e => by simp at e
  | _, _, _, 0, _, .cons r rs, e => by
    simp at e
    subst e
    exact ⟨_, _, rfl, r⟩
  | _, _, _, i + 1, _, .cons r rs, e => by
    obtain ⟨d, bs, h1, h2⟩ := readsAll_get (i := i) rs (by simpa using e)
    exact ⟨d, bs, by simpa using h1, h2⟩
theorem plainAll_get : ∀ {xs : List Dt} {i : Nat} {d : Dt}, PyData.plainAll xs = true → xs[i]? = some d → d.plain = true
  | [], _, _, _, e => by simp at e
  | x :: xs, 0, d, h, e => by
    simp at e
    subst e
    have h : (x.plain && PyData.plainAll xs) = true := h
    rw [Bool.and_eq_true] at h
    exact h.1
  | x :: xs, i + 1, d, h, e => by
    have h : (x.plain && PyData.plainAll xs) = true := h
    rw [Bool.and_eq_true] at h
    exact plainAll_get h.2 (by simpa using e)
section
variable {X : Cx}
theorem best_core {id : String} {g : Dt → List Dt → Dt} (hc : X.calm = true) (hu : X.A.units + 64 < cLine)
    (rule : ∀ {s : Shared} {l : Addr} {vs : Array Value} {x : PyData} {xs : List PyData} {as : List Addr} {Q : Value → Shared → Prop}, X.A.handled = none → s.heap.IsList l vs → ReadsAll s.heap vs.toList (x :: xs) as → PySem.W.AlikeAll (x :: xs) → X.A.units + 1 + PyData.depthAll (x :: xs) < cLine →
      (∀ (i : Nat) v h' tk bs, vs[i]? = some v → Reads h' v (g x xs) bs → (∀ b o, s.heap.get? b = some o → h'.get? b = some o) → Q v { s with heap := h', toks := tk }) → wpAny (model X.prog X.w) X.A (call (.builtin id) [.ref l]) Q X.xe s) : CallR X (.builtin id) (rBest X.K g) := by
  intro pins s σ H vs us Q I r h
  obtain ⟨a, ys, x, xs, rfl, h1, h2, h3, h4, h5, q⟩ := h
  obtain ⟨u, rfl, ru⟩ := vals1 r
  cases ru
  obtain ⟨its, rv, pl, hz⟩ := I.list h1
  obtain ⟨as, rs⟩ := Dp.readsAll I (x :: xs) ys its h2 rv
  obtain ⟨o, n, ho, hcl, _, hd⟩ := pl
  refine rule (I.ok.hd hc) (vs := its.toArray) ⟨o, ho, hcl, n, hd⟩ (by simpa using rs) h4 (by omega) fun i v h' tk bs hi hr hk => ?_
  have hi' : its[i]? = some v := by simpa using hi
  obtain ⟨d, bs', e1, e2⟩ := readsAll_get rs hi'
  have hil : i < ys.length := by
    have := (List.getElem?_eq_some_iff.mp hi').1
    rw [rv.length]
    exact this
  obtain ⟨u, g1, g2⟩ := rv.get (List.getElem?_eq_getElem hil)
  rw [hi'] at g1
  cases g1
  have ed : d = g x xs := SeqAt.plain_unique d (g x xs) v bs' bs (plainAll_get h3 e1) (PyProof.Rows.Reads.keeps hk e2) hr
  exact ⟨ys[i], H, I.kept (t' := tk) hk, g2, q i ys[i] d (List.getElem?_eq_getElem hil) e1 ed⟩
theorem c_max (hc : X.calm = true) (hu : X.A.units + 64 < cLine) : CallR X (.builtin "max") (rBest X.K PySem.W.maxD) := best_core hc hu fun h1 h2 h3 h4 h5 h6 => PySem.W.max_list_data h1 h2 h3 h4 h5 h6
theorem c_min (hc : X.calm = true) (hu : X.A.units + 64 < cLine) : CallR X (.builtin "min") (rBest X.K PySem.W.minD) := best_core hc hu fun h1 h2 h3 h4 h5 h6 => PySem.W.min_list_data h1 h2 h3 h4 h5 h6
end
theorem d_best {b : Bs} (g : Dt → List Dt → Dt) : DoesN b (rBest b.K g) (bestD g) := fun {c G H ρ σ xs ds z Q} S hx e q => by
  unfold bestD at e
  split at e
  · rename_i x xs'
    split at e
    · rename_i hs
      cases e
      rw [Bool.and_eq_true] at hs
      cases hx with
      | cons h1 h2 =>
        cases h2
        obtain ⟨p, vs, rfl, r1, r2⟩ := h1.list S.gh
        refine ⟨p, vs, x, xs', rfl, SqL.of r1, Rps.dp _ _ (Rps.mono S.gh _ _ r2), Rps.plain _ _ r2, alikeB_of hs.2, shL_of hs.1, fun i y d e1 e2 e3 => ?_⟩
        obtain ⟨d', e4, e5⟩ := r2.getV e1
        rw [e2] at e4
        cases e4
        rw [e3] at e5
        exact fin_d S q e5
    · cases e
  · cases e
  · cases e
def two2 (g : Int → Int → Int) : List Dt → Option Rv
  | [.int i, .int j] => some (.d (.int (g i j)))
  | _ => none
def intsOf : List Dt → Option (List Int)
  | [] => some []
  | .int i :: xs => (intsOf xs).map fun r => i :: r
  | _ => none
def boolsOf : List Dt → Option (List Bool)
  | [] => some []
  | .bool i :: xs => (boolsOf xs).map fun r => i :: r
  | _ => none
theorem intsOf_map (ns : List Int) : intsOf (ns.map PyData.int) = some ns := by
  induction ns with
  | nil => rfl
  | cons n ns ih =>
    show (intsOf (ns.map PyData.int)).map (fun r => n :: r) = _
    rw [ih]
    rfl
theorem boolsOf_map (ns : List Bool) : boolsOf (ns.map PyData.bool) = some ns := by
  induction ns with
  | nil => rfl
  | cons n ns ih =>
    show (boolsOf (ns.map PyData.bool)).map (fun r => n :: r) = _
    rw [ih]
    rfl
theorem intsOf_of : ∀ {xs : List Dt} {ns : List Int}, intsOf xs = some ns → xs = ns.map PyData.int
  | [], _, h => by cases h; rfl
  | x :: xs, ns, h => by
    unfold intsOf at h
    split at h
    · rename_i h0
      cases h0
    · rename_i i ys h0
      cases h0
      cases q : intsOf xs with
      | none => rw [q] at h; cases h
      | some r =>
        rw [q] at h
        cases h
        rw [intsOf_of q]
        rfl
    · cases h
theorem boolsOf_of : ∀ {xs : List Dt} {ns : List Bool}, boolsOf xs = some ns → xs = ns.map PyData.bool
  | [], _, h => by cases h; rfl
  | x :: xs, ns, h => by
    unfold boolsOf at h
    split at h
    · rename_i h0
      cases h0
    · rename_i i ys h0
      cases h0
      cases q : boolsOf xs with
      | none => rw [q] at h; cases h
      | some r =>
        rw [q] at h
        cases h
        rw [boolsOf_of q]
        rfl
    · cases h
def sumD : List Dt → Option Rv
  | [.list xs] => (intsOf xs).map fun ns => .d (.int ns.sum)
  | _ => none
def anyD : List Dt → Option Rv
  | [.list xs] => (boolsOf xs).map fun ns => .d (.bool (ns.any id))
  | _ => none
def allD : List Dt → Option Rv
  | [.list xs] => (boolsOf xs).map fun ns => .d (.bool (ns.all id))
  | _ => none
def listD : List Dt → Option Rv
  | [.list xs] => some (.l xs)
  | [.tuple xs] => some (.l xs)
  | _ => none
def tupD : List Dt → Option Rv
  | [.list xs] => some (.d (.tuple xs))
  | _ => none
def intD : List Dt → Option Rv
  | [.int i] => some (.d (.int i))
  | [.bool k] => some (.d (.int (if k then 1 else 0)))
  | _ => none
theorem ros1 {K : Fg} {G H : Hp} {vs : List V} {d : Dt} (h : ROs K G H vs [d]) : ∃ v, vs = [v] ∧ RO K G H v d := by
  cases h with
  | cons h1 h2 => cases h2; exact ⟨_, rfl, h1⟩
theorem ros2 {K : Fg} {G H : Hp} {vs : List V} {d e : Dt} (h : ROs K G H vs [d, e]) : ∃ v u, vs = [v, u] ∧ RO K G H v d ∧ RO K G H u e := by
  cases h with
  | cons h1 h2 =>
    cases h2 with
    | cons h3 h4 => cases h4; exact ⟨_, _, rfl, h1, h3⟩
theorem d_two2 {b : Bs} (g : Int → Int → Int) : DoesN b (fun xs H Q => ∃ i j, xs = [.int i, .int j] ∧ Q (.int (g i j)) H) (two2 g) := fun {c G H ρ σ xs ds z Q} S hx e q => by
  unfold two2 at e
  split at e
  · cases e
    obtain ⟨v, u, rfl, h1, h2⟩ := ros2 hx
    rw [h1.int, h2.int]
    exact ⟨_, _, rfl, fin_d S q (.int _)⟩
  · cases e
theorem d_sum {b : Bs} : DoesN b (rSum b.K) sumD := fun {c G H ρ σ xs ds z Q} S hx e q => by
  unfold sumD at e
  split at e
  · rename_i ys
    obtain ⟨v, rfl, h1⟩ := ros1 hx
    cases hy : intsOf ys with
    | none => rw [hy] at e; cases e
    | some ns =>
      rw [hy] at e
      cases e
      have := intsOf_of hy
      subst this
      obtain ⟨p, vs, rfl, r1, r2⟩ := h1.list S.gh
      rw [r2.ints] at r1
      exact ⟨p, ns, rfl, SqL.of r1, fin_d S q (.int _)⟩
  · cases e
theorem d_any {b : Bs} : DoesN b (rAny b.K) anyD := fun {c G H ρ σ xs ds z Q} S hx e q => by
  unfold anyD at e
  split at e
  · rename_i ys
    obtain ⟨v, rfl, h1⟩ := ros1 hx
    cases hy : boolsOf ys with
    | none => rw [hy] at e; cases e
    | some ns =>
      rw [hy] at e
      cases e
      have := boolsOf_of hy
      subst this
      obtain ⟨p, vs, rfl, r1, r2⟩ := h1.list S.gh
      rw [r2.bools] at r1
      exact ⟨p, ns, rfl, SqL.of r1, fin_d S q (.bl _)⟩
  · cases e
theorem d_all {b : Bs} : DoesN b (rAll b.K) allD := fun {c G H ρ σ xs ds z Q} S hx e q => by
  unfold allD at e
  split at e
  · rename_i ys
    obtain ⟨v, rfl, h1⟩ := ros1 hx
    cases hy : boolsOf ys with
    | none => rw [hy] at e; cases e
    | some ns =>
      rw [hy] at e
      cases e
      have := boolsOf_of hy
      subst this
      obtain ⟨p, vs, rfl, r1, r2⟩ := h1.list S.gh
      rw [r2.bools] at r1
      exact ⟨p, ns, rfl, SqL.of r1, fin_d S q (.bl _)⟩
  · cases e
theorem d_list {b : Bs} : DoesN b (fun xs H Q => ∃ p ys, xs = [.ref p] ∧ (SqL b.K H p ys ∨ SqT b.K H p ys) ∧ ∀ l, H l = none → Q (.ref l) (upd H l (.lst ys))) listD := fun {c G H ρ σ xs ds z Q} S hx e q => by
  unfold listD at e
  split at e
  · cases e
    obtain ⟨v, rfl, h1⟩ := ros1 hx
    obtain ⟨p, vs, rfl, r1, r2⟩ := h1.list S.gh
    exact ⟨p, vs, rfl, .inl (SqL.of r1), fun l hl => fin_l S q hl r2⟩
  · cases e
    obtain ⟨v, rfl, h1⟩ := ros1 hx
    obtain ⟨p, vs, rfl, r1, r2⟩ := h1.tup
    exact ⟨p, vs, rfl, .inr (same_sqT S.gh r1), fun l hl => fin_l S q hl r2⟩
  · cases e
theorem fin_t {b : Bs} {c : Fc} {G H : Hp} {ρ : Ev} {σ : St} {p : Addr} {vs : List V} {xs : List Dt} {Q : VK} (S : SIG b c G ρ σ H) (q : ∀ v H' G', Same G G' → SIG b c G' ρ σ H' → RN b c G' H' v (.d (.tuple xs)) → Apart ρ σ v (.d (.tuple xs)) → Q v H') (hp : H p = none) (r : Rps b.K G vs xs) : Q (.ref p) (upd H p (.tup vs)) := by
  obtain ⟨e2, S2⟩ := S.lay (o := .tup vs) hp
  exact q (.ref p) _ _ e2 S2 (.tup (SqT.of upd_same) (Rps.mono e2 _ _ r)) fun p' _ z => by cases z
theorem d_tup {b : Bs} : DoesN b (fun xs H Q => ∃ p ys, xs = [.ref p] ∧ ((SqL b.K H p ys ∧ ∀ l, H l = none → Q (.ref l) (upd H l (.tup ys))) ∨ (SqT b.K H p ys ∧ Q (.ref p) H))) tupD := fun {c G H ρ σ xs ds z Q} S hx e q => by
  unfold tupD at e
  split at e
  · cases e
    obtain ⟨v, rfl, h1⟩ := ros1 hx
    obtain ⟨p, vs, rfl, r1, r2⟩ := h1.list S.gh
    exact ⟨p, vs, rfl, .inl ⟨SqL.of r1, fun l hl => fin_t S q hl r2⟩⟩
  · cases e
theorem d_int {b : Bs} : DoesN b (fun xs H Q => (∃ i, xs = [.int i] ∧ Q (.int i) H) ∨ ∃ k, xs = [.bl k] ∧ Q (.int (if k then 1 else 0)) H) intD := fun {c G H ρ σ xs ds z Q} S hx e q => by
  unfold intD at e
  split at e
  · cases e
    obtain ⟨v, rfl, h1⟩ := ros1 hx
    rw [h1.int]
    exact .inl ⟨_, rfl, fin_d S q (.int _)⟩
  · cases e
    obtain ⟨v, rfl, h1⟩ := ros1 hx
    rw [h1.bool]
    exact .inr ⟨_, rfl, fin_d S q (.int _)⟩
  · cases e
section
variable {X : Cx} {b : Bs} {W : WX} {p pos : Pos} {e e2 : Expr} {fl : M (List Av)}
theorem m_max1 (hK : X.K = b.K) (hc : X.calm = true) (hu : X.A.units + 64 < cLine) (hg : Gl X "max") (hm : X.mg "max" = none) (ha : PA X [e] (tL b W fl)) (hs : starEach [e] X.env = (false, eval e X.env) :: starEach [] X.env := by rfl) : PE X (.Call (.Name "max" p) [e] [] pos) (tV b W (biM (bestD PySem.W.maxD) fl)) :=
  m_bi (c_max hc hu) (by rw [hK]; exact d_best _) hg hm (by decide +kernel) ha (by decide) (by decide) hs
theorem m_min1 (hK : X.K = b.K) (hc : X.calm = true) (hu : X.A.units + 64 < cLine) (hg : Gl X "min") (hm : X.mg "min" = none) (ha : PA X [e] (tL b W fl)) (hs : starEach [e] X.env = (false, eval e X.env) :: starEach [] X.env := by rfl) : PE X (.Call (.Name "min" p) [e] [] pos) (tV b W (biM (bestD PySem.W.minD) fl)) :=
  m_bi (c_min hc hu) (by rw [hK]; exact d_best _) hg hm (by decide +kernel) ha (by decide) (by decide) hs
theorem m_max2 (hc : X.calm = true) (hg : Gl X "max") (hm : X.mg "max" = none) (ha : PA X [e, e2] (tL b W fl)) (hs : starEach [e, e2] X.env = (false, eval e X.env) :: starEach [e2] X.env := by rfl) (hpl : (backTo pos (starEach [e2] X.env)).any (·.1) = false := by rfl) : PE X (.Call (.Name "max" p) [e, e2] [] pos) (tV b W (biM (two2 fun i j => if j > i then j else i) fl)) :=
  m_bi (call_max2 hc) (d_two2 _) hg hm (by decide +kernel) ha (by decide) (by decide) hs hpl
theorem m_min2 (hc : X.calm = true) (hg : Gl X "min") (hm : X.mg "min" = none) (ha : PA X [e, e2] (tL b W fl)) (hs : starEach [e, e2] X.env = (false, eval e X.env) :: starEach [e2] X.env := by rfl) (hpl : (backTo pos (starEach [e2] X.env)).any (·.1) = false := by rfl) : PE X (.Call (.Name "min" p) [e, e2] [] pos) (tV b W (biM (two2 fun i j => if j < i then j else i) fl)) :=
  m_bi (call_min2 hc) (d_two2 _) hg hm (by decide +kernel) ha (by decide) (by decide) hs hpl
theorem m_sum (hK : X.K = b.K) (hc : X.calm = true) (hg : Gl X "sum") (hm : X.mg "sum" = none) (ha : PA X [e] (tL b W fl)) (hs : starEach [e] X.env = (false, eval e X.env) :: starEach [] X.env := by rfl) : PE X (.Call (.Name "sum" p) [e] [] pos) (tV b W (biM sumD fl)) :=
  m_bi (cr_sum hc) (by rw [hK]; exact d_sum) hg hm (by decide +kernel) ha (by decide) (by decide) hs
theorem m_any (hK : X.K = b.K) (hc : X.calm = true) (hg : Gl X "any") (hm : X.mg "any" = none) (ha : PA X [e] (tL b W fl)) (hs : starEach [e] X.env = (false, eval e X.env) :: starEach [] X.env := by rfl) : PE X (.Call (.Name "any" p) [e] [] pos) (tV b W (biM anyD fl)) :=
  m_bi (cr_any hc) (by rw [hK]; exact d_any) hg hm (by decide +kernel) ha (by decide) (by decide) hs
theorem m_all (hK : X.K = b.K) (hc : X.calm = true) (hg : Gl X "all") (hm : X.mg "all" = none) (ha : PA X [e] (tL b W fl)) (hs : starEach [e] X.env = (false, eval e X.env) :: starEach [] X.env := by rfl) : PE X (.Call (.Name "all" p) [e] [] pos) (tV b W (biM allD fl)) :=
  m_bi (cr_all hc) (by rw [hK]; exact d_all) hg hm (by decide +kernel) ha (by decide) (by decide) hs
theorem m_list (hK : X.K = b.K) (hg : Gl X "list") (hm : X.mg "list" = none) (ha : PA X [e] (tL b W fl)) (hs : starEach [e] X.env = (false, eval e X.env) :: starEach [] X.env := by rfl) : PE X (.Call (.Name "list" p) [e] [] pos) (tV b W (biM listD fl)) :=
  m_ty call_list_of (by rw [hK]; exact d_list) hg hm (by decide +kernel) ha (by decide) (by decide) hs
theorem m_tuple (hK : X.K = b.K) (hg : Gl X "tuple") (hm : X.mg "tuple" = none) (ha : PA X [e] (tL b W fl)) (hs : starEach [e] X.env = (false, eval e X.env) :: starEach [] X.env := by rfl) : PE X (.Call (.Name "tuple" p) [e] [] pos) (tV b W (biM tupD fl)) :=
  m_ty call_tuple_of (by rw [hK]; exact d_tup) hg hm (by decide +kernel) ha (by decide) (by decide) hs
theorem m_intc (hg : Gl X "int") (hm : X.mg "int" = none) (ha : PA X [e] (tL b W fl)) (hs : starEach [e] X.env = (false, eval e X.env) :: starEach [] X.env := by rfl) : PE X (.Call (.Name "int" p) [e] [] pos) (tV b W (biM intD fl)) :=
  m_ty call_int1 d_int hg hm (by decide +kernel) ha (by decide) (by decide) hs
end
end G8
namespace G8
open PySem L2
/-! methods of lists that only look -/
def rLook (K : Fg) (g : List Dt → Dt → Option Int) : V → List V → Hp → VK → Prop := fun x xs H Q => ∃ (a : Addr) (y : V) (d : Dt) (ds : List Dt) (z : Int), x = .ref a ∧ xs = [y] ∧ Dp K H (.ref a) (.list ds) ∧ Dp K H y d ∧ PyData.plainAll ds = true ∧ d.plain = true ∧ d.depth ≤ 60 ∧ g ds d = some z ∧ Q (.int z) H
def countD (ds : List Dt) (d : Dt) : Option Int := some ((ds.countP fun y => PyData.eqv y d : Nat) : Int)
def indexD (ds : List Dt) (d : Dt) : Option Int := (SeqAt.dataPlace ds d).map fun j => ((j : Nat) : Int)
section
variable {X : Cx}
theorem c_count (hu : X.A.units + 64 < cLine) : MtR X "list.count" (rLook X.K countD) := by
  intro pins s σ H x xs v us Q I rx rxs h
  obtain ⟨a, y, d, ds, z, rfl, rfl, hl, hy, h1, h2, h3, hg, q⟩ := h
  cases rx
  obtain ⟨uy, rfl, ry⟩ := vals1 rxs
  cases hg
  obtain ⟨bs, r1⟩ := Dp.reads I d y uy hy ry
  cases hl with
  | lst hs ha =>
    obtain ⟨its, rv, ⟨o, n, ho, hcl, hdn, hdt⟩, hlen⟩ := I.list hs
    obtain ⟨as, h4⟩ := Dp.readsAll I ds _ its ha rv
    refine SeqAt.count_list_data (vs := its.toArray) ⟨o, ho, hcl, n, hdt⟩ (by simpa using h4) r1 h1 h2 (by have := Nat.min_le_right (PyData.depthAll ds) d.depth; omega) ?_
    exact ⟨.int _, H, I.tok _, ⟨_, rfl⟩, q⟩
theorem c_index (hu : X.A.units + 64 < cLine) : MtR X "list.index" (rLook X.K indexD) := by
  intro pins s σ H x xs v us Q I rx rxs h
  obtain ⟨a, y, d, ds, z, rfl, rfl, hl, hy, h1, h2, h3, hg, q⟩ := h
  cases rx
  obtain ⟨uy, rfl, ry⟩ := vals1 rxs
  obtain ⟨bs, r1⟩ := Dp.reads I d y uy hy ry
  cases hl with
  | lst hs ha =>
    obtain ⟨its, rv, ⟨⟨cls, dd, data, sls⟩, n, ho, hcl, hdn, hdt⟩, hlen⟩ := I.list hs
    simp only at hcl hdt
    subst hcl hdt
    obtain ⟨as, h4⟩ := Dp.readsAll I ds _ its ha rv
    unfold indexD at hg
    cases hp : SeqAt.dataPlace ds d with
    | none => rw [hp] at hg; cases hg
    | some j =>
      rw [hp] at hg
      cases hg
      have hs' := sizeLine_eq
      have hvl := rv.length
      obtain ⟨hj, hit, hno⟩ := SeqAt.hit_at (vs := its.toArray) (by simpa using h4) h1 hp
      have hjl : j < its.length := by simpa using hj
      refine call_meets PySem.F.slot_list_index ⟨_, ho, rfl⟩ PySem.F.entry_list_index (PySem.F.args_list_index_2 _ _)
        (SeqAt.list_indexAt a its.toArray n dd sls uy (fun u => PyData.eqv (SeqAt.readOf s.heap u) d) j hj (by omega) hit hno) ⟨ho, SeqAt.items_plain (vs := its.toArray) (by simpa using h4) r1 h1 h2 (by have := Nat.min_le_right (PyData.depthAll ds) d.depth; omega), ?_⟩
      exact ⟨.int (j : Nat), H, I.tok _, ⟨_, rfl⟩, q⟩
end
def isL : Dt → Option Unit
  | .list _ => some ()
  | _ => none
def lookD (g : List Dt → Dt → Option Int) : Dt → List Dt → Option Dt
  | .list xs, [d] => if shal d then (g xs d).map fun z => .int z else none
  | _, _ => none
def meM (g : Dt → List Dt → Option Dt) (fo : M Av) (fl : M (List Av)) : M Av := bindM fo fun o => bindM (optM fun ρ => (res ρ o).bind isL) fun _ => bindM fl fun as => optM fun ρ => (res ρ o).bind fun x => (ress ρ as).bind fun ds => (g x ds).map Av.d
section
variable {X : Cx} {b : Bs} {W : WX} {o e : Expr} {es : List Expr} {name : Str} {id : String} {fo : M Av} {fl : M (List Av)} {apos cpos : Pos}
theorem look_core {g : List Dt → Dt → Option Int} {σ : St} {H : Hp} {Q : VK} (h : tE b W (meM (lookD g) fo fl) σ H Q) : tBM b.K "list" (rLook b.K g) (tE b W fo) (tL b W fl) σ H Q := by
  obtain ⟨c, G, ρ, S, q⟩ := h
  refine ⟨c, G, ρ, S, (Post.bind q).imp fun oa ρ1 G1 H1 e1 S1 q1 v hv => ?_⟩
  obtain ⟨u, h1, h2⟩ := (Post.bind q1).opt S1
  cases hx : res ρ1 oa with
  | none => rw [hx] at h1; cases h1
  | some x =>
    rw [hx] at h1
    cases x with
    | list xs =>
      obtain ⟨p, vs, rfl, r1, r2⟩ := (hv.res S1 hx).list S1.gh
      refine ⟨.inl ⟨rfl, vs, SqL.of r1⟩, c, G1, ρ1, S1, (Post.bind h2).imp fun as ρ2 G2 H2 e2 S2 q2 ws hws => ?_⟩
      obtain ⟨z, h3, h4⟩ := q2.opt S2
      cases hx2 : res ρ2 oa with
      | none => rw [hx2] at h3; cases h3
      | some x2 =>
        rw [hx2] at h3
        dsimp only [Option.bind_some] at h3
        cases hd : ress ρ2 as with
        | none => rw [hd] at h3; cases h3
        | some ds =>
          rw [hd] at h3
          dsimp only [Option.bind_some] at h3
          have rr := (hv.mono e2).res S2 hx2
          have ra := ress_of S2 hws hd
          unfold lookD at h3
          split at h3
          · rename_i ys d
            split at h3
            · rename_i hs
              cases hg : g ys d with
              | none => rw [hg] at h3; cases h3
              | some n =>
                rw [hg] at h3
                cases h3
                obtain ⟨y, rfl, ry⟩ := ros1 ra
                exact ⟨p, y, d, ys, n, rfl, rfl, rr.dp S2.gh, ry.dp S2.gh, rr.plain, ry.plain, sh_of hs, hg, h4 _ (.int n)⟩
            · cases h3
          · cases h3
    | _ => cases h1
theorem m_count (hK : X.K = b.K) (hu : X.A.units + 64 < cLine) (ho : PE X o (tE b W fo)) (ha : PA X [e] (tL b W fl)) (hbase : attributeBase o "count" X.env (eval o X.env) = eval o X.env := by rfl)
    (hp : ∀ {to : TE} {t : TA} {r : V → List V → Hp → VK → Prop}, MtR X "list.count" r → PE X o to → PA X [e] t → PE X (.Call (.Attribute o "count" apos) [e] [] cpos) (tBM X.K "list" r to t)) : PE X (.Call (.Attribute o "count" apos) [e] [] cpos) (tE b W (meM (lookD countD) fo fl)) :=
  weakE (hp (c_count hu) ho ha) fun σ H Q h => by rw [hK]; exact look_core h
theorem m_index (hK : X.K = b.K) (hu : X.A.units + 64 < cLine) (ho : PE X o (tE b W fo)) (ha : PA X [e] (tL b W fl))
    (hp : ∀ {to : TE} {t : TA} {r : V → List V → Hp → VK → Prop}, MtR X "list.index" r → PE X o to → PA X [e] t → PE X (.Call (.Attribute o "index" apos) [e] [] cpos) (tBM X.K "list" r to t)) : PE X (.Call (.Attribute o "index" apos) [e] [] cpos) (tE b W (meM (lookD indexD) fo fl)) :=
  weakE (hp (c_index hu) ho ha) fun σ H Q h => by rw [hK]; exact look_core h
end
/-! methods that change a list -/
def MutOk (b : Bs) (r : V → List V → Hp → VK → Prop) (g : List Dt → List Dt → Option (Dt × List Dt)) : Prop := ∀ {G H : Hp} {p : Addr} {vl : List V} {xs : List Dt} {args : List V} {ds : List Dt} {y : Dt} {ys : List Dt} {Q : VK}, Same G H → H p = some (.lst vl) → Rps b.K G vl xs → Rps b.K G args ds → g xs ds = some (y, ys) →
  (∀ v vs', Rp b.K G v y → Rps b.K G vs' ys → Q v (upd H p (.lst vs'))) → r (.ref p) args H Q
def slotL : Option (Option Sv) → Option (Bool × List Dt)
  | some (some (.ls r xs)) => some (r, xs)
  | _ => none
def mutM (i : Nat) (g : List Dt → List Dt → Option (Dt × List Dt)) (fl : M (List Av)) : M Rv := bindM (optM fun ρ => slotL ρ[i]?) fun _ => bindM fl fun as ρ => match slotL ρ[i]?, fzs ρ as with
  | some (r, xs), some ds => (match g xs ds with
    | some (y, ys) => .ok (.d y) (ρ.set i (some (.ls r ys)))
    | none => .bad)
  | _, _ => .bad
theorem slotL_of {o : Option (Option Sv)} {r : Bool} {xs : List Dt} (h : slotL o = some (r, xs)) : o = some (some (.ls r xs)) := by
  unfold slotL at h
  split at h
  · cases h; rfl
  · cases h
section
variable {X : Cx} {b : Bs} {W : WX} {x : Str} {e : Expr} {es : List Expr} {fl : M (List Av)} {i : Nat} {pos : Pos}
theorem mut_core {r : V → List V → Hp → VK → Prop} {g : List Dt → List Dt → Option (Dt × List Dt)} (mo : MutOk b r g) {σ : St} {H : Hp} {Q : VK} (h : tV b W (mutM i g fl) σ H Q) : tBM b.K "list" r (tVar i) (tL b W fl) σ H Q := by
  obtain ⟨c, G, ρ, S, q⟩ := h
  obtain ⟨⟨r0, xs0⟩, h1, h2⟩ := (Post.bind q).opt S
  have hs0 := slotL_of h1
  obtain ⟨v, hv, p, vs, rfl, a2, a3, a4⟩ := S.sl i _ hs0
  refine ⟨.ref p, hv, .inl ⟨rfl, vs, SqL.of a2⟩, c, G, ρ, S, (Post.bind h2).imp fun as ρ1 G1 H1 e1 S1 q1 ws hws => ?_⟩
  split at q1
  · rename_i r1 xs ds hsl hf
    have hs1 := slotL_of hsl
    split at q1
    · rename_i y ys hg
      obtain ⟨v', hv', p', vs', e', b2, b3, b4⟩ := S1.sl i _ hs1
      rw [hv] at hv'
      cases hv'
      cases e'
      refine mo S1.gh b2 b4 (fzs_of S1 hws hf) hg fun w ws' rw_ rws => ?_
      have S2 := S1.mut (o := .lst ws') (sv' := .ls r1 ys) hs1 rfl hv rfl rfl ⟨p, ws', rfl, upd_same, b3, rws⟩
      exact q1 _ G1 (Same.refl G1) S2 w rw_ fun _ _ z => by cases z
    · exact q1.elim
  · exact q1.elim
theorem mut_core0 {r : V → List V → Hp → VK → Prop} {g : List Dt → List Dt → Option (Dt × List Dt)} (mo : MutOk b r g) {σ : St} {H : Hp} {Q : VK} (h : tV b W (mutM i g (retM [])) σ H Q) : tBM0 b.K "list" r (tVar i) σ H Q := by
  obtain ⟨v, hv, ty, c, G, ρ, S, q⟩ := mut_core mo h
  exact ⟨v, hv, ty, q.ret S [] .nil⟩
end
def appD (xs ds : List Dt) : Option (Dt × List Dt) := match ds with
  | [d] => if xs.length < 1000000 then some (.none, xs ++ [d]) else none
  | _ => none
def extD (xs ds : List Dt) : Option (Dt × List Dt) := match ds with
  | [.list ys] => if xs.length + ys.length ≤ 1000000 then some (.none, xs ++ ys) else none
  | _ => none
def insD (xs ds : List Dt) : Option (Dt × List Dt) := match ds with
  | [.int i, d] => if xs.length < 1000000 ∧ 0 ≤ i ∧ mid i = true then some (.none, xs.take i.toNat ++ [d] ++ xs.drop i.toNat) else none
  | _ => none
def popD (xs ds : List Dt) : Option (Dt × List Dt) := match ds with
  | [] => (xs[xs.length - 1]?).map fun y => (y, xs.dropLast)
  | _ => none
def popAtD (xs ds : List Dt) : Option (Dt × List Dt) := match ds with
  | [.int i] => if 0 ≤ i ∧ i < xs.length ∧ mid i = true then (xs[i.toNat]?).map fun y => (y, xs.eraseIdx i.toNat) else none
  | _ => none
def remD (xs ds : List Dt) : Option (Dt × List Dt) := match ds with
  | [d] => if shal d && decide (xs.length ≤ 1000000) then (SeqAt.dataPlace xs d).map fun j => (.none, xs.eraseIdx j) else none
  | _ => none
theorem rps1 {K : Fg} {G : Hp} {vs : List V} {d : Dt} (h : Rps K G vs [d]) : ∃ v, vs = [v] ∧ Rp K G v d := by
  cases h with
  | cons h1 h2 => cases h2; exact ⟨_, rfl, h1⟩
theorem rps2 {K : Fg} {G : Hp} {vs : List V} {d e : Dt} (h : Rps K G vs [d, e]) : ∃ v u, vs = [v, u] ∧ Rp K G v d ∧ Rp K G u e := by
  cases h with
  | cons h1 h2 =>
    cases h2 with
    | cons h3 h4 => cases h4; exact ⟨_, _, rfl, h1, h3⟩
theorem lt_line {n : Nat} (h : n < 1000000) : n < sizeLine := Nat.lt_of_lt_of_le h (by decide)
theorem k_app {b : Bs} : MutOk b rAppend appD := fun {G H p vl xs args ds y ys Q} sg hp r ra e q => by
  unfold appD at e
  split at e
  · split at e
    · rename_i d hl
      cases e
      obtain ⟨v, rfl, rv⟩ := rps1 ra
      exact ⟨p, vl, v, rfl, rfl, hp, by rw [r.length]; exact lt_line hl, q _ _ .non (r.append (.cons rv .nil))⟩
    · cases e
  · cases e
theorem k_ext {b : Bs} : MutOk b rExtend extD := fun {G H p vl xs args ds y ys Q} sg hp r ra e q => by
  unfold extD at e
  split at e
  · split at e
    · rename_i zs hl
      cases e
      obtain ⟨v, rfl, rv⟩ := rps1 ra
      cases rv with
      | lst r1 r2 => exact ⟨p, _, vl, _, rfl, rfl, hp, sg _ _ r1, by rw [r.length, r2.length]; exact le_line hl, q _ _ .non (r.append r2)⟩
    · cases e
  · cases e
theorem k_ins {b : Bs} : MutOk b (fun x vs H Q => ∃ (l : Addr) (xs : List V) (i : Int) (y : V), x = .ref l ∧ vs = [.int i, y] ∧ H l = some (.lst xs) ∧ xs.length < sizeLine ∧ 0 ≤ i ∧ i < 2 ^ 63 ∧ Q .non (upd H l (.lst (xs.take i.toNat ++ [y] ++ xs.drop i.toNat)))) insD := fun {G H p vl xs args ds y ys Q} sg hp r ra e q => by
  unfold insD at e
  split at e
  · split at e
    · rename_i i d hl
      cases e
      obtain ⟨v, u, rfl, rv, ru⟩ := rps2 ra
      cases rv
      exact ⟨p, vl, i, u, rfl, rfl, hp, by rw [r.length]; exact lt_line hl.1, hl.2.1, by have := mid_of hl.2.2; omega, q _ _ .non (((r.take _).append (.cons ru .nil)).append (r.drop _))⟩
    · cases e
  · cases e
theorem Rps.dropLast {K : Fg} {G : Hp} {vs : List V} {ds : List Dt} (h : Rps K G vs ds) : Rps K G vs.dropLast ds.dropLast := by
  rw [List.dropLast_eq_take, List.dropLast_eq_take, h.length]
  exact h.take _
theorem k_pop {b : Bs} : MutOk b rPop popD := fun {G H p vl xs args ds y ys Q} sg hp r ra e q => by
  unfold popD at e
  split at e
  · cases hx : xs[xs.length - 1]? with
    | none => rw [hx] at e; cases e
    | some z =>
      rw [hx] at e
      cases e
      cases ra
      obtain ⟨v, h1, h2⟩ := r.get hx
      exact ⟨p, vl, v, rfl, rfl, hp, by rw [r.length]; exact h1, q _ _ h2 r.dropLast⟩
  · cases e
theorem k_popAt {b : Bs} : MutOk b rPopAt popAtD := fun {G H p vl xs args ds y ys Q} sg hp r ra e q => by
  unfold popAtD at e
  split at e
  · split at e
    · rename_i i hl
      cases hx : xs[i.toNat]? with
      | none => rw [hx] at e; cases e
      | some z =>
        rw [hx] at e
        cases e
        obtain ⟨v, rfl, rv⟩ := rps1 ra
        cases rv
        obtain ⟨w, h1, h2⟩ := r.get hx
        have hmi := mid_of hl.2.2
        refine ⟨p, vl, i, i.toNat, w, rfl, rfl, hp, by omega, by omega, ?_, h1, q _ _ h2 (r.erase _)⟩
        rw [r.length]
        exact (ixN_seq (by unfold ixN; rw [if_pos hl.1, if_pos hl.2.1])).1
    · cases e
  · cases e
/-- l.remove(x), x there -/
def rRemD (K : Fg) : V → List V → Hp → VK → Prop := fun x vs H Q => ∃ (l : Addr) (xs : List V) (y : V) (d : Dt) (ds : List Dt) (j : Nat), x = .ref l ∧ vs = [y] ∧ H l = some (.lst xs) ∧ DpAll K H xs ds ∧ Dp K H y d ∧ PyData.plainAll ds = true ∧ d.plain = true ∧ d.depth ≤ 60 ∧ SeqAt.dataPlace ds d = some j ∧ Q .non (upd H l (.lst (xs.eraseIdx j)))
theorem c_rem {X : Cx} (hu : X.A.units + 64 < cLine) : MtR X "list.remove" (rRemD X.K) := by
  intro pins s σ H x vs v us Q I rx rv h
  obtain ⟨l, xs, y, d, ds, j, rfl, rfl, hH, ha, hy, h1, h2, h3, hp, q⟩ := h
  cases rx
  obtain ⟨u, rfl, ru⟩ := vals1 rv
  obtain ⟨bs, r1⟩ := Dp.reads I d y u hy ru
  obtain ⟨z, its, n, r, hl, e⟩ := I.lstM hH
  obtain ⟨as, h4⟩ := Dp.readsAll I ds _ its ha r
  refine SeqAt.remove_list_data (vs := its.toArray) ⟨_, e, rfl, n, rfl⟩ (by simpa using h4) r1 h1 h2 (by have := Nat.min_le_right (PyData.depthAll ds) d.depth; omega) hp (by rw [List.size_toArray]; omega) ?_
  refine ⟨.non, _, I.lset (its' := its.eraseIdx j) (t' := s.toks) hH e ?_ (r.eraseIdx j) ?_, rfl, q⟩
  · show its.toArray.eraseIdxIfInBounds j = (its.eraseIdx j).toArray
    rw [List.eraseIdxIfInBounds_toArray]
  · exact Nat.le_trans (len_erase xs j) z
theorem k_rem {b : Bs} : MutOk b (rRemD b.K) remD := fun {G H p vl xs args ds y ys Q} sg hp r ra e q => by
  unfold remD at e
  split at e
  · rename_i d
    split at e
    · rename_i hl
      cases hx : SeqAt.dataPlace xs d with
      | none => rw [hx] at e; cases e
      | some j =>
        rw [hx] at e
        cases e
        rw [Bool.and_eq_true] at hl
        obtain ⟨v, rfl, rv⟩ := rps1 ra
        exact ⟨p, vl, v, d, xs, j, rfl, rfl, hp, Rps.dp _ _ (Rps.mono sg _ _ r), Rp.dp _ _ (Rp.mono sg _ _ rv), Rps.plain _ _ r, Rp.plain _ _ rv, sh_of hl.1, hx, q _ _ .non (r.erase _)⟩
    · cases e
  · cases e
section
variable {X : Cx} {b : Bs} {W : WX} {x : Str} {e : Expr} {es : List Expr} {fl : M (List Av)} {pos apos cpos : Pos}
theorem m_mut {r : V → List V → Hp → VK → Prop} {g : List Dt → List Dt → Option (Dt × List Dt)} (hK : X.K = b.K) (i : Nat) (mo : MutOk b r g) (h : PE X e (tBM X.K "list" r (tVar i) (tL b W fl))) : PE X e (tV b W (mutM i g fl)) :=
  weakE h fun σ H Q h => by rw [hK]; exact mut_core mo h
theorem m_mut0 {r : V → List V → Hp → VK → Prop} {g : List Dt → List Dt → Option (Dt × List Dt)} (hK : X.K = b.K) (i : Nat) (mo : MutOk b r g) (h : PE X e (tBM0 X.K "list" r (tVar i))) : PE X e (tV b W (mutM i g (retM []))) :=
  weakE h fun σ H Q h => by rw [hK]; exact mut_core0 mo h
/-- an expression as a statement -/
def exprS (f : M Rv) : M Fl := bindM f fun _ => retM .nx
theorem s_expr {f : M Rv} (he : PE X e (tV b W f)) (hs : swapsWith e none pos.line X.env = pure false := by rfl) : PS X (.Expr e pos) (tS b W (exprS f)) := weakS (ps_expr he hs) fun D σ H ⟨c, G, ρ, hb, S, q⟩ =>
  ⟨c, G, ρ, S, (PostS.bind σ q).imp fun r ρ1 G1 H1 e1 S1 q1 v hv ap => q1 σ H1 G1 (Same.refl G1) S1⟩
/-- x[k] = e, x a slot's own list -/
def setIt (i : Nat) (fe fk : M Av) : M Fl := bindM fe fun a => bindM (optM fun ρ => slotL ρ[i]?) fun _ => bindM fk fun k ρ => match slotL ρ[i]?, fzv ρ a, res ρ k with
  | some (r, xs), some d, some (.int n) => (match ixN xs.length n with
    | some j => .ok .nx (ρ.set i (some (.ls r (xs.set j d))))
    | none => .bad)
  | _, _, _ => .bad
theorem s_setIt {o k : Expr} {fe fk : M Av} {tp : Pos} (i : Nat) (hp : PS X (.Assign [.Subscript o k tp] e pos) (tAsg (tE b W fe) (gSub (tVar i) (tE b W fk) rSetL))) : PS X (.Assign [.Subscript o k tp] e pos) (tS b W (setIt i fe fk)) := weakS hp fun D σ H ⟨c, G, ρ, hb, S, q⟩ =>
  ⟨c, G, ρ, S, (PostS.bind σ q).imp fun a ρ1 G1 H1 e1 S1 q1 v hv => by
    obtain ⟨⟨r0, xs0⟩, h1, h2⟩ := (PostS.bind σ q1).opt S1
    have hs0 := slotL_of h1
    obtain ⟨w, hw, p, vs, rfl, a2, a3, a4⟩ := S1.sl i _ hs0
    refine ⟨.ref p, hw, c, G1, ρ1, S1, (PostS.bind σ h2).imp fun kk ρ2 G2 H2 e2 S2 q2 u hu => ?_⟩
    split at q2
    · rename_i r1 xs d n hsl hf hk
      have hs1 := slotL_of hsl
      split at q2
      · rename_i j hj
        obtain ⟨v', hv', p', vs', e', b2, b3, b4⟩ := S2.sl i _ hs1
        rw [hw] at hv'
        cases hv'
        cases e'
        refine ⟨p, vs', n, j, rfl, (hu.res S2 hk).int, b2, by rw [b4.length]; exact hj, ?_⟩
        have S3 := S2.mut (o := .lst (vs'.set j v)) (sv' := .ls r1 (xs.set j d)) hs1 rfl hw rfl rfl ⟨p, _, rfl, upd_same, b3, Rps.set ((hv.mono e2).fz S2 hf) j b4⟩
        exact q2 σ _ G2 (Same.refl G2) S3
      · exact q2.elim
    · exact q2.elim⟩
end
end G8
namespace G8
open PySem L2
/-! raise -/
def raiseM {α : Type} (k : Nat) : M α := fun ρ => .err k ρ
section
variable {X : Cx} {b : Bs} {W : WX} {e : Expr} {pos : Pos}
theorem s_raise (k : Nat) (hc : X.calm = true) (tk : Takes X W) (he : PMk X e (fun _ H Q => Q (.ref (b.C k)) none H)) : PS X (.Raise (some e) none pos) (tS b W (raiseM k)) :=
  weakS (ps_raise hc tk he) fun D σ H ⟨c, G, ρ, hb, S, q⟩ => q σ H G (Same.refl G) S
theorem s_never {st : Stmt} : PS X st (tS b W badM) := weakS ps_never fun D σ H ⟨c, G, ρ, hb, S, q⟩ => q.elim
theorem ss_never {st : List Stmt} : PSs X st (tS b W badM) := weakB pss_never fun D σ H ⟨c, G, ρ, hb, S, q⟩ => q.elim
end
/-! try: .. except X as n: .. ; the exception is kept in sight behind the suite -/
def exT (cls : Value) (d : Option Addr) (a : Addr) : HO := .ext fun h => ∃ (oe : Obj) (vs : Array Value), h.get? a = some oe ∧ Zc cls d oe ∧ oe.data = .fields vs
section
variable {X : Cx} {pins : List (Addr × Obj)} {σ : St} {H : Hp} {s : Shared}
theorem inv_track {a : Addr} {oe : Obj} {vs : Array Value} {cls : Value} {d : Option Addr} (J : Inv X pins σ H s) (ha : s.heap.get? a = some oe) (hz : Zc cls d oe) (hd : oe.data = .fields vs) (hn : H a = none) (nL : a ≠ X.env.locals) (n0 : X.s_0.heap.get? a = none) (np : ∀ p ∈ X.pn ++ pins, p.1 ≠ a) :
    Inv X pins σ (upd H a (exT cls d a)) s := by
  have un : ∀ {t u}, H t = some u → upd H a (exT cls d a) t = some u := fun {t u} z => by rw [upd_ne (ne_of_none z hn)]; exact z
  refine ⟨J.ok, J.os, J.bare, ⟨J.base.keep, J.base.slot, fun t u h1 h2 h3 => ?_, J.base.there, fun t u h1 => un (J.base.tups t u h1), fun t u w h1 => un (J.base.frzs t u w h1), fun t u h1 => ?_⟩, J.loc, J.cell, ?_, fun y t h1 => ?_, fun p hp => ?_, fun t u h1 => ?_, J.len⟩
  · rw [upd_ne (fun z => by rw [z, n0] at h1; cases h1)]
    exact J.base.free t u h1 h2 h3
  · obtain ⟨m, z⟩ := J.base.tbls t u h1
    exact ⟨m, un z⟩
  · rw [upd_ne (Ne.symm nL)]
    exact J.free
  · have hne : t ≠ a := fun z => by
      obtain ⟨w, o, h2, h3⟩ := J.cell y t h1
      rw [z, ha] at h2
      cases h2
      rw [hd] at h3
      cases h3
    rw [upd_ne hne]
    exact J.freeC y t h1
  · obtain ⟨h1, h2, h3, h4, h5⟩ := J.pin p hp
    exact ⟨h1, by rw [upd_ne (np p hp)]; exact h2, h3, h4, h5⟩
  · by_cases ht : t = a
    · subst ht
      rw [upd_same] at h1
      cases h1
      exact ⟨⟨oe, vs, ha, hz, hd⟩, ⟨oe, ha⟩, fun _ _ ⟨o, w, q, r⟩ k => ⟨o, w, k o q, r⟩⟩
    · rw [upd_ne ht] at h1
      exact (J.hok t u h1).stay (fun _ _ _ z => z) (fun _ z => un z) fun _ _ z => un z
end
def wAsT (K : Fg) (c : Value) (i : Nat) (ts : Addr → Value → Option Addr → TS) (Wo : WX) (D : Ends) : WX := fun cls d σ H =>
  ∃ k, PySem.W.exmOne K cls c = some k ∧
    (k = true → ∀ a, H a = none → ts a cls d { nx := fun σ' H' => H' a = none → D.nx (σ'.set i none) (upd H' a (exT cls d a)), rt := fun _ _ => False } (σ.set i (some (.ref a))) H) ∧ (k = false → Wo cls d σ H)
section
variable {X : Cx} {x n : Str} {c : Value} {i : Nat} {body suite : List Stmt} {s0 : Stmt} {np pos pos' : Pos} {tb : WX → TS} {ts : Addr → Value → Option Addr → TS} {Wo : WX}
theorem ps_tryT (hs : X.stack = X.env :: X.outer) (hf : X.env.frame = some X.env.locals) (hex : X.ex = []) (hN : X.N.Nodup) (hi : X.N[i]? = some n) (hln : X.env.kindOf n = some .local) (hc : Names X x c) (tk : Takes X Wo)
    (hb : ∀ (W : WX) (pn : List (Addr × Obj)) (xe : Value → Shared → Prop), Takes (X.tr pn xe) W → PassesOwn (model X.prog X.w) X.A X.env xe → PSs (X.tr pn xe) body (tb W))
    (hsu : ∀ (a : Addr) (oe : Obj) (cls : Value) (d : Option Addr) (pn : List (Addr × Obj)), PSs (X.suite a ((a, oe) :: pn)) (s0 :: suite) (ts a cls d)) :
    PS X (.Try body [.ExceptHandler (some (.Name x np)) (some n) (s0 :: suite) pos'] [] [] pos) (fun D σ H => tb (wAsT X.K c i ts Wo D) D σ H) := by
  refine ⟨fun pins s σ H D J0 h => ?_⟩
  have okX := J0.ok
  have frm : X.A.frames = some (X.env :: X.outer) := by rw [okX.frames, hs]
  refine wpAny_Try_except ?_
  refine wpAny_mono ((hb (wAsT X.K c i ts Wo D) (X.pn ++ pins) _ (fun u s1 xx => ?_) PassesOwn.looking).run [] s σ H D (J0.toTry _) h) (fun fl s1 sp => ?_) (fun e s1 he => he)
  · obtain ⟨a, B, sI, pin2, σ1, H1, cls, d, rfl, Jx, nb, up, sky, na, os, ag, k, hk, yes, no⟩ := xx
    have JI : Inv X pins σ1 H1 sI := Jx.ofTry okX
    have sky2 : Sky B (X.env :: X.outer) a (Zc cls d) X.env.locals s1.heap := by rw [← hs]; exact sky
    show wpAny (model X.prog X.w) X.A (noteFrame (.ref a) X.env) _ _ _
    refine Sky.land Zc.steady frm hf sky2 fun h2 fl2 up2 => ?_
    have J2 : Inv X pins σ1 H1 { s1 with heap := h2 } := JI.landed nb fl2.1 (up.trans up2) os ag
    obtain ⟨o2, v2, g2, z2, d2⟩ := fl2.there
    have away : a ∉ frs (X.env :: X.outer) := fun hm => by
      obtain ⟨_, o', e', nf⟩ := (fl2.2.2.1).mem hm
      rw [g2] at e'
      cases e'
      exact nf _ d2
    have nL : a ≠ X.env.locals := fun z => away (List.mem_filterMap.mpr ⟨X.env, List.mem_cons_self, by rw [hf, z]⟩)
    have nF : a ∉ X.fs := fun hm => by
      obtain ⟨e, he, q⟩ := List.mem_filterMap.mp hm
      exact away (List.mem_filterMap.mpr ⟨e, List.mem_cons_of_mem _ he, q⟩)
    have nI : sI.heap.get? a = none := by
      cases z : sI.heap.get? a with
      | none => rfl
      | some o =>
        have y := nb a o z (by rw [hs]; exact away)
        rw [fl2.2.1] at y
        cases y
    have n0 : X.s_0.heap.get? a = none := by
      cases z : X.s_0.heap.get? a with
      | none => rfl
      | some o =>
        obtain ⟨o', y⟩ := JI.base.there a o z (by rw [hex]; exact List.not_mem_nil)
        rw [nI] at y
        cases y
    have npin : ∀ p ∈ X.pn ++ pins, p.1 ≠ a := fun p hp z => by
      have y := (JI.pin p hp).1
      rw [z, nI] at y
      cases y
    have T2 := J2.suite g2 d2 na nL nF
    refine wpAny_handleBy_cons (codeAny_handlers_test ?_) (by intro q; cases q)
    have lty : PySem.W.Looks (model X.prog X.w) h2 (typeOf (.ref a)) cls := fun A Q E t kk q => wpAny_typeOf_ref (kk _ _ g2) (by rw [z2.1]; exact q)
    have lm := PySem.W.exm_one (M := model X.prog X.w) (J2.kIn) lty hk
    have named : ∀ {Q : Value → Shared → Prop} {E : Value → Shared → Prop}, Q c { s1 with heap := h2 } → wpAny (model X.prog X.w) (X.A.mark (some (.ref a))) (eval (.Name x np) X.env) Q E { s1 with heap := h2 } := fun {Q E} q => by
      obtain ⟨hg, hdbg, hm | ⟨hm, hv, hnn⟩⟩ := hc
      · exact ld_glob (X := X.suite a ((a, o2) :: (X.pn ++ pins))) T2 hg hm q hdbg
      · exact ld_blt (X := X.suite a ((a, o2) :: (X.pn ++ pins))) T2 hg hm hv q hnn hdbg
    refine named (lm.here ?_)
    cases k with
    | true =>
      refine codeAny_handlers_suite_as ?_
      refine HandSPX.lands_againZ fl2 fun h3 fl3 up3 => ?_
      have J3 : Inv X pins σ1 H1 { s1 with heap := h3 } := JI.landed nb fl3.1 ((up.trans up2).trans up3) os ag
      obtain ⟨o3, v3, g3, z3, d3⟩ := fl3.there
      have T3 := J3.suite g3 d3 na nL nF
      refine store_ok (X := X.suite a ((a, o3) :: (X.pn ++ pins))) (v := .ref a) T3 hN hi (.inl hln) rfl (fun s5 T5 => ?_) (.inr hln)
      refine wpAny_mono ((hsu a o3 cls d (X.pn ++ pins)).run [] s5 _ H1 _ T5 (yes rfl a na)) (fun fl s6 sp => ?_) (fun _ _ z => False.elim z)
      cases fl with
      | next =>
        obtain ⟨σ6, H6, T6, q6⟩ := sp
        obtain ⟨p1, p2, _⟩ := T6.pin (a, o3) (List.mem_append_left _ List.mem_cons_self)
        have J6 := inv_track (T6.unsuite okX) p1 z3 d3 p2 nL n0 npin
        exact gone_ok J6 hN hi hln fun s7 J7 => ⟨_, _, J7, q6 p2⟩
      | brk =>
        obtain ⟨_, _, _, q6⟩ := sp
        exact False.elim q6
      | cont =>
        obtain ⟨_, _, _, q6⟩ := sp
        exact False.elim q6
      | ret u =>
        obtain ⟨_, _, _, _, _, q6⟩ := sp
        exact False.elim q6
    | false =>
      show wpAny _ X.A (handleBy (.ref a) X.env []) _ _ _
      refine wpAny_handleBy_nil ?_
      obtain ⟨w1, w2, w3, oe, vs, T, oT, tl, he, hz, hd, h1, hr⟩ := id fl2
      unfold PySem.passOn
      refine wpAny_bind (wpAny_field he hd h1 ?_)
      rw [if_neg (show ¬ ((Value.ref T == Value.none) = true) from by simp)]
      have fin : wpAny (model X.prog X.w) X.A (setFlight (.ref a) X.env.frame) (fun _ s4 => wpAny (model X.prog X.w) X.A (throw (.ref a) : Sem Flow) (SP X pins D) X.xe s4) X.xe { s1 with heap := h2 } := by
        rw [hf]
        refine HandSPX.setFlight_upZ fl2 fun h4 hh4 up4 => wpAny_throw (tk _ _ ?_)
        exact ⟨a, B, sI, pins, σ1, H1, cls, d, rfl, JI, nb, (up.trans up2).trans up4, .inr (.inr (by rw [hs]; exact hh4)), na, os, ag, no rfl⟩
      first
        | exact wpAny_bind (wpAny_pure (wpAny_bind fin))
        | exact wpAny_bind fin
  · cases fl with
    | next =>
      obtain ⟨σ1, H1, J1, q⟩ := sp
      exact wpAny_execs_nil ⟨σ1, H1, J1.ofTry okX, q⟩
    | brk =>
      obtain ⟨σ1, H1, J1, q⟩ := sp
      exact ⟨σ1, H1, J1.ofTry okX, q⟩
    | cont =>
      obtain ⟨σ1, H1, J1, q⟩ := sp
      exact ⟨σ1, H1, J1.ofTry okX, q⟩
    | ret u =>
      obtain ⟨v, σ1, H1, J1, r, q⟩ := sp
      exact ⟨v, σ1, H1, J1.ofTry okX, r, q⟩
end
/-- the classes: which are caught -/
structure Exs (b : Bs) (c : Value) (g : Nat → Bool) : Prop where
  is : ∀ k, PySem.W.exmOne b.K (.ref (b.C k)) c = some (g k)
/-- try: body / except X as e: y = e -/
def tryM (g : Nat → Bool) (i j : Nat) (f : M Fl) : M Fl := fun ρ => match f ρ with
  | .err k ρ' => if g k then (if ownAt ρ'[i]? || refAt ρ'[j]? then .bad else if i = j ∨ ρ'.length ≤ i then .bad else .ok .nx ((ρ'.set i none).set j (some (.ex k)))) else .err k ρ'
  | o => o
section
variable {X : Cx} {b : Bs} {W : WX} {x n y : Str} {c : Value} {i j : Nat} {body : List Stmt} {np pos pos' p1 p2 p3 : Pos} {g : Nat → Bool} {f : M Fl}
theorem s_try (hK : X.K = b.K) (hs : X.stack = X.env :: X.outer) (hf : X.env.frame = some X.env.locals) (hex : X.ex = []) (hN : X.N.Nodup) (hi : X.N[i]? = some n) (hln : X.env.kindOf n = some .local) (hc : Names X x c) (tk : Takes X W) (E : Exs b c g)
    (hj : X.N[j]? = some y) (hjl : X.env.kindOf y = some .local)
    (hb : ∀ (W' : WX) (pn : List (Addr × Obj)) (xe : Value → Shared → Prop), Takes (X.tr pn xe) W' → PassesOwn (model X.prog X.w) X.A X.env xe → PSs (X.tr pn xe) body (tS b W' f))
    (hsu : ∀ (a : Addr) (oe : Obj) (pn : List (Addr × Obj)), PS (X.suite a ((a, oe) :: pn)) (.Assign [.Name y p1] (.Name n p2) p3) (tAsg (tVar i) (gName j))) :
    PS X (.Try body [.ExceptHandler (some (.Name x np)) (some n) [.Assign [.Name y p1] (.Name n p2) p3] pos'] [] [] pos) (tS b W (tryM g i j f)) := by
  refine weakS (ps_tryT (tb := fun W' => tS b W' f) (ts := fun _ _ _ => tAsg (tVar i) (gName j)) hs hf hex hN hi hln hc tk hb (fun a oe _ _ pn => pss_one (hsu a oe pn))) fun D σ H ⟨cc, G, ρ, hfn, S, q⟩ => ?_
  refine ⟨cc, G, ρ, hfn, S, ?_⟩
  unfold tryM at q
  cases e : f ρ with
  | bad => rw [e] at q; exact q
  | ok fl ρ1 =>
    rw [e] at q
    cases fl <;> exact q
  | err k ρ1 =>
    rw [e] at q
    have q : PostS b cc W G D (if g k = true then (if (ownAt ρ1[i]? || refAt ρ1[j]?) = true then .bad else if i = j ∨ ρ1.length ≤ i then .bad else .ok .nx ((ρ1.set i none).set j (some (.ex k)))) else .err k ρ1) := q
    intro σ1 H1 G1 e1 S1
    refine ⟨g k, by rw [hK]; exact E.is k, fun hg a ha => ?_, fun hg => ?_⟩
    · rw [if_pos hg] at q
      split at q
      · exact q.elim
      · rename_i ho
        split at q
        · exact q.elim
        · rename_i hij
          rw [Bool.or_eq_true, not_or] at ho
          rw [not_or] at hij
          have hlt := hij.2
          have hij := hij.1
          refine ⟨.ref a, ?_, fun hna => ?_⟩
          · rw [getElem?_set_eq', if_pos rfl, if_pos (by rw [← S1.len]; omega)]
          · obtain ⟨e2, S2⟩ := S1.lay (o := exT (.ref (b.C k)) none a) ha
            have S3 := S2.drop (i := i) (ownAt_of ho.1) none
            have hop : Open cc (ρ1.set i none) j := fun s hsj => by
              rw [List.getElem?_set_ne hij] at hsj
              exact refAt_of hfn ho.2 s hsj
            have S4 := S3.set (i := j) (v := .ref a) (sv := .ex k) ⟨a, rfl, upd_same⟩ hop (fun _ _ z => by cases z)
            have eσ : ((σ1.set i (some (.ref a))).set j (some (.ref a))).set i none = (σ1.set i none).set j (some (.ref a)) := by
              rw [List.set_comm _ _ (Ne.symm hij), List.set_set]
            show D.nx (((σ1.set i (some (.ref a))).set j (some (.ref a))).set i none) (upd H1 a _)
            rw [eσ]
            exact q _ _ _ (e1.trans e2) S4
    · rw [if_neg (by rw [hg]; exact Bool.false_ne_true)] at q
      exact q σ1 H1 G1 e1 S1
end
/-! try: .. except X: y = constant -/
def tryO (g : Nat → Bool) (h f : M Fl) : M Fl := fun ρ => match f ρ with
  | .err k ρ' => if g k then h ρ' else .err k ρ'
  | o => o
section
variable {X : Cx} {b : Bs} {W : WX} {x : Str} {c : Value} {body suite : List Stmt} {s0 : Stmt} {np pos pos' : Pos} {g : Nat → Bool} {f h : M Fl}
theorem s_tryO (hK : X.K = b.K) (hs : X.stack = X.env :: X.outer) (hf : X.env.frame = some X.env.locals) (hc : Names X x c) (tk : Takes X W) (E : Exs b c g) (hn : ∀ ρ k ρ', h ρ ≠ .err k ρ')
    (hb : ∀ (W' : WX) (pn : List (Addr × Obj)) (xe : Value → Shared → Prop), Takes (X.tr pn xe) W' → PassesOwn (model X.prog X.w) X.A X.env xe → PSs (X.tr pn xe) body (tS b W' f))
    (hsu : ∀ (a : Addr) (oe : Obj) (pn : List (Addr × Obj)), PSs (X.suite a ((a, oe) :: pn)) (s0 :: suite) (tS b W0 h)) :
    PS X (.Try body [.ExceptHandler (some (.Name x np)) none (s0 :: suite) pos'] [] [] pos) (tS b W (tryO g h f)) := by
  refine weakS (ps_try_only (tb := fun W' => tS b W' f) (ts := fun _ _ _ => tS b W0 h) hs hf hc tk hb (fun a oe _ _ pn _ _ => hsu a oe pn)) fun D σ H ⟨cc, G, ρ, hfn, S, q⟩ => ?_
  refine ⟨cc, G, ρ, hfn, S, ?_⟩
  unfold tryO at q
  cases e : f ρ with
  | bad => rw [e] at q; exact q
  | ok fl ρ1 =>
    rw [e] at q
    cases fl <;> exact q
  | err k ρ1 =>
    rw [e] at q
    have q : PostS b cc W G D (if g k = true then h ρ1 else .err k ρ1) := q
    intro σ1 H1 G1 e1 S1
    refine ⟨g k, by rw [hK]; exact E.is k, fun hg a ha => ?_, fun hg => ?_⟩
    · rw [if_pos hg] at q
      refine ⟨cc, G1, ρ1, hfn, S1, ?_⟩
      have q := PostS.mono e1 q
      cases e2 : h ρ1 with
      | bad => rw [e2] at q; exact q.elim
      | err k2 ρ2 => exact absurd e2 (hn _ _ _)
      | ok fl ρ2 =>
        rw [e2] at q
        cases fl <;> exact q
    · rw [if_neg (by rw [hg]; exact Bool.false_ne_true)] at q
      exact q σ1 H1 G1 e1 S1
end
/-! isinstance(e, C), e a slot that holds an exception -/
def rIsX (K : Fg) (cv : Value) (D : Addr) : List V → Hp → VK → Prop := fun xs H Q => ∃ (a : Addr) (t : V) (k : Bool), xs = [.ref a, t] ∧ (∀ u, RelV t u → u = cv) ∧ H a = some (exO D a) ∧ ExcC K D ∧ PySem.W.kitOne K (.ref D) cv = some k ∧ Q (.bl k) H
theorem c_isX {X : Cx} (cv : Value) : CallR X (.builtin "isinstance") (fun xs H Q => ∃ D, rIsX X.K cv D xs H Q) := by
  intro pins s σ H xs us Q I r h
  obtain ⟨D, a, t, k, rfl, hcv, hH, C, e, q⟩ := h
  obtain ⟨u1, u2, rfl, r1, r2⟩ := vals2 r
  cases r1
  have := hcv _ r2
  subst this
  obtain ⟨⟨oe, vs, h1, h2, h3⟩, _⟩ := (show ObjOk X.prog X.w H s.heap a (exO D a) from I.hok a _ hH)
  have J : PySem.W.InstAt s.heap a oe D none := by
    obtain ⟨oc, od, oda, osl⟩ := oe
    obtain ⟨h4, h5⟩ := h2
    dsimp only at h4 h5 h3
    subst h4 h5 h3
    exact ⟨h1, rfl, rfl, trivial⟩
  exact PySem.W.kia_one (PySem.W.handS_kitx_exc C.hg C.hk C.hs C.hd C.ha C.hn C.ht C.hm) I.kIn J e (fun z => nomatch z) fun tk => ⟨.bl k, H, I.kept (t' := tk) fun _ _ z => z, rfl, q⟩
structure Isi (b : Bs) (cv : Value) (g : Nat → Bool) : Prop where
  ex : ∀ k, ExcC b.K (b.C k)
  is : ∀ k, PySem.W.kitOne b.K (.ref (b.C k)) cv = some (g k)
def isiM (i : Nat) (g : Nat → Bool) : M Av := fun ρ => match ρ[i]? with
  | some (some (.ex k)) => .ok (.d (.bool (g k))) ρ
  | _ => .bad
section
variable {X : Cx} {b : Bs} {W : WX} {p1 p2 p3 pos : Pos} {x : Str} {e2 : Expr} {cv : Value} {v : V} {g : Nat → Bool}
theorem m_isi (hK : X.K = b.K) (i : Nat) (I : Isi b cv g) (ha : PE X (.Name x p2) (tVar i)) (hb : PE X e2 (tC v)) (hv : ∀ u, RelV v u → u = cv) (hg : Gl X "isinstance") (hm : X.mg "isinstance" = none)
    (hs : starEach [.Name x p2, e2] X.env = (false, eval (.Name x p2) X.env) :: starEach [e2] X.env := by rfl) (hs2 : starEach [e2] X.env = (false, eval e2 X.env) :: starEach [] X.env := by rfl) (hpl : (backTo pos (starEach [e2] X.env)).any (·.1) = false := by rfl) :
    PE X (.Call (.Name "isinstance" p1) [.Name x p2, e2] [] pos) (tE b W (isiM i g)) :=
  weakE (pe_callB (c_isX cv) hg hm (by decide +kernel) (pa_cons ha (pa_cons hb pa_nil hs2) hs) (by decide) (by decide) hs hpl) fun σ H Q ⟨c, G, ρ, S, q⟩ => by
    unfold isiM at q
    split at q
    · rename_i k hk
      obtain ⟨u, hu, a, rfl, r⟩ := S.sl i _ hk
      exact ⟨.ref a, hu, b.C k, a, v, g k, rfl, hv, S.gh _ _ r, by rw [hK]; exact I.ex k, by rw [hK]; exact I.is k, q H G (Same.refl G) S _ (.bl _)⟩
    · exact q.elim
end
end G8
namespace G8
open PySem L2
/-! what the top leaves, by facts -/
def obsM (fa : List (Fg → Bool)) (fn : List He.DefD) (K : Fg) : He.AlD := ((fa.all fun f => f K) && fn.all fun d => d.ok K, fn.map fun d => He.fnW K d.at_)
def SaysM (fa : List (Fg → Bool)) (fn : List He.DefD) (K : Fg) : Prop := obsM fa fn K = He.valD fn
def obsMG (n : Nat) (fa : List (Fg → Bool)) (fn : List He.DefD) (g : Addr → Option Obj) : He.AlD := obsM fa fn (He.frG g (He.asD g n))
def hookM (n : Nat) (fa : List (Fg → Bool)) (fn : List He.DefD) : PySem.W.Hook where
  α := He.AlD
  obs := fun s => obsMG n fa fn s.heap.get?
  val := fun _ => He.valD fn
  says := fun _ h => ∃ K : Fg, K.In h ∧ SaysM fa fn K
  of := fun _ _ e => ⟨_, He.frG_in, e⟩
  keeps := fun _ _ _ ⟨K, h1, h2⟩ k => ⟨K, PySem.W.Frag.In.keeps h1 k, h2⟩
theorem obsMG_eq {n : Nat} {fa : List (Fg → Bool)} {fn : List He.DefD} {g : Addr → Option Obj} {s : Shared} (h : ∀ a, g a = s.heap.get? a) : obsMG n fa fn g = (hookM n fa fn).obs s := by
  rw [show g = s.heap.get? from funext h]
  rfl
section
variable {fa : List (Fg → Bool)} {fn : List He.DefD} {K : Fg}
theorem SaysM.fact (c : SaysM fa fn K) (i : Nat) {f : Fg → Bool} (h : fa[i]? = some f := by rfl) : f K = true := by
  have c1 : ((fa.all fun f => f K) && fn.all fun d => d.ok K) = true := congrArg Prod.fst c
  rw [Bool.and_eq_true, List.all_eq_true] at c1
  exact c1.1 f (List.mem_of_getElem? h)
theorem SaysM.def_ (c : SaysM fa fn K) (i : Nat) {d : He.DefD} (h : fn[i]? = some d := by rfl) : ∃ fd, FunD K d.name d.qual d.params d.body d.scope (d.dvs K) (d.kws K) (He.fAd K d.at_) fd := by
  have c1 : ((fa.all fun f => f K) && fn.all fun d => d.ok K) = true := congrArg Prod.fst c
  rw [Bool.and_eq_true, List.all_eq_true, List.all_eq_true] at c1
  have e : fn.map (fun d => He.fnW K d.at_) = fn.map He.DefD.val := congrArg Prod.snd c
  have e2 : (fn.map fun d => He.fnW K d.at_)[i]? = (fn.map He.DefD.val)[i]? := by rw [e]
  rw [List.getElem?_map, List.getElem?_map, h] at e2
  exact He.DefD.funD (Option.some.inj e2) (c1.2 d (List.mem_of_getElem? h))
end
/-! the eight refusals -/
def exName : Nat → Str
  | 0 => "BadRow"
  | 1 => "BadRoom"
  | 2 => "BadRule"
  | 3 => "BadPlan"
  | 4 => "BadDepths"
  | 5 => "BadTurns"
  | 6 => "BadAsk"
  | _ => "BadText"
def exC (K : Fg) (k : Nat) : Addr := He.ga K (exName k)
abbrev bs (K : Fg) : Bs := ⟨K, exC K⟩
def eqOV (a b : Option (Option Value)) : Bool := He.eqO a b
/-- what is looked at of one of them -/
def fExc (k : Nat) (K : Fg) : Bool := He.Fa.ok K (.exc (exName k)) && (He.Fa.ok K (.glo (exName k)) && (PySem.W.hasDictIn K (exC K k) && (He.eqO (PySem.W.findIn K (.ref (exC K k)) "__getattribute__") (some (some (.builtin "BaseException.__getattribute__"))) &&
  (He.eqO (PySem.W.findIn K (.ref (exC K k)) "__getattr__") (some none) && (He.eqO (PySem.W.findIn K (.ref (exC K k)) "__class__") (some (some (.builtin "object.__class__"))) && (He.eqO (PySem.W.specialIn K (.builtin "object.__class__") "__get__") (some (some (.builtin "getset_descriptor.__get__"))) &&
  (decide (PySem.W.takesIn K (.builtin "object.__class__") = some true) && decide (PySem.W.mroIn K (exC K k) (.type "object") = some true))))))))
theorem fExc_c {k : Nat} {K : Fg} (h : fExc k K = true) : ExcC K (exC K k) := by
  obtain ⟨h1, h⟩ := He.ba h
  obtain ⟨h2, h⟩ := He.ba h
  obtain ⟨h3, h⟩ := He.ba h
  obtain ⟨h4, h⟩ := He.ba h
  obtain ⟨h5, h⟩ := He.ba h
  obtain ⟨h6, h⟩ := He.ba h
  obtain ⟨h7, h⟩ := He.ba h
  obtain ⟨h8, h9⟩ := He.ba h
  exact ⟨He.eqO_ok h4, He.eqO_ok h5, (He.exc_ok h1).2.2.1, h3, He.eqO_ok h6, He.eqO_ok h7, of_decide_eq_true h8, of_decide_eq_true h9⟩
structure ExFact (K : Fg) (mg : Str → Option Value) (k : Nat) : Prop where
  exc : PySem.W.excIn K (exC K k) He.veBase "ValueError.__new__" = true
  kp : PySem.W.keepIn K (.ref (exC K k)) = true
  sub : PySem.W.subIn K (.ref (exC K k)) (.type "BaseException") = some true
  ty : PySem.W.typeIn K (.ref (exC K k)) = some (.type "type")
  g : mg (exName k) = some (.ref (exC K k))
  c : ExcC K (exC K k)
theorem exFact {K : Fg} {h : Heap} {mg : Str → Option Value} (X : K.In h) (G : h.Ns mainGlobals mg) {k : Nat} (f : fExc k K = true) : ExFact K mg k := by
  obtain ⟨h1, h2⟩ := He.ba f
  obtain ⟨h3, _⟩ := He.ba h2
  obtain ⟨e1, e2, e3, e4⟩ := He.exc_ok h1
  exact ⟨e1, e2, e3, e4, He.glo_ok X G h3, fExc_c f⟩
/-- all eight -/
def fAll (K : Fg) : Bool := (List.range 8).all fun k => fExc k K
theorem exC_ge {K : Fg} {k : Nat} (h : 7 ≤ k) : exC K k = exC K 7 := by
  unfold exC
  match k, h with
  | 7, _ => rfl
  | n + 8, _ => rfl
theorem exName_ge {k : Nat} (h : 7 ≤ k) : exName k = exName 7 := by
  match k, h with
  | 7, _ => rfl
  | n + 8, _ => rfl
theorem fAll_of {K : Fg} (h : fAll K = true) (k : Nat) : fExc k K = true := by
  unfold fAll at h
  rw [List.all_eq_true] at h
  by_cases hk : k < 8
  · exact h k (List.mem_range.mpr hk)
  · have := h 7 (List.mem_range.mpr (by decide))
    unfold fExc at this ⊢
    rw [exC_ge (K := K) (k := k) (by omega), exName_ge (k := k) (by omega)]
    exact this
/-- isinstance and except against one of them, or ValueError, RoomError -/
def fKit (cv : Fg → Value) (g : Nat → Bool) (K : Fg) : Bool := (List.range 8).all fun k => decide (PySem.W.kitOne K (.ref (exC K k)) (cv K) = some (g k))
def fExm (cv : Fg → Value) (g : Nat → Bool) (K : Fg) : Bool := (List.range 8).all fun k => decide (PySem.W.exmOne K (.ref (exC K k)) (cv K) = some (g k))
def is8 (j k : Nat) : Bool := decide (min k 7 = j)
theorem all8 {p : Nat → Bool} (h : ((List.range 8).all p) = true) (hs : ∀ k, 7 ≤ k → p k = p 7) (k : Nat) : p k = true := by
  rw [List.all_eq_true] at h
  by_cases hk : k < 8
  · exact h k (List.mem_range.mpr hk)
  · rw [hs k (by omega)]
    exact h 7 (List.mem_range.mpr (by decide))
theorem fKit_of {K : Fg} {cv : Fg → Value} {g : Nat → Bool} (hg : ∀ k, 7 ≤ k → g k = g 7) (ha : fAll K = true) (h : fKit cv g K = true) : Isi (bs K) (cv K) g :=
  ⟨fun k => fExc_c (fAll_of ha k), fun k => of_decide_eq_true (all8 h (fun k hk => by rw [exC_ge hk, hg k hk]) k)⟩
theorem fExm_of {K : Fg} {cv : Fg → Value} {g : Nat → Bool} (hg : ∀ k, 7 ≤ k → g k = g 7) (h : fExm cv g K = true) : Exs (bs K) (cv K) g :=
  ⟨fun k => of_decide_eq_true (all8 h (fun k hk => by rw [exC_ge hk, hg k hk]) k)⟩
theorem is8_ge (j : Nat) : ∀ k, 7 ≤ k → is8 j k = is8 j 7 := fun k hk => by
  unfold is8
  rw [Nat.min_eq_right hk]
  rfl
/-! constants of the top -/
section
variable {X : Cx} {b : Bs} {W : WX} {x : Str} {pos : Pos}
theorem m_gint {i : Int} (hg : Gl X x) (hm : ∃ t, X.mg x = some (.int i t)) (hd : (x == ("__debug__" : Str)) = false := by decide) : PE X (.Name x pos) (tE b W (retM (.d (.int i)))) := by
  obtain ⟨t, ht⟩ := hm
  exact m_const (pe_glob (v := .int i) hg ht ⟨_, rfl⟩ hd) fun _ _ => .int i
theorem m_gstr {i : Str} (hg : Gl X x) (hm : ∃ t, X.mg x = some (.str i t)) (hd : (x == ("__debug__" : Str)) = false := by decide) : PE X (.Name x pos) (tE b W (retM (.d (.str i)))) := by
  obtain ⟨t, ht⟩ := hm
  exact m_const (pe_glob (v := .str i) hg ht ⟨_, rfl⟩ hd) fun _ _ => .str i
/-- a tuple of texts of the top -/
theorem m_gtup {ss : List Str} {a : Addr} (hg : Gl X x) (hm : X.mg x = some (.ref a)) (ht : ∀ H, SqT b.K H a (ss.map V.str)) (hd : (x == ("__debug__" : Str)) = false := by decide) : PE X (.Name x pos) (tE b W (retM (.d (.tuple (ss.map PyData.str))))) := by
  refine weakE (pe_glob (v := .ref a) hg hm rfl hd) fun σ H Q ⟨c, G, ρ, S, q⟩ => q.ret S (.ref a) (.tup (ht G) ?_)
  induction ss with
  | nil => exact .nil
  | cons s ss ih => exact .cons (.str s) (ih' ss)
where ih' {K : Fg} {G : Hp} : ∀ ss : List Str, Rps K G (ss.map V.str) (ss.map PyData.str)
  | [] => .nil
  | s :: ss => .cons (.str s) (ih' ss)
theorem s_raiseX {m : Str} {j k : Nat} {K : Fg} {p1 p2 p3 : Pos} (hK : X.K = K) (f : ExFact K X.mg k) (hx : exName k = x) (hg : Gl X x) (hc : X.calm = true) (tk : Takes X W) (hd : (x == ("__debug__" : Str)) = false := by decide) :
    PS X (.Raise (some (.Call (.Name x p1) [.Constant (.str m) j p2] [] p3)) none pos) (tS (bs K) W (raiseM k)) := by
  subst hx
  subst hK
  exact s_raise k hc tk (pmk_own PySem.F.excBase_ValueError f.exc f.g f.kp (raises_own f.sub f.ty) hg hd)
end
end G8
namespace G8
open PySem L2
/-! the end of a law -/
def spLaw (K : Fg) : Sp := fun vs H Q _ => ∃ (a : Addr) (ns : List Int), vs = [.ref a] ∧ ns.length ≤ 63 ∧ SqL K H a (ns.map V.int) ∧ ∀ H', Q (.bl true) H'
def Keeps (F : Fn) : Prop := ∀ ns : List Int, ns.length ≤ 63 → ∃ ρ, F [.scr ns] = .ok (.d (.bool true)) ρ
theorem sig_scr {b : Bs} {H : Hp} {a : Addr} {ns : List Int} (h : SqL b.K H a (ns.map V.int)) : SIG b (ctx0 H H [.scr ns] [.ref a]) H (svsE [.scr ns]) (vsE [.ref a]) H := by
  have one : ∀ {i : Nat} {sv : Sv}, (svsE [.scr ns])[i]? = some (some sv) → i = 0 ∧ sv = .scr ns := fun {i sv} e => by
    cases i with
    | zero => simp [svsE] at e; exact ⟨rfl, e.symm⟩
    | succ i => simp [svsE] at e
  have nr : ∀ i p f, (i, p, f) ∉ (ctx0 H H [.scr ns] [.ref a]).refs := fun i p f m => by
    revert m
    simp [ctx0, inner, svsE, vsE, refsOf, Sv.own]
  refine ⟨rfl, Same.refl H, Same.refl H, fun a o e _ => e, fun a o e => .inl e, fun i sv e => ?_, fun i j si sj p e1 _ o1 => ?_, fun i si p e1 o1 => ?_, fun i p f m => (nr i p f m).elim⟩
  · obtain ⟨rfl, rfl⟩ := one e
    exact ⟨.ref a, rfl, a, rfl, h⟩
  · obtain ⟨rfl, rfl⟩ := one e1
    cases o1
  · obtain ⟨rfl, rfl⟩ := one e1
    cases o1
theorem law_end {P : Program} {w : World} {K : Fg} {mg : Str → Option Value} {base : Heap} {k : Nat} {f : Addr} {fd : FuncData} {F : Fn} (hF : Keeps F)
    (FN : FnOk P w K mg base (L2.CX P w) k f fd ["script"] (spF (bs K) 1 F)) : FnOk P w K mg base CX0 k f fd ["script"] (spLaw K) := by
  refine ⟨fun vs H Q E ⟨a, ns, e, _⟩ => by rw [e]; rfl, fun A outer s H args us vs Q E hr he hb hv ⟨a, ns, e, hl, hs, hq⟩ => ?_⟩
  subst e
  obtain ⟨ρ, hρ⟩ := hF ns hl
  refine PySem.codeAny_mono (FN.run A outer s H args us [.ref a] Q (fun _ _ _ => False) hr he hb hv ⟨H, [.scr ns], rfl, sig_scr hs, fun s m o => ?_, ?_⟩) fun r s' h => ?_
  · rcases List.mem_singleton.mp m with rfl
    cases o
  · rw [hρ]
    intro v H' G' S r
    have r : Rp K G' v (.bool true) := r
    cases r
    exact hq H'
  · cases r with
    | ok u => cases u <;> exact h
    | error e =>
      obtain ⟨_, _, _, _, _, _, _, _, _, _, _, _, z⟩ := h
      exact z
/-! the draws: one number of a script, from 0 to less than many -/
def cellI (ns : List Int) (k : Nat) : Int := if ns.isEmpty then 0 else ns.getD (k % ns.length) 0
def mixI (ns : List Int) (k : Nat) : Int :=
  let a := (cellI ns k + 104729 * ((k : Int) + 1)) % 4294967291
  let b := a ^ 5 % 4294967279
  (b / 64 * 69621 + b) % 4294967231
def drw (ns : List Int) (k : Nat) (m : Int) : Int := mixI ns k / 8 % m
theorem drw_lo (ns : List Int) (k : Nat) {m : Int} (h : 0 < m) : 0 ≤ drw ns k m := Int.emod_nonneg _ (by omega)
theorem drw_hi (ns : List Int) (k : Nat) {m : Int} (h : 0 < m) : drw ns k m < m := Int.emod_lt_of_pos _ h
def fcell : M Fl :=
    (seqM (ifM (testM (varM 0)) (retS (dataM (ixS 0 (frzM (bin2 modD (varM 1) (lenM (varM 0))))))) (retM .nx))
    (retS (dataM (retM (.d (.int 0))))))
def Fcell : Fn := bodyF 2 fcell
def fmix : M Fl :=
    (seqM (setM 2 (bin2 modD (frzM (bin2 addD (frzM (callM 2 Fcell (consM (varM 0) (consM (varM 1) (retM []))))) (frzM (bin2 mulD (retM (.d (.int 104729))) (frzM (bin2 addD (varM 1) (retM (.d (.int 1))))))))) (retM (.d (.int 4294967291)))))
    (seqM (setM 2 (bin2 modD (frzM (bin2 powD (varM 2) (retM (.d (.int 5))))) (retM (.d (.int 4294967279)))))
    (retS (bin2 modD (frzM (bin2 addD (frzM (bin2 mulD (frzM (bin2 fdivD (varM 2) (retM (.d (.int 64))))) (retM (.d (.int 69621))))) (varM 2))) (retM (.d (.int 4294967231)))))))
def Fmix : Fn := bodyF 3 fmix
def fdraw : M Fl :=
    (seqM (exprS (mutM 1 appD (consM (retM (.d (.int 0))) (retM []))))
    (retS (bin2 modD (frzM (bin2 fdivD (frzM (callM 2 Fmix (consM (varM 0) (consM (lenM (varM 1)) (retM []))))) (retM (.d (.int 8))))) (varM 2))))
def Fdraw : Fn := bodyF 3 fdraw
/-! what the parts do, one by one -/
@[simp] theorem bindM_ap {α β : Type} (f : M α) (g : α → M β) (ρ : Ev) : bindM f g ρ = (match f ρ with
  | .ok a ρ' => g a ρ'
  | .err k ρ' => .err k ρ'
  | .bad => .bad) := rfl
@[simp] theorem retM_ap {α : Type} (a : α) (ρ : Ev) : retM a ρ = .ok a ρ := rfl
@[simp] theorem badM_ap {α : Type} (ρ : Ev) : (badM : M α) ρ = .bad := rfl
@[simp] theorem optM_ap {α : Type} (g : Ev → Option α) (ρ : Ev) : optM g ρ = (match g ρ with
  | some a => .ok a ρ
  | none => .bad) := rfl
@[simp] theorem varM_ap (i : Nat) (ρ : Ev) : varM i ρ = (match ρ[i]? with
  | some (some _) => .ok (.s i) ρ
  | _ => .bad) := rfl
@[simp] theorem frzM_ap (f : M Rv) (ρ : Ev) : frzM f ρ = (match f ρ with
  | .ok (.d x) ρ' => .ok (.d x) ρ'
  | .ok (.l xs) ρ' => .ok (.d (.list xs)) ρ'
  | .ok _ _ => .bad
  | .err k ρ' => .err k ρ'
  | .bad => .bad) := by
  unfold frzM bindM
  cases f ρ with
  | ok r ρ' => cases r <;> rfl
  | err k ρ' => rfl
  | bad => rfl
@[simp] theorem dataM_ap (f : M Av) (ρ : Ev) : dataM f ρ = bindM f (fun a => optM fun ρ => (fzv ρ a).map Rv.d) ρ := rfl
@[simp] theorem bin2_ap (g : Dt → Dt → Option Rv) (fa fb : M Av) (ρ : Ev) : bin2 g fa fb ρ = bindM fa (fun a => bindM fb fun b => optM fun ρ => (res ρ a).bind fun x => (res ρ b).bind fun y => g x y) ρ := rfl
@[simp] theorem un1_ap (g : Dt → Option Rv) (fa : M Av) (ρ : Ev) : un1 g fa ρ = bindM fa (fun a => optM fun ρ => (res ρ a).bind g) ρ := rfl
@[simp] theorem testM_ap (fa : M Av) (ρ : Ev) : testM fa ρ = bindM fa (fun a => optM fun ρ => tru ρ a) ρ := rfl
@[simp] theorem notM_ap (fa : M Bool) (ρ : Ev) : notM fa ρ = bindM fa (fun b => retM (!b)) ρ := rfl
@[simp] theorem notV_ap (fa : M Av) (ρ : Ev) : notV fa ρ = bindM (testM fa) (fun b => retM (.d (.bool (!b)))) ρ := rfl
@[simp] theorem consM_ap (fe : M Av) (fs : M (List Av)) (ρ : Ev) : consM fe fs ρ = bindM fe (fun a => bindM fs fun as => retM (a :: as)) ρ := rfl
@[simp] theorem lstM_ap (fl : M (List Av)) (ρ : Ev) : lstM fl ρ = bindM fl (fun as => optM fun ρ => if as.length ≤ 1000 then (fzs ρ as).map Rv.l else none) ρ := rfl
@[simp] theorem tupM_ap (fl : M (List Av)) (ρ : Ev) : tupM fl ρ = bindM fl (fun as => bindM (optM fun ρ => if as.length ≤ 1000 then fzs ρ as else none) fun xs => retM (.d (.tuple xs))) ρ := rfl
@[simp] theorem putM_ap (i : Nat) (s : Option Sv) (ρ : Ev) : putM i s ρ = if refAt ρ[i]? then .bad else .ok () (ρ.set i s) := rfl
@[simp] theorem setM_ap (i : Nat) (f : M Rv) (ρ : Ev) : setM i f ρ = bindM f (fun r => bindM (putM i (some r.sv)) fun _ => retM .nx) ρ := rfl
@[simp] theorem retS_ap (f : M Rv) (ρ : Ev) : retS f ρ = bindM f (fun r => retM (.rt r)) ρ := rfl
@[simp] theorem retO_ap (i : Nat) (ρ : Ev) : retO i ρ = bindM (optM fun ρ => slotR ρ[i]?) (fun r => retM (.rt r)) ρ := rfl
@[simp] theorem withS_ap {α : Type} (i : Nat) (f : M α) (ρ : Ev) : withS i f ρ = bindM (shareM i) (fun _ => f) ρ := rfl
@[simp] theorem putD_ap (i : Nat) (d : Dt) (ρ : Ev) : putD i d ρ = if ownAt ρ[i]? then .bad else .ok () (ρ.set i (some (.d d))) := rfl
@[simp] theorem asgM_ap (fe : M Av) (t : Tgt) (ρ : Ev) : asgM fe t ρ = bindM fe (fun a => bindM (optM fun ρ => fzv ρ a) fun d => bindM (putT t d) fun _ => retM .nx) ρ := rfl
@[simp] theorem itM_ap (fa : M Av) (ρ : Ev) : itM fa ρ = bindM fa (fun a => optM fun ρ => (fzv ρ a).bind seqOf) ρ := rfl
@[simp] theorem itT_ap (fa : M Av) (ρ : Ev) : itT fa ρ = bindM fa (fun a => optM fun ρ => (fzv ρ a).bind tupOf) ρ := rfl
@[simp] theorem rg1_ap (fl : M (List Av)) (ρ : Ev) : rg1 fl ρ = bindM fl (fun as => optM fun ρ => (fzs ρ as).bind fun xs => (int1 xs).bind fun j => if mid j then some (rangeD 0 j.toNat) else none) ρ := rfl
@[simp] theorem rg2_ap (fl : M (List Av)) (ρ : Ev) : rg2 fl ρ = bindM fl (fun as => optM fun ρ => (fzs ρ as).bind fun xs => (int2 xs).bind fun q => if mid q.1 && mid q.2 then some (rangeD q.1 (q.2 - q.1).toNat) else none) ρ := rfl
@[simp] theorem rg3_ap (fl : M (List Av)) (ρ : Ev) : rg3 fl ρ = bindM fl (fun as => optM fun ρ => (fzs ρ as).bind fun xs => (int3 xs).bind fun q => if mid q.1 && mid q.2.1 && decide (q.2.2 = -1) then some (rangeC q.1 (-1) (q.1 - q.2.1).toNat) else none) ρ := rfl
@[simp] theorem forM_ap (fi : M (List Dt)) (t : Tgt) (body : M Fl) (ρ : Ev) : forM fi t body ρ = bindM fi (fun ds => forL t body ds) ρ := rfl
@[simp] theorem lcM_ap (fi : M (List Dt)) (t : Tgt) (ft : M Bool) (fe : M Av) (ρ : Ev) : lcM fi t ft fe ρ = bindM fi (fun ds => bindM (compL t ft fe ds []) fun xs => retM (.l xs)) ρ := rfl
@[simp] theorem callM_ap (n : Nat) (F : Fn) (fl : M (List Av)) (ρ : Ev) : callM n F fl ρ = bindM fl (fun as => callF n F as) ρ := rfl
@[simp] theorem cmpM_ap (g : Dt → Dt → Option Bool) (fa fb : M Av) (ρ : Ev) : cmpM g fa fb ρ = bindM fa (fun a => bindM fb fun b => optM fun ρ => (res ρ a).bind fun x => (res ρ b).bind fun y => (g x y).map fun z => .d (.bool z)) ρ := rfl
@[simp] theorem cmpT_ap (g : Dt → Dt → Option Bool) (fa fb : M Av) (ρ : Ev) : cmpT g fa fb ρ = bindM fa (fun a => bindM fb fun b => optM fun ρ => (res ρ a).bind fun x => (res ρ b).bind fun y => g x y) ρ := rfl
@[simp] theorem isN_ap (n : Bool) (fa : M Av) (ρ : Ev) : isN n fa ρ = bindM fa (fun a => optM fun ρ => (nonA ρ a).map fun k => .d (.bool (if n then !k else k))) ρ := rfl
@[simp] theorem isNT_ap (n : Bool) (fa : M Av) (ρ : Ev) : isNT n fa ρ = bindM fa (fun a => optM fun ρ => (nonA ρ a).map fun k => if n then !k else k) ρ := rfl
@[simp] theorem partN_ap  (ρ : Ev) : partN ρ = .ok none ρ := rfl
@[simp] theorem partS_ap (f : M Av) (ρ : Ev) : partS f ρ = bindM f (fun a => optM fun ρ => match res ρ a with
  | some (.int i) => some (some i)
  | _ => none) ρ := rfl
@[simp] theorem sliceM_ap (fa : M Av) (fl fh : M (Option Int)) (ρ : Ev) : sliceM fa fl fh ρ = bindM fa (fun a => bindM fl fun lo => bindM fh fun hi => optM fun ρ => (res ρ a).bind fun x => slD x lo hi) ρ := rfl
@[simp] theorem biM_ap (g : List Dt → Option Rv) (fl : M (List Av)) (ρ : Ev) : biM g fl ρ = bindM fl (fun as => optM fun ρ => (ress ρ as).bind g) ρ := rfl
@[simp] theorem lenM_ap (fa : M Av) (ρ : Ev) : lenM fa ρ = bindM fa (fun a => optM fun ρ => (lenA ρ a).map fun (n : Nat) => Av.d (.int (n : Int))) ρ := rfl
@[simp] theorem meM_ap (g : Dt → List Dt → Option Dt) (fo : M Av) (fl : M (List Av)) (ρ : Ev) : meM g fo fl ρ = bindM fo (fun o => bindM (optM fun ρ => (res ρ o).bind isL) fun _ => bindM fl fun as => optM fun ρ => (res ρ o).bind fun x => (ress ρ as).bind fun ds => (g x ds).map Av.d) ρ := rfl
@[simp] theorem exprS_ap (f : M Rv) (ρ : Ev) : exprS f ρ = bindM f (fun _ => retM .nx) ρ := rfl
@[simp] theorem raiseM_ap {α : Type} (k : Nat) (ρ : Ev) : (raiseM k : M α) ρ = .err k ρ := rfl
@[simp] theorem andM_ap (fa fb : M Bool) (ρ : Ev) : andM fa fb ρ = (match fa ρ with
  | .ok true ρ' => fb ρ'
  | .ok false ρ' => .ok false ρ'
  | .err k ρ' => .err k ρ'
  | .bad => .bad) := by
  unfold andM bindM
  cases fa ρ with
  | ok b ρ' => cases b <;> rfl
  | err k ρ' => rfl
  | bad => rfl
@[simp] theorem orM_ap (fa fb : M Bool) (ρ : Ev) : orM fa fb ρ = (match fa ρ with
  | .ok true ρ' => .ok true ρ'
  | .ok false ρ' => fb ρ'
  | .err k ρ' => .err k ρ'
  | .bad => .bad) := by
  unfold orM bindM
  cases fa ρ with
  | ok b ρ' => cases b <;> rfl
  | err k ρ' => rfl
  | bad => rfl
@[simp] theorem ifM_ap {α : Type} (ft : M Bool) (fa fb : M α) (ρ : Ev) : ifM ft fa fb ρ = (match ft ρ with
  | .ok true ρ' => fa ρ'
  | .ok false ρ' => fb ρ'
  | .err k ρ' => .err k ρ'
  | .bad => .bad) := by
  unfold ifM bindM
  cases ft ρ with
  | ok b ρ' => cases b <;> rfl
  | err k ρ' => rfl
  | bad => rfl
@[simp] theorem andV_ap (fa fb : M Av) (ρ : Ev) : andV fa fb ρ = (match fa ρ with
  | .ok a ρ' => (match tru ρ' a with
    | some true => fb ρ'
    | some false => .ok a ρ'
    | none => .bad)
  | .err k ρ' => .err k ρ'
  | .bad => .bad) := by
  unfold andV
  simp only [bindM_ap, optM_ap]
  cases fa ρ with
  | ok b ρ' =>
    dsimp only
    cases tru ρ' b with
    | none => rfl
    | some k => cases k <;> rfl
  | err k ρ' => rfl
  | bad => rfl
@[simp] theorem orV_ap (fa fb : M Av) (ρ : Ev) : orV fa fb ρ = (match fa ρ with
  | .ok a ρ' => (match tru ρ' a with
    | some true => .ok a ρ'
    | some false => fb ρ'
    | none => .bad)
  | .err k ρ' => .err k ρ'
  | .bad => .bad) := by
  unfold orV
  simp only [bindM_ap, optM_ap]
  cases fa ρ with
  | ok b ρ' =>
    dsimp only
    cases tru ρ' b with
    | none => rfl
    | some k => cases k <;> rfl
  | err k ρ' => rfl
  | bad => rfl
@[simp] theorem seqM_ap (f g : M Fl) (ρ : Ev) : seqM f g ρ = (match f ρ with
  | .ok .nx ρ' => g ρ'
  | o => o) := rfl
@[simp] theorem shareM_ap (i : Nat) (ρ : Ev) : shareM i ρ = (match ρ[i]? with
  | some (some (.ls false xs)) => .ok () (ρ.set i (some (.d (.list xs))))
  | some (some (.d _)) => .ok () ρ
  | _ => .bad) := rfl
@[simp] theorem putT_one (i : Nat) (d : Dt) : putT (.one i) d = putD i d := rfl
@[simp] theorem putT_tup (is : List Nat) (ds : List Dt) : putT (.tup is) (.tuple ds) = putDs is ds := rfl
@[simp] theorem putDs_nil (ρ : Ev) : putDs [] [] ρ = .ok () ρ := rfl
@[simp] theorem putDs_cons (i : Nat) (is : List Nat) (d : Dt) (ds : List Dt) (ρ : Ev) : putDs (i :: is) (d :: ds) ρ = bindM (putD i d) (fun _ => putDs is ds) ρ := rfl
@[simp] theorem chainT_ap (g g' : Dt → Dt → Option Bool) (fa fb fc : M Av) (ρ : Ev) : chainT g g' fa fb fc ρ = bindM fa (fun a => bindM fb fun b => bindM (optM fun ρ => (res ρ a).bind fun x => (res ρ b).bind fun y => g x y) fun k =>
    if k then bindM fc (fun z => optM fun ρ => (res ρ b).bind fun y => (res ρ z).bind fun w => g' y w) else retM false) ρ := by
  unfold chainT chainM
  simp only [bindM_ap]
  cases fa ρ with
  | err k ρ' => rfl
  | bad => rfl
  | ok a ρ1 =>
    dsimp only
    cases fb ρ1 with
    | err k ρ' => rfl
    | bad => rfl
    | ok b ρ2 =>
      simp only [optM_ap]
      cases ((res ρ2 a).bind fun x => (res ρ2 b).bind fun y => g x y) with
      | none => rfl
      | some k =>
        cases k with
        | false => rfl
        | true =>
          simp only [bindM_ap, optM_ap, if_true]
          cases fc ρ2 with
          | err k ρ' => rfl
          | bad => rfl
          | ok c ρ3 =>
            dsimp only
            cases res ρ3 b with
            | none => rfl
            | some y =>
              cases res ρ3 c with
              | none => rfl
              | some w =>
                simp only [Option.bind_some]
                cases g' y w <;> rfl
@[simp] theorem chainM_ap (g g' : Dt → Dt → Option Bool) (fa fb fc : M Av) (ρ : Ev) : chainM g g' fa fb fc ρ = bindM fa (fun a => bindM fb fun b => bindM (optM fun ρ => (res ρ a).bind fun x => (res ρ b).bind fun y => g x y) fun k =>
    if k then bindM fc (fun z => optM fun ρ => (res ρ b).bind fun y => (res ρ z).bind fun w => (g' y w).map fun t => .d (.bool t)) else retM (.d (.bool false))) ρ := by
  unfold chainM
  simp only [bindM_ap]
  cases fa ρ with
  | err k ρ' => rfl
  | bad => rfl
  | ok a ρ1 =>
    dsimp only
    cases fb ρ1 with
    | err k ρ' => rfl
    | bad => rfl
    | ok b ρ2 =>
      simp only [optM_ap]
      cases ((res ρ2 a).bind fun x => (res ρ2 b).bind fun y => g x y) with
      | none => rfl
      | some k => cases k <;> rfl
@[simp] theorem ixS_ap (i : Nat) (fb : M Av) (ρ : Ev) : ixS i fb ρ = bindM (varM i) (fun _ => bindM fb fun a => optM fun ρ => match ρ[i]?, res ρ a with
  | some (some (.scr ns)), some (.int k) => (atI ns k).map fun z => .d (.int z)
  | _, _ => none) ρ := rfl
@[simp] theorem mutM_ap (i : Nat) (g : List Dt → List Dt → Option (Dt × List Dt)) (fl : M (List Av)) (ρ : Ev) : mutM i g fl ρ = bindM (optM fun ρ => slotL ρ[i]?) (fun _ => bindM fl fun as ρ => match slotL ρ[i]?, fzs ρ as with
  | some (r, xs), some ds => (match g xs ds with
    | some (y, ys) => .ok (.d y) (ρ.set i (some (.ls r ys)))
    | none => .bad)
  | _, _ => .bad) ρ := rfl
@[simp] theorem setIt_ap (i : Nat) (fe fk : M Av) (ρ : Ev) : setIt i fe fk ρ = bindM fe (fun a => bindM (optM fun ρ => slotL ρ[i]?) fun _ => bindM fk fun k ρ => match slotL ρ[i]?, fzv ρ a, res ρ k with
  | some (r, xs), some d, some (.int n) => (match ixN xs.length n with
    | some j => .ok .nx (ρ.set i (some (.ls r (xs.set j d))))
    | none => .bad)
  | _, _, _ => .bad) ρ := rfl
@[simp] theorem isiM_ap (i : Nat) (g : Nat → Bool) (ρ : Ev) : isiM i g ρ = (match ρ[i]? with
  | some (some (.ex k)) => .ok (.d (.bool (g k))) ρ
  | _ => .bad) := rfl
@[simp] theorem tryM_ap (g : Nat → Bool) (i j : Nat) (f : M Fl) (ρ : Ev) : tryM g i j f ρ = (match f ρ with
  | .err k ρ' => if g k then (if ownAt ρ'[i]? || refAt ρ'[j]? then .bad else if i = j ∨ ρ'.length ≤ i then .bad else .ok .nx ((ρ'.set i none).set j (some (.ex k)))) else .err k ρ'
  | o => o) := rfl
@[simp] theorem tryO_ap (g : Nat → Bool) (h f : M Fl) (ρ : Ev) : tryO g h f ρ = (match f ρ with
  | .err k ρ' => if g k then h ρ' else .err k ρ'
  | o => o) := rfl
@[simp] theorem callF_ap (n : Nat) (F : Fn) (as : List Av) (ρ : Ev) : callF n F as ρ = if as.length = n ∧ okArgs ρ as = true then (match resolve ρ as with
  | none => .bad
  | some svs => (match F svs with
    | .ok r outs => .ok r (writeBack ρ as outs)
    | .err k outs => .err k (writeBack ρ as outs)
    | .bad => .bad)) else .bad := rfl
@[simp] theorem resolve_nil (ρ : Ev) : resolve ρ [] = some [] := rfl
@[simp] theorem resolve_d (ρ : Ev) (x : Dt) (as : List Av) : resolve ρ (.d x :: as) = (resolve ρ as).map fun r => .d x :: r := rfl
@[simp] theorem resolve_s (ρ : Ev) (i : Nat) (as : List Av) : resolve ρ (.s i :: as) = (match ρ[i]? with
    | some (some s) => (resolve ρ as).map fun r => s.mark true :: r
    | _ => none) := rfl
@[simp] theorem res_d (ρ : Ev) (x : Dt) : res ρ (.d x) = some x := rfl
@[simp] theorem res_s (ρ : Ev) (i : Nat) : res ρ (.s i) = slotD ρ[i]? := rfl
@[simp] theorem fzv_d (ρ : Ev) (x : Dt) : fzv ρ (.d x) = some x := rfl
@[simp] theorem fzv_s (ρ : Ev) (i : Nat) : fzv ρ (.s i) = slotZ ρ[i]? := rfl
@[simp] theorem tru_d (ρ : Ev) (x : Dt) : tru ρ (.d x) = truth x := rfl
@[simp] theorem tru_s (ρ : Ev) (i : Nat) : tru ρ (.s i) = slotT ρ[i]? := rfl
@[simp] theorem slotD_d (x : Dt) : slotD (some (some (.d x))) = some x := rfl
@[simp] theorem slotD_l (r : Bool) (xs : List Dt) : slotD (some (some (.ls r xs))) = some (.list xs) := rfl
@[simp] theorem slotZ_d (x : Dt) : slotZ (some (some (.d x))) = some x := rfl
@[simp] theorem slotL_l (r : Bool) (xs : List Dt) : slotL (some (some (.ls r xs))) = some (r, xs) := rfl
@[simp] theorem slotR_d (x : Dt) : slotR (some (some (.d x))) = some (.d x) := rfl
@[simp] theorem slotR_l (xs : List Dt) : slotR (some (some (.ls false xs))) = some (.l xs) := rfl
@[simp] theorem fzs_nil (ρ : Ev) : fzs ρ [] = some [] := rfl
@[simp] theorem fzs_cons (ρ : Ev) (a : Av) (as : List Av) : fzs ρ (a :: as) = (fzv ρ a).bind fun x => (fzs ρ as).map fun xs => x :: xs := rfl
@[simp] theorem ress_nil (ρ : Ev) : ress ρ [] = some [] := rfl
@[simp] theorem ress_cons (ρ : Ev) (a : Av) (as : List Av) : ress ρ (a :: as) = (res ρ a).bind fun x => (ress ρ as).map fun xs => x :: xs := rfl
@[simp] theorem sv_d (x : Dt) : (Rv.d x).sv = .d x := rfl
@[simp] theorem sv_l (x : List Dt) : (Rv.l x).sv = .ls false x := rfl
@[simp] theorem addD_i (i j : Int) : addD (.int i) (.int j) = some (.d (.int (i + j))) := rfl
@[simp] theorem addD_l (i j : List Dt) : addD (.list i) (.list j) = if i.length + j.length ≤ 1000000 then some (.l (i ++ j)) else none := rfl
@[simp] theorem subD_i (i j : Int) : subD (.int i) (.int j) = some (.d (.int (i - j))) := rfl
@[simp] theorem mulD_i (i j : Int) : mulD (.int i) (.int j) = if small64 i || small64 j then some (.d (.int (i * j))) else none := rfl
@[simp] theorem fdivD_i (i j : Int) : fdivD (.int i) (.int j) = if 0 < j ∧ j.natAbs < 1073741824 then some (.d (.int (i / j))) else none := rfl
@[simp] theorem modD_i (i j : Int) : modD (.int i) (.int j) = if 0 < j then some (.d (.int (i % j))) else none := rfl
@[simp] theorem powD_i (i j : Int) : powD (.int i) (.int j) = if 0 ≤ j ∧ j ≤ 1000000 ∧ i.natAbs < 2 ^ 64 then some (.d (.int (i ^ j.toNat))) else none := rfl
@[simp] theorem negD_i (i : Int) : negD (.int i) = some (.d (.int (-i))) := rfl
@[simp] theorem ltI_i (i j : Int) : ltI (.int i) (.int j) = some (decide (i < j)) := rfl
@[simp] theorem leI_i (i j : Int) : leI (.int i) (.int j) = some (decide (i ≤ j)) := rfl
@[simp] theorem gtI_i (i j : Int) : gtI (.int i) (.int j) = some (decide (j < i)) := rfl
@[simp] theorem geI_i (i j : Int) : geI (.int i) (.int j) = some (decide (j ≤ i)) := rfl
@[simp] theorem ixD_l (xs : List Dt) (i : Int) : ixD (.list xs) (.int i) = (atI xs i).map Rv.d := rfl
@[simp] theorem ixD_t (xs : List Dt) (i : Int) : ixD (.tuple xs) (.int i) = (atI xs i).map Rv.d := rfl
@[simp] theorem forL_nil (t : Tgt) (body : M Fl) (ρ : Ev) : forL t body [] ρ = .ok .nx ρ := rfl
@[simp] theorem compL_nil (t : Tgt) (ft : M Bool) (fe : M Av) (acc : List Dt) (ρ : Ev) : compL t ft fe [] acc ρ = .ok acc ρ := rfl
@[simp] theorem refAt_n : refAt (some none) = false := rfl
@[simp] theorem refAt_s (s : Sv) : refAt (some (some s)) = s.isRef := rfl
@[simp] theorem ownAt_n : ownAt (some none) = false := rfl
@[simp] theorem ownAt_s (s : Sv) : ownAt (some (some s)) = s.own := rfl
@[simp] theorem isRef_d (x : Dt) : (Sv.d x).isRef = false := rfl
@[simp] theorem isRef_l (r : Bool) (x : List Dt) : (Sv.ls r x).isRef = r := rfl
@[simp] theorem isRef_x (k : Nat) : (Sv.ex k).isRef = false := rfl
@[simp] theorem isRef_s (k : List Int) : (Sv.scr k).isRef = false := rfl
@[simp] theorem own_d (x : Dt) : (Sv.d x).own = false := rfl
@[simp] theorem own_l (r : Bool) (x : List Dt) : (Sv.ls r x).own = true := rfl
@[simp] theorem own_x (k : Nat) : (Sv.ex k).own = false := rfl
@[simp] theorem own_s (k : List Int) : (Sv.scr k).own = false := rfl
@[simp] theorem mark_d (b : Bool) (x : Dt) : (Sv.d x).mark b = .d x := rfl
@[simp] theorem mark_l (b r : Bool) (x : List Dt) : (Sv.ls r x).mark b = .ls b x := rfl
@[simp] theorem mark_x (b : Bool) (k : Nat) : (Sv.ex k).mark b = .ex k := rfl
@[simp] theorem mark_s (b : Bool) (k : List Int) : (Sv.scr k).mark b = .scr k := rfl
theorem atI_nat {α : Type} (xs : List α) (i : Nat) : atI xs (i : Int) = xs[i]? := by
  unfold atI ixN
  by_cases h : i < xs.length
  · rw [if_pos (by omega), if_pos (by omega)]
    simp
  · rw [if_pos (by omega), if_neg (by omega), List.getElem?_eq_none (by omega)]
    rfl
def wbAt (o : Option Sv) (q : Option (Option Sv)) : Option Sv := match o with
  | none => none
  | some s => if s.own then (match q with
    | some (some s') => some (s'.mark s.isRef)
    | _ => some s) else some s
theorem wb1_eq (as : List Av) (outs : Ev) (i : Nat) (o : Option Sv) : wb1 as outs i o = (match posOf i as with
    | none => o
    | some j => wbAt o outs[j]?) := by
  unfold wb1 wbAt
  cases o with
  | none => cases posOf i as <;> rfl
  | some s =>
    cases posOf i as with
    | none => dsimp only; split <;> rfl
    | some j => rfl
@[simp] theorem writeBack_nil (as : List Av) (outs : Ev) : writeBack [] as outs = [] := rfl
@[simp] theorem writeBack_eq (ρ : Ev) (as : List Av) (outs : Ev) : writeBack ρ as outs = ρ.mapIdx fun i o => (match posOf i as with
    | none => o
    | some j => wbAt o outs[j]?) := by
  unfold writeBack
  congr 1
  funext i o
  exact wb1_eq as outs i o
@[simp] theorem posOf_nil (i : Nat) : posOf i [] = none := rfl
@[simp] theorem posOf_d (i : Nat) (x : Dt) (as : List Av) : posOf i (.d x :: as) = (posOf i as).map (· + 1) := rfl
@[simp] theorem posOf_s (i k : Nat) (as : List Av) : posOf i (.s k :: as) = if k = i then some 0 else (posOf i as).map (· + 1) := rfl
@[simp] theorem wbAt_n (q : Option (Option Sv)) : wbAt none q = none := rfl
@[simp] theorem wbAt_d (x : Dt) (q : Option (Option Sv)) : wbAt (some (.d x)) q = some (.d x) := rfl
@[simp] theorem wbAt_x (x : Nat) (q : Option (Option Sv)) : wbAt (some (.ex x)) q = some (.ex x) := rfl
@[simp] theorem wbAt_s (x : List Int) (q : Option (Option Sv)) : wbAt (some (.scr x)) q = some (.scr x) := rfl
@[simp] theorem wbAt_l (r : Bool) (x : List Dt) (s : Sv) : wbAt (some (.ls r x)) (some (some s)) = some (s.mark r) := rfl
@[simp] theorem okArgs_nil (ρ : Ev) : okArgs ρ [] = true := rfl
@[simp] theorem okArgs_d (ρ : Ev) (x : Dt) (as : List Av) : okArgs ρ (.d x :: as) = okArgs ρ as := rfl
@[simp] theorem okArgs_s (ρ : Ev) (i : Nat) (as : List Av) : okArgs ρ (.s i :: as) = ((!ownAt ρ[i]? || !hasS i as) && okArgs ρ as) := rfl
@[simp] theorem hasS_nil (i : Nat) : hasS i [] = false := rfl
@[simp] theorem hasS_d (i : Nat) (x : Dt) (as : List Av) : hasS i (.d x :: as) = hasS i as := rfl
@[simp] theorem hasS_s (i k : Nat) (as : List Av) : hasS i (.s k :: as) = (decide (k = i) || hasS i as) := rfl
@[simp] theorem finE_nil (ρ : Ev) : finE [] ρ = [] := rfl
@[simp] theorem finE_cons (s : Sv) (ss : List Sv) (ρ : Ev) : finE (s :: ss) ρ = (if s.isRef then (ρ.head?).getD none else none) :: finE ss ρ.tail := rfl
@[simp] theorem svsE_nil : svsE [] = [] := rfl
@[simp] theorem svsE_cons (s : Sv) (ss : List Sv) : svsE (s :: ss) = some s :: svsE ss := rfl
theorem bodyF_ap (n : Nat) (f : M Fl) (svs : List Sv) : bodyF n f svs = (match f (svsE svs ++ List.replicate (n - svs.length) none) with
  | .ok (.rt r) ρ => .ok r (finE svs ρ)
  | .ok .nx ρ => .ok (.d .none) (finE svs ρ)
  | .ok _ _ => .bad
  | .err k ρ => .err k (finE svs ρ)
  | .bad => .bad) := rfl
theorem Fcell_eq (ns : List Int) (k : Nat) : Fcell [.scr ns, .d (.int k)] = .ok (.d (.int (cellI ns k))) [none, none] := by
  by_cases hn : ns = []
  · subst hn
    rfl
  · have h1 : 0 < ns.length := List.length_pos_iff.mpr hn
    have e : ((k : Int) % (ns.length : Int)) = (((k % ns.length : Nat)) : Int) := by omega
    have hl : k % ns.length < ns.length := Nat.mod_lt _ h1
    have h0 : ns.isEmpty = false := by cases ns <;> simp at hn ⊢
    have q : atI ns ((k : Int) % (ns.length : Int)) = some (cellI ns k) := by
      rw [e, atI_nat, List.getElem?_eq_getElem hl]
      unfold cellI
      rw [if_neg (by simp [h0]), List.getD_eq_getElem?_getD, List.getElem?_eq_getElem hl]
      rfl
    simp [Fcell, fcell, bodyF_ap, lenA, slotT, h0, h1, q]
theorem Fmix_eq (ns : List Int) (k : Nat) : Fmix [.scr ns, .d (.int k)] = .ok (.d (.int (mixI ns k))) [none, none] := by
  have a0 : (0 : Int) ≤ (cellI ns k + 104729 * ((k : Int) + 1)) % 4294967291 := Int.emod_nonneg _ (by decide)
  have a1 : (cellI ns k + 104729 * ((k : Int) + 1)) % 4294967291 < 4294967291 := Int.emod_lt_of_pos _ (by decide)
  have s1 : small64 104729 = true := rfl
  have s2 : small64 69621 = true := rfl
  have nb : ((cellI ns k + 104729 * ((k : Int) + 1)) % 4294967291).natAbs < 2 ^ 64 := by omega
  simp at nb
  simp [Fmix, fmix, bodyF_ap, Fcell_eq, s1, s2, nb, mixI]
theorem Fdraw_eq (ns : List Int) (xs : List Dt) (m : Int) (hm : 0 < m) (hk : xs.length < 999999) : Fdraw [.scr ns, .ls true xs, .d (.int m)] = .ok (.d (.int (drw ns (xs.length + 1) m))) [none, some (.ls true (xs ++ [.int 0])), none] := by
  have hk' : xs.length < 1000000 := by omega
  have q := Fmix_eq ns (xs.length + 1)
  simp at q
  simp [Fdraw, fdraw, bodyF_ap, appD, lenA, q, hm, hk', drw]
end G8
namespace G8
open PySem L2
/-! more of what the parts do -/
@[simp] theorem int1_i (i : Int) : int1 [.int i] = some i := rfl
@[simp] theorem int2_i (i j : Int) : int2 [.int i, .int j] = some (i, j) := rfl
@[simp] theorem int3_i (i j k : Int) : int3 [.int i, .int j, .int k] = some (i, j, k) := rfl
@[simp] theorem mulD_l (xs : List Dt) (k : Int) : mulD (.list xs) (.int k) = if mid k && decide (k ≤ 1000) && decide (xs.length ≤ 1000) then some (.l (List.replicate k.toNat xs).flatten) else none := rfl
@[simp] theorem seqOf_l (xs : List Dt) : seqOf (.list xs) = some xs := rfl
@[simp] theorem tupOf_t (xs : List Dt) : tupOf (.tuple xs) = some xs := rfl
@[simp] theorem lenA_d (ρ : Ev) (x : Dt) : lenA ρ (.d x) = lenD x := rfl
@[simp] theorem lenA_s (ρ : Ev) (i : Nat) : lenA ρ (.s i) = (match ρ[i]? with
    | some (some (.d x)) => lenD x
    | some (some (.ls _ xs)) => some xs.length
    | some (some (.dk _ xs)) => some xs.length
    | some (some (.scr ns)) => some ns.length
    | _ => none) := rfl
@[simp] theorem lenD_l (xs : List Dt) : lenD (.list xs) = some xs.length := rfl
@[simp] theorem lenD_t (xs : List Dt) : lenD (.tuple xs) = some xs.length := rfl
@[simp] theorem nonA_d (ρ : Ev) (x : Dt) : nonA ρ (.d x) = some (isNone x) := rfl
@[simp] theorem nonA_s (ρ : Ev) (i : Nat) : nonA ρ (.s i) = (match ρ[i]? with
    | some (some (.d x)) => some (isNone x)
    | some (some _) => some false
    | _ => none) := rfl
@[simp] theorem isNone_n : isNone .none = true := rfl
@[simp] theorem isNone_i (i : Int) : isNone (.int i) = false := rfl
@[simp] theorem isNone_b (i : Bool) : isNone (.bool i) = false := rfl
@[simp] theorem isNone_s (i : Str) : isNone (.str i) = false := rfl
@[simp] theorem isNone_l (i : List Dt) : isNone (.list i) = false := rfl
@[simp] theorem isNone_t (i : List Dt) : isNone (.tuple i) = false := rfl
@[simp] theorem two2_i (g : Int → Int → Int) (i j : Int) : two2 g [.int i, .int j] = some (.d (.int (g i j))) := rfl
@[simp] theorem truth_b (i : Bool) : truth (.bool i) = some i := rfl
@[simp] theorem slotT_d (x : Dt) : slotT (some (some (.d x))) = truth x := rfl
@[simp] theorem isL_l (xs : List Dt) : isL (.list xs) = some () := rfl
/-! loops -/
@[simp] theorem slots_one (i : Nat) : (Tgt.one i).slots = [i] := rfl
@[simp] theorem slots_tup (is : List Nat) : (Tgt.tup is).slots = is := rfl
@[simp] theorem anyOwn_nil (ρ : Ev) : anyOwn ρ [] = false := rfl
@[simp] theorem anyOwn_cons (ρ : Ev) (i : Nat) (is : List Nat) : anyOwn ρ (i :: is) = (ownAt ρ[i]? || anyOwn ρ is) := by simp [anyOwn]
@[simp] theorem wipeE_nil (ρ : Ev) : wipeE ρ [] = ρ := rfl
@[simp] theorem wipeE_cons (ρ : Ev) (i : Nat) (is : List Nat) : wipeE ρ (i :: is) = (wipeE ρ is).set i none := rfl
@[simp] theorem backE_nil (ρ ρ' : Ev) : backE ρ ρ' [] = ρ' := rfl
@[simp] theorem backE_cons (ρ ρ' : Ev) (i : Nat) (is : List Nat) : backE ρ ρ' (i :: is) = (backE ρ ρ' is).set i ((ρ[i]?).getD none) := rfl
theorem stepL_ap (t : Tgt) (ft : M Bool) (fe : M Av) (d : Dt) (ρ : Ev) : stepL t ft fe d ρ = if anyOwn ρ t.slots then .bad else (match putT t d (wipeE ρ t.slots) with
  | .ok _ ρ1 => (match ft ρ1 with
    | .ok true ρ2 => (match fe ρ2 with
      | .ok a ρ3 => (match fzv ρ3 a with
        | some x => .ok (some x) (backE ρ ρ3 t.slots)
        | none => .bad)
      | _ => .bad)
    | .ok false ρ2 => .ok none (backE ρ ρ2 t.slots)
    | _ => .bad)
  | _ => .bad) := rfl
theorem compL_cons (t : Tgt) (ft : M Bool) (fe : M Av) (d : Dt) (ds acc : List Dt) (ρ : Ev) : compL t ft fe (d :: ds) acc ρ = (match stepL t ft fe d ρ with
  | .ok (some x) ρ' => if acc.length < 1000000 then compL t ft fe ds (acc ++ [x]) ρ' else .bad
  | .ok none ρ' => compL t ft fe ds acc ρ'
  | .err k ρ' => .err k ρ'
  | .bad => .bad) := by
  show bindM (stepL t ft fe d) _ ρ = _
  rw [bindM_ap]
  cases stepL t ft fe d ρ with
  | err k ρ' => rfl
  | bad => rfl
  | ok o ρ' =>
    cases o with
    | none => rfl
    | some x => dsimp only; split <;> rfl
/-- the items of a comprehension, one by one, with a state -/
def collect {α : Type} (step : α → Dt → Option Dt × α) : List Dt → α → List Dt × α
  | [], a => ([], a)
  | d :: ds, a => let r := collect step ds (step a d).2
    (match (step a d).1 with
      | some x => x :: r.1
      | none => r.1, r.2)
theorem compL_st {α : Type} {t : Tgt} {ft : M Bool} {fe : M Av} (E : α → Ev) (step : α → Dt → Option Dt × α) (I : α → Prop) : ∀ (ds acc : List Dt) (a : α), I a → acc.length + ds.length ≤ 1000000 →
    (∀ a d, I a → d ∈ ds → stepL t ft fe d (E a) = .ok (step a d).1 (E (step a d).2) ∧ I (step a d).2) → compL t ft fe ds acc (E a) = .ok (acc ++ (collect step ds a).1) (E (collect step ds a).2)
  | [], acc, a, _, _, _ => by simp [collect]
  | d :: ds, acc, a, hI, hl, h => by
    obtain ⟨h1, h2⟩ := h a d hI (List.mem_cons_self ..)
    rw [compL_cons, h1]
    cases e : (step a d).1 with
    | none =>
      dsimp only
      rw [compL_st E step I ds acc _ h2 (by simp at hl; omega) fun a' d' i m => h a' d' i (List.mem_cons_of_mem _ m)]
      simp [collect, e]
    | some x =>
      dsimp only
      rw [if_pos (by simp at hl; omega), compL_st E step I ds _ _ h2 (by simp at hl ⊢; omega) fun a' d' i m => h a' d' i (List.mem_cons_of_mem _ m)]
      simp [collect, e]
/-- with no state -/
theorem compL_fm {t : Tgt} {ft : M Bool} {fe : M Av} {ρ : Ev} (g : Dt → Option Dt) : ∀ (ds acc : List Dt), acc.length + ds.length ≤ 1000000 →
    (∀ d, d ∈ ds → stepL t ft fe d ρ = .ok (g d) ρ) → compL t ft fe ds acc ρ = .ok (acc ++ ds.filterMap g) ρ
  | [], acc, _, _ => by simp
  | d :: ds, acc, hl, h => by
    rw [compL_cons, h d (List.mem_cons_self ..)]
    cases e : g d with
    | none =>
      dsimp only
      rw [compL_fm g ds acc (by simp at hl; omega) fun d' m => h d' (List.mem_cons_of_mem _ m)]
      simp [e]
    | some x =>
      dsimp only
      rw [if_pos (by simp at hl; omega), compL_fm g ds _ (by simp at hl ⊢; omega) fun d' m => h d' (List.mem_cons_of_mem _ m)]
      simp [e]
theorem compL_map {α : Type} {t : Tgt} {ft : M Bool} {fe : M Av} {ρ : Ev} (c : α → Dt) (g : α → Dt) (xs : List α) (hl : xs.length ≤ 1000000)
    (h : ∀ x, x ∈ xs → stepL t ft fe (c x) ρ = .ok (some (g x)) ρ) : compL t ft fe (xs.map c) [] ρ = .ok (xs.map g) ρ := by
  have key : ∀ (xs : List α) (acc : List Dt), acc.length + xs.length ≤ 1000000 → (∀ x, x ∈ xs → stepL t ft fe (c x) ρ = .ok (some (g x)) ρ) → compL t ft fe (xs.map c) acc ρ = .ok (acc ++ xs.map g) ρ := by
    intro xs
    induction xs with
    | nil => intro acc _ _; simp
    | cons x xs ih =>
      intro acc hl h
      rw [List.map_cons, compL_cons, h x (List.mem_cons_self ..)]
      dsimp only
      rw [if_pos (by simp at hl; omega), ih _ (by simp at hl ⊢; omega) fun y m => h y (List.mem_cons_of_mem _ m)]
      simp
  simpa using key xs [] (by simpa using hl) h
/-- a part of the items, each by its own worth -/
theorem compL_fmap {α : Type} {t : Tgt} {ft : M Bool} {fe : M Av} {ρ : Ev} (c : α → Dt) (g : α → Option Dt) (xs : List α) (hl : xs.length ≤ 1000000)
    (h : ∀ x, x ∈ xs → stepL t ft fe (c x) ρ = .ok (g x) ρ) : compL t ft fe (xs.map c) [] ρ = .ok (xs.filterMap g) ρ := by
  have key : ∀ (xs : List α) (acc : List Dt), acc.length + xs.length ≤ 1000000 → (∀ x, x ∈ xs → stepL t ft fe (c x) ρ = .ok (g x) ρ) → compL t ft fe (xs.map c) acc ρ = .ok (acc ++ xs.filterMap g) ρ := by
    intro xs
    induction xs with
    | nil => intro acc _ _; simp
    | cons x xs ih =>
      intro acc hl h
      rw [List.map_cons, compL_cons, h x (List.mem_cons_self ..)]
      cases e : g x with
      | none =>
        dsimp only
        rw [ih _ (by simp at hl ⊢; omega) fun y m => h y (List.mem_cons_of_mem _ m)]
        simp [e]
      | some z =>
        dsimp only
        rw [if_pos (by simp at hl; omega), ih _ (by simp at hl ⊢; omega) fun y m => h y (List.mem_cons_of_mem _ m)]
        simp [e]
  simpa using key xs [] (by simpa using hl) h
theorem forL_cons (t : Tgt) (body : M Fl) (d : Dt) (ds : List Dt) (ρ : Ev) : forL t body (d :: ds) ρ = (match putT t d ρ with
    | .ok _ ρ1 => (match body ρ1 with
      | .ok .nx ρ2 => forL t body ds ρ2
      | .ok .ct ρ2 => forL t body ds ρ2
      | .ok .bk ρ2 => .ok .nx ρ2
      | o => o)
    | _ => .bad) := rfl
/-- one round of a loop -/
def roundM (t : Tgt) (body : M Fl) (d : Dt) : M Fl := fun ρ => match putT t d ρ with
    | .ok _ ρ1 => body ρ1
    | _ => .bad
theorem roundM_ap (t : Tgt) (body : M Fl) (d : Dt) (ρ : Ev) : roundM t body d ρ = (match putT t d ρ with
    | .ok _ ρ1 => body ρ1
    | _ => .bad) := rfl
theorem forL_round (t : Tgt) (body : M Fl) (d : Dt) (ds : List Dt) (ρ : Ev) : forL t body (d :: ds) ρ = (match roundM t body d ρ with
      | .ok .nx ρ2 => forL t body ds ρ2
      | .ok .ct ρ2 => forL t body ds ρ2
      | .ok .bk ρ2 => .ok .nx ρ2
      | o => o) := by
  rw [forL_cons, roundM_ap]
  cases putT t d ρ with
  | ok u ρ1 => rfl
  | err k ρ1 => rfl
  | bad => rfl
/-- a loop through, with a state -/
theorem forL_st {α β : Type} {t : Tgt} {body : M Fl} (c : β → Dt) (E : α → Ev) (step : α → β → α) (I : α → Prop) : ∀ (xs : List β) (a : α), I a →
    (∀ a x, I a → x ∈ xs → (roundM t body (c x) (E a) = .ok .nx (E (step a x)) ∨ roundM t body (c x) (E a) = .ok .ct (E (step a x))) ∧ I (step a x)) → forL t body (xs.map c) (E a) = .ok .nx (E (xs.foldl step a)) ∧ I (xs.foldl step a)
  | [], a, hI, _ => by simp [hI]
  | x :: xs, a, hI, h => by
    obtain ⟨h1, h2⟩ := h a x hI (List.mem_cons_self ..)
    have h3 := forL_st c E step I xs (step a x) h2 fun a' d' i m => h a' d' i (List.mem_cons_of_mem _ m)
    rcases h1 with h1 | h1 <;> (rw [List.map_cons, forL_round, h1]; exact h3)
/-- a loop through, with an invariant by the number of rounds -/
theorem forL_inv {β : Type} {t : Tgt} {body : M Fl} (c : β → Dt) (P : Nat → Ev → Prop) : ∀ (xs : List β) (n : Nat) (ρ : Ev), P n ρ →
    (∀ i x ρ, xs[i]? = some x → P (n + i) ρ → ∃ ρ', (roundM t body (c x) ρ = .ok .nx ρ' ∨ roundM t body (c x) ρ = .ok .ct ρ') ∧ P (n + i + 1) ρ') → ∃ ρ', forL t body (xs.map c) ρ = .ok .nx ρ' ∧ P (n + xs.length) ρ'
  | [], n, ρ, h, _ => ⟨ρ, rfl, h⟩
  | x :: xs, n, ρ, h, s => by
    obtain ⟨ρ1, h1, h2⟩ := s 0 x ρ rfl h
    obtain ⟨ρ2, h3, h4⟩ := forL_inv c P xs (n + 1) ρ1 h2 fun i y ρ e p => by
      have := s (i + 1) y ρ (by simpa using e) (by rw [show n + (i + 1) = n + 1 + i by omega]; exact p)
      rw [show n + (i + 1) + 1 = n + 1 + i + 1 by omega] at this
      exact this
    refine ⟨ρ2, ?_, by rw [List.length_cons, show n + (xs.length + 1) = n + 1 + xs.length by omega]; exact h4⟩
    rcases h1 with h1 | h1 <;> (rw [List.map_cons, forL_round, h1]; exact h3)
theorem rangeD_eq (lo : Int) (n : Nat) : rangeD lo n = (List.range n).map fun (i : Nat) => PyData.int (lo + (i : Int)) := rfl
theorem rangeD0 (n : Nat) : rangeD 0 n = (List.range n).map fun (i : Nat) => PyData.int (i : Int) := by
  rw [rangeD_eq]
  apply List.map_congr_left
  intro i _
  simp
theorem mid_nat {n : Nat} (h : n < 2 ^ 62) : mid (n : Int) = true := by
  unfold mid
  exact Nat.blt_eq.mpr (by omega)
theorem small_nat {n : Nat} (h : n < 2 ^ 64) : G8.small64 (n : Int) = true := by
  unfold G8.small64
  exact Nat.blt_eq.mpr (by omega)
theorem seqM_assoc (f g h : M Fl) : seqM (seqM f g) h = seqM f (seqM g h) := by
  funext ρ
  simp only [seqM_ap]
  cases f ρ with
  | ok a ρ' => cases a <;> rfl
  | err k ρ' => rfl
  | bad => rfl
theorem seqM_nx {f g : M Fl} {ρ ρ' : Ev} (h : f ρ = .ok .nx ρ') : seqM f g ρ = g ρ' := by
  rw [seqM_ap, h]
theorem bodyF_rt {n : Nat} {f : M Fl} {svs : List Sv} {r : Rv} {ρ : Ev} (h : f (svsE svs ++ List.replicate (n - svs.length) none) = .ok (.rt r) ρ) : bodyF n f svs = .ok r (finE svs ρ) := by
  rw [bodyF_ap, h]
end G8
namespace G8
open PySem L2
/-! data: equality, depth -/
@[simp] theorem eqv_ii (i j : Int) : PyData.eqv (.int i) (.int j) = decide (i = j) := by
  rw [PyData.eqv]
  by_cases h : i = j <;> simp [h]
@[simp] theorem eqv_bb (i j : Bool) : PyData.eqv (.bool i) (.bool j) = (i == j) := by rw [PyData.eqv]
@[simp] theorem eqv_ss (i j : Str) : PyData.eqv (.str i) (.str j) = (i == j) := by rw [PyData.eqv]
@[simp] theorem eqv_nn : PyData.eqv .none .none = true := by rw [PyData.eqv]
@[simp] theorem eqv_ll (i j : List Dt) : PyData.eqv (.list i) (.list j) = PyData.eqvAll i j := by rw [PyData.eqv]
@[simp] theorem eqv_tt (i j : List Dt) : PyData.eqv (.tuple i) (.tuple j) = PyData.eqvAll i j := by rw [PyData.eqv]
@[simp] theorem eqv_in (i : Int) : PyData.eqv (.int i) .none = false := by rw [PyData.eqv]
@[simp] theorem eqv_ni (i : Int) : PyData.eqv .none (.int i) = false := by rw [PyData.eqv]
@[simp] theorem eqv_it (i : Int) (x : List Dt) : PyData.eqv (.int i) (.tuple x) = false := by rw [PyData.eqv]
@[simp] theorem eqv_ti (i : Int) (x : List Dt) : PyData.eqv (.tuple x) (.int i) = false := by rw [PyData.eqv]
@[simp] theorem eqv_lt (i : List Dt) (x : List Dt) : PyData.eqv (.list i) (.tuple x) = false := by rw [PyData.eqv]
@[simp] theorem eqv_tl (i : List Dt) (x : List Dt) : PyData.eqv (.tuple x) (.list i) = false := by rw [PyData.eqv]
@[simp] theorem eqvA_nn : PyData.eqvAll [] [] = true := by rw [PyData.eqvAll]
@[simp] theorem eqvA_cc (x y : Dt) (xs ys : List Dt) : PyData.eqvAll (x :: xs) (y :: ys) = (PyData.eqv x y && PyData.eqvAll xs ys) := by rw [PyData.eqvAll]
@[simp] theorem eqvA_nc (y : Dt) (ys : List Dt) : PyData.eqvAll [] (y :: ys) = false := by rw [PyData.eqvAll]
@[simp] theorem eqvA_cn (y : Dt) (ys : List Dt) : PyData.eqvAll (y :: ys) [] = false := by rw [PyData.eqvAll]
/-- plain data, n deep at most -/
def nice (n : Nat) (x : Dt) : Prop := x.plain = true ∧ x.depth ≤ n
theorem nice_int (n : Nat) (i : Int) : nice n (.int i) := ⟨by rw [PyData.plain], by rw [PyData.depth]; omega⟩
theorem nice_bool (n : Nat) (i : Bool) : nice n (.bool i) := ⟨by rw [PyData.plain], by rw [PyData.depth]; omega⟩
theorem nice_str (n : Nat) (i : Str) : nice n (.str i) := ⟨by rw [PyData.plain], by rw [PyData.depth]; omega⟩
theorem nice_none (n : Nat) : nice n .none := ⟨by rw [PyData.plain], by rw [PyData.depth]; omega⟩
theorem nice_all {n : Nat} : ∀ {xs : List Dt}, (∀ x ∈ xs, nice n x) → PyData.plainAll xs = true ∧ PyData.depthAll xs ≤ n
  | [], _ => ⟨by rw [PyData.plainAll], by rw [PyData.depthAll]; omega⟩
  | x :: xs, h => by
    obtain ⟨h1, h2⟩ := h x (List.mem_cons_self ..)
    obtain ⟨h3, h4⟩ := nice_all fun y hy => h y (List.mem_cons_of_mem _ hy)
    rw [PyData.plainAll, PyData.depthAll, h1, h3]
    exact ⟨rfl, Nat.max_le.mpr ⟨h2, h4⟩⟩
theorem nice_list {n : Nat} {xs : List Dt} (h : ∀ x ∈ xs, nice n x) : nice (n + 1) (.list xs) := by
  obtain ⟨h1, h2⟩ := nice_all h
  exact ⟨by rw [PyData.plain]; exact h1, by rw [PyData.depth]; omega⟩
theorem nice_tuple {n : Nat} {xs : List Dt} (h : ∀ x ∈ xs, nice n x) : nice (n + 1) (.tuple xs) := by
  obtain ⟨h1, h2⟩ := nice_all h
  exact ⟨by rw [PyData.plain]; exact h1, by rw [PyData.depth]; omega⟩
theorem nice_up {n m : Nat} {x : Dt} (h : nice n x) (hm : n ≤ m) : nice m x := ⟨h.1, Nat.le_trans h.2 hm⟩
theorem nice_ints (n : Nat) (xs : List Int) : nice (n + 1) (.list (xs.map PyData.int)) := nice_list fun x hx => by
  obtain ⟨i, _, rfl⟩ := List.mem_map.mp hx
  exact nice_int n i
theorem shal_nice {x : Dt} (h : nice 60 x) : shal x = true := decide_eq_true h.2
theorem shalL_nice {xs : List Dt} (h : ∀ x ∈ xs, nice 60 x) : shalL xs = true := decide_eq_true (nice_all h).2
@[simp] theorem shal_i (i : Int) : shal (.int i) = true := shal_nice (nice_int _ _)
@[simp] theorem shal_b (i : Bool) : shal (.bool i) = true := shal_nice (nice_bool _ _)
@[simp] theorem shal_s (i : Str) : shal (.str i) = true := shal_nice (nice_str _ _)
@[simp] theorem shal_n : shal .none = true := shal_nice (nice_none _)
@[simp] theorem shalL_ints (xs : List Int) : shalL (xs.map PyData.int) = true := shalL_nice fun x hx => by
  obtain ⟨i, _, rfl⟩ := List.mem_map.mp hx
  exact nice_int _ i
theorem eqD_self {x : Dt} (h : nice 60 x) : eqD x x = some true := by
  unfold eqD
  rw [shal_nice h, PySem.SeqAt.eqv_refl_plain x h.1]
  rfl
theorem neD_self {x : Dt} (h : nice 60 x) : neD x x = some false := by
  unfold neD
  rw [shal_nice h, PySem.SeqAt.eqv_refl_plain x h.1]
  rfl
@[simp] theorem eqD_i (i j : Int) : eqD (.int i) (.int j) = some (decide (i = j)) := by simp [eqD]
@[simp] theorem neD_i (i j : Int) : neD (.int i) (.int j) = some (!decide (i = j)) := by simp [neD]
@[simp] theorem eqD_s (i j : Str) : eqD (.str i) (.str j) = some (i == j) := by simp [eqD]
@[simp] theorem neD_s (i j : Str) : neD (.str i) (.str j) = some (!(i == j)) := by simp [neD]
theorem eqvA_ints : ∀ (xs ys : List Int), PyData.eqvAll (xs.map PyData.int) (ys.map PyData.int) = decide (xs = ys)
  | [], [] => by simp
  | [], _ :: _ => by simp
  | _ :: _, [] => by simp
  | x :: xs, y :: ys => by simp [eqvA_ints xs ys, Bool.decide_and]
theorem inD_ints (i : Int) (xs : List Int) : inD (.int i) (.list (xs.map PyData.int)) = some (decide (i ∈ xs)) := by
  show (if shal (.int i) && shalL (xs.map PyData.int) then some ((xs.map PyData.int).any fun z => PyData.eqv z (.int i)) else none) = _
  rw [shal_i, shalL_ints, List.any_map]
  show some _ = some _
  congr 1
  induction xs with
  | nil => rfl
  | cons x xs ih =>
    rw [List.any_cons, ih]
    simp [Bool.decide_or, eq_comm]
theorem ninD_ints (i : Int) (xs : List Int) : ninD (.int i) (.list (xs.map PyData.int)) = some (decide (i ∉ xs)) := by
  unfold ninD
  rw [inD_ints]
  simp
end G8
namespace G8
open PySem L2
/-! sorted, over data -/
def leD : Dt → Dt → Bool := PySem.W.dataLe false id
def isTc : Dt → Bool
  | .tuple (_ :: _) => true
  | _ => false
def noTu : Dt → Bool
  | .tuple _ => false
  | .none => false
  | _ => true
def sortB (xs : List Dt) : Bool := xs.all isTc || xs.all noTu
theorem sortB_of {xs : List Dt} (h : sortB xs = true) : PySem.W.Sortable xs := by
  unfold sortB at h
  rw [Bool.or_eq_true, List.all_eq_true, List.all_eq_true] at h
  rcases h with h | h
  · refine .inl fun d hd => ?_
    have := h d hd
    unfold isTc at this
    split at this
    · exact ⟨_, _, rfl⟩
    · cases this
  · refine .inr fun d hd => ?_
    have := h d hd
    unfold noTu at this
    split at this
    · cases this
    · cases this
    · rename_i h1 h2
      exact ⟨fun e => h2 e, fun xs e => h1 xs e⟩
def alikeA (xs : List Dt) : Bool := xs.all fun x => xs.all fun y => PySem.W.alike x y
theorem alikeA_of {xs : List Dt} (h : alikeA xs = true) : PySem.W.AllAlike xs := by
  unfold alikeA at h
  rw [List.all_eq_true] at h
  exact fun x hx y hy => List.all_eq_true.mp (h x hx) y hy
def sortD : List Dt → Option Rv
  | [.list xs] => if shalL xs && alikeA xs && sortB xs then some (.l (xs.mergeSort leD)) else none
  | _ => none
def rSortD (K : Fg) : List V → Hp → VK → Prop := fun vs H Q => ∃ (a : Addr) (bs : List (V × Dt)), vs = [.ref a] ∧ SqL K H a (bs.map Prod.fst) ∧ DpAll K H (bs.map Prod.fst) (bs.map Prod.snd) ∧ PySem.W.AllAlike (bs.map Prod.snd) ∧ PySem.W.Sortable (bs.map Prod.snd) ∧ PyData.depthAll (bs.map Prod.snd) ≤ 60 ∧
  ∀ p, H p = none → Q (.ref p) (upd H p (.lst ((bs.mergeSort (PySem.W.dataLe false Prod.snd)).map Prod.fst)))
theorem depthAll_mem : ∀ {xs : List Dt} {d : Dt}, d ∈ xs → d.depth ≤ PyData.depthAll xs
  | x :: xs, d, h => by
    rw [PyData.depthAll]
    rcases List.mem_cons.mp h with e | e
    · rw [e]; exact Nat.le_max_left _ _
    · exact Nat.le_trans (depthAll_mem e) (Nat.le_max_right _ _)
theorem vals_each : ∀ {bs : List (V × Dt)} {us : List Value}, Vals (bs.map Prod.fst) us → PySem.W.EachIs (fun v (b : V × Dt) => RelV b.1 v) us bs
  | [], _, h => by cases h; exact .nil
  | b :: bs, _, h => by
    cases h with
    | cons h1 h2 => exact .cons h1 (vals_each h2)
theorem each_vals : ∀ {bs : List (V × Dt)} {us : List Value}, PySem.W.EachIs (fun v (b : V × Dt) => RelV b.1 v) us bs → Vals (bs.map Prod.fst) us
  | [], _, h => by cases h; exact .nil
  | b :: bs, _, h => by
    cases h with
    | cons h1 h2 => exact .cons h1 (each_vals h2)
section
variable {X : Cx}
theorem c_sortD (hu : X.A.units + 64 < cLine) : CallR X (.builtin "sorted") (rSortD X.K) := by
  intro pins s σ H vs us Q I r h
  obtain ⟨a, bs, rfl, h1, h2, h3, h4, h5, q⟩ := h
  obtain ⟨its, rv, hl, hz⟩ := I.list h1
  rw [Vals.ref1 r]
  obtain ⟨as, rs⟩ := Dp.readsAll I _ _ its h2 rv
  refine PySem.W.sorted_data (R := fun v (b : V × Dt) => RelV b.1 v) (enc := Prod.snd) (bs := bs) hl.isList (vals_each rv) (PySem.W.readsAll_each Prod.snd rs) h3 h4 (by rw [List.length_map] at hz; exact hz) (fun b hb => by
    have := depthAll_mem (List.mem_map_of_mem (f := Prod.snd) hb)
    omega) fun out h6 h7 => ?_
  obtain ⟨ep, he'⟩ := PyProof.Rows.sortedAll_at s.heap its out.toArray
  have hlen : ((bs.mergeSort (PySem.W.dataLe false Prod.snd)).map Prod.fst).length ≤ sizeLine := by
    rw [List.length_map, List.length_mergeSort]
    rw [List.length_map] at hz
    exact hz
  exact ⟨.ref _, upd H (s.heap.objs.size + 1) (.lst ((bs.mergeSort (PySem.W.dataLe false Prod.snd)).map Prod.fst)), I.laid (t' := s.toks) (fun _ _ => PyProof.Rows.sortedAll_old) (Nat.le_succ _) ⟨hlen, out, ep, each_vals h7, he'⟩, rfl, q _ (I.hok.fresh (Nat.le_succ _))⟩
end
theorem Rps.zip {K : Fg} {G : Hp} : ∀ {vs : List V} {ds : List Dt}, Rps K G vs ds → ∃ bs : List (V × Dt), bs.map Prod.fst = vs ∧ bs.map Prod.snd = ds ∧ ∀ b ∈ bs, Rp K G b.1 b.2
  | [], _, h => by cases h; exact ⟨[], rfl, rfl, fun b hb => by cases hb⟩
  | v :: vs, _, h => by
    cases h with
    | cons h1 h2 =>
      obtain ⟨bs, e1, e2, e3⟩ := Rps.zip h2
      refine ⟨(v, _) :: bs, by rw [List.map_cons, e1], by rw [List.map_cons, e2], fun b hb => ?_⟩
      rcases List.mem_cons.mp hb with e | e
      · rw [e]; exact h1
      · exact e3 b e
theorem Rps.unzip {K : Fg} {G : Hp} : ∀ {bs : List (V × Dt)}, (∀ b ∈ bs, Rp K G b.1 b.2) → Rps K G (bs.map Prod.fst) (bs.map Prod.snd)
  | [], _ => .nil
  | b :: bs, h => .cons (h b (List.mem_cons_self ..)) (Rps.unzip fun c hc => h c (List.mem_cons_of_mem _ hc))
theorem d_sort {b : Bs} : DoesN b (rSortD b.K) sortD := fun {c G H ρ σ xs ds z Q} S hx e q => by
  unfold sortD at e
  split at e
  · rename_i xs'
    split at e
    · rename_i hs
      cases e
      rw [Bool.and_eq_true, Bool.and_eq_true] at hs
      obtain ⟨v, rfl, h1⟩ := ros1 hx
      obtain ⟨p, vs, rfl, r1, r2⟩ := h1.list S.gh
      obtain ⟨bs, rfl, rfl, h3⟩ := r2.zip
      refine ⟨p, bs, rfl, SqL.of r1, Rps.dp _ _ (Rps.mono S.gh _ _ r2), alikeA_of hs.1.2, sortB_of hs.2, shL_of hs.1.1, fun l hl => ?_⟩
      have em : ((bs.mergeSort (PySem.W.dataLe false Prod.snd)).map Prod.snd) = (bs.map Prod.snd).mergeSort leD := List.map_mergeSort fun a _ b _ => rfl
      have r3 : Rps b.K G ((bs.mergeSort (PySem.W.dataLe false Prod.snd)).map Prod.fst) ((bs.map Prod.snd).mergeSort leD) := by
        rw [← em]
        exact Rps.unzip fun c hc => h3 c (List.mem_mergeSort.mp hc)
      exact fin_l S q hl r3
    · cases e
  · cases e
section
variable {X : Cx} {b : Bs} {W : WX} {e : Expr} {fl : M (List Av)} {p pos : Pos}
theorem m_sorted (hK : X.K = b.K) (hu : X.A.units + 64 < cLine) (hg : Gl X "sorted") (hm : X.mg "sorted" = none) (ha : PA X [e] (tL b W fl)) (hs : starEach [e] X.env = (false, eval e X.env) :: starEach [] X.env := by rfl) : PE X (.Call (.Name "sorted" p) [e] [] pos) (tV b W (biM sortD fl)) :=
  m_bi (c_sortD hu) (by rw [hK]; exact d_sort) hg hm (by decide +kernel) ha (by decide) (by decide) hs
end
/-! tuples of ints, one before the other -/
def ltT (x y : Dt) : Option Bool := match x, y with
  | .tuple xs, .tuple ys => (intsOf xs).bind fun ns => (intsOf ys).map fun ms => HT.lexLt ns ms
  | _, _ => none
theorem rps_ints {K : Fg} {G : Hp} : ∀ {vs : List V} {ns : List Int}, Rps K G vs (ns.map PyData.int) → vs = ns.map V.int
  | _, [], h => by cases h; rfl
  | _, n :: ns, h => by
    cases h with
    | cons h1 h2 =>
      cases h1
      rw [rps_ints h2]
      rfl
theorem t_ltT {b : Bs} : Tells b (rLtT b.K) ltT := fun {c G H ρ σ x y dx dy z Q} S hx hy e q => by
  unfold ltT at e
  split at e
  · rename_i xs ys
    cases h1 : intsOf xs with
    | none => rw [h1] at e; cases e
    | some ns =>
      cases h2 : intsOf ys with
      | none => rw [h1, h2] at e; cases e
      | some ms =>
        rw [h1, h2] at e
        cases e
        rw [intsOf_of h1] at hx
        rw [intsOf_of h2] at hy
        obtain ⟨p, vs, rfl, r1, r2⟩ := hx.tup
        obtain ⟨p', vs', rfl, r1', r2'⟩ := hy.tup
        rw [rps_ints r2] at r1
        rw [rps_ints r2'] at r1'
        exact ⟨p, p', ns, ms, rfl, rfl, same_sqT S.gh r1, same_sqT S.gh r1', q⟩
  · cases e
theorem units0 {u : Nat} (h : u + 64 < cLine) : u < cLine := by omega
/-! list(range(..)) -/
def lrg1 (f : M Av) : M Rv := bindM f fun a => optM fun ρ => match res ρ a with
  | some (.int j) => if mid j && Nat.ble j.toNat 1000000 then some (.l (rangeD 0 j.toNat)) else none
  | _ => none
def lrg2 (f g : M Av) : M Rv := bindM f fun a => bindM g fun b => optM fun ρ => match res ρ a, res ρ b with
  | some (.int i), some (.int j) => if mid i && mid j && Nat.ble (j - i).toNat 1000000 then some (.l (rangeD i (j - i).toNat)) else none
  | _, _ => none
theorem rps_range {K : Fg} {G : Hp} (f : Nat → Int) : ∀ l : List Nat, Rps K G (l.map fun i => V.int (f i)) (l.map fun i => PyData.int (f i))
  | [] => .nil
  | x :: l => .cons (.int _) (rps_range f l)
section
variable {X : Cx} {b : Bs} {W : WX} {e e2 : Expr} {fa fb : M Av} {p pos p2 pos2 : Pos}
theorem m_listRange1 (hc : X.calm = true) (hg : Gl X "list") (hm : X.mg "list" = none) (hg2 : Gl X "range") (hm2 : X.mg "range" = none) (ha : PE X e (tE b W fa)) (na : starEach [e] X.env = (false, eval e X.env) :: starEach [] X.env := by rfl)
    (na2 : starEach [.Call (.Name "range" p2) [e] [] pos2] X.env = (false, eval (.Call (.Name "range" p2) [e] [] pos2) X.env) :: starEach [] X.env := by rfl) : PE X (.Call (.Name "list" p) [.Call (.Name "range" p2) [e] [] pos2] [] pos) (tV b W (lrg1 fa)) :=
  weakE (pe_listRg hc hg hm (prg_1 hg2 hm2 ha na) na2) fun σ H Q ⟨c, G, ρ, S, q⟩ => ⟨c, G, ρ, S, (Post.bind q).imp fun a ρ1 G1 H1 e1 S1 q1 v hv => by
    unfold optM at q1
    split at q1
    · rename_i z hz
      dsimp only at hz
      split at hz
      · rename_i j hj
        split at hz
        · rename_i hl
          cases hz
          rw [Bool.and_eq_true] at hl
          obtain ⟨l1, l2⟩ := hl
          have l1 := mid_of l1
          have l2 := Nat.le_of_ble_eq_true l2
          refine ⟨j, (hv.res S1 hj).int, ⟨by omega, by omega, l1.1, l1.2, by rw [Int.sub_zero]; omega⟩, fun l hl => ?_⟩
          unfold rgV
          rw [Int.sub_zero]
          exact fin_l S1 (fun v H' G' e2 S2 rn ap => q1 H' G' e2 S2 v rn ap) hl (rps_range (fun i : Nat => (0 : Int) + (i : Int)) _)
        · cases hz
      · cases hz
    · exact q1.elim⟩
theorem m_listRange2 (hc : X.calm = true) (hg : Gl X "list") (hm : X.mg "list" = none) (hg2 : Gl X "range") (hm2 : X.mg "range" = none) (ha : PE X e (tE b W fa)) (hb : PE X e2 (tE b W fb)) (na : starEach [e, e2] X.env = (false, eval e X.env) :: starEach [e2] X.env := by rfl)
    (nb : starEach [e2] X.env = (false, eval e2 X.env) :: starEach [] X.env := by rfl) (hp : (backTo pos2 (starEach [e2] X.env)).any (·.1) = false := by rfl)
    (na2 : starEach [.Call (.Name "range" p2) [e, e2] [] pos2] X.env = (false, eval (.Call (.Name "range" p2) [e, e2] [] pos2) X.env) :: starEach [] X.env := by rfl) : PE X (.Call (.Name "list" p) [.Call (.Name "range" p2) [e, e2] [] pos2] [] pos) (tV b W (lrg2 fa fb)) :=
  weakE (pe_listRg hc hg hm (prg_2 hg2 hm2 ha hb na nb hp) na2) fun σ H Q ⟨c, G, ρ, S, q⟩ => ⟨c, G, ρ, S, (Post.bind q).imp fun a ρ1 G1 H1 e1 S1 q1 v hv => ⟨c, G1, ρ1, S1, (Post.bind q1).imp fun a2 ρ2 G2 H2 e2 S2 q2 u hu => by
    unfold optM at q2
    split at q2
    · rename_i z hz
      dsimp only at hz
      split at hz
      · rename_i i j hi hj
        split at hz
        · rename_i hl
          cases hz
          rw [Bool.and_eq_true, Bool.and_eq_true] at hl
          obtain ⟨⟨l0, l1⟩, l2⟩ := hl
          have l0 := mid_of l0
          have l1 := mid_of l1
          have l2 := Nat.le_of_ble_eq_true l2
          refine ⟨i, j, ((hv.mono e2).res S2 hi).int, (hu.res S2 hj).int, ⟨l0.1, l0.2, l1.1, l1.2, by omega⟩, fun l hl => ?_⟩
          unfold rgV
          exact fin_l S2 (fun v H' G' e2 S2 rn ap => q2 H' G' e2 S2 v rn ap) hl (rps_range (fun k : Nat => i + (k : Int)) _)
        · cases hz
      · cases hz
    · exact q2.elim⟩⟩
end
/-! xs[::-1] -/
def revD : Dt → Option Rv
  | .list xs => some (.l xs.reverse)
  | _ => none
def revM (f : M Av) : M Rv := un1 revD f
theorem Rps.reverse {K : Fg} {G : Hp} {vs : List V} {ds : List Dt} (h : Rps K G vs ds) : Rps K G vs.reverse ds.reverse := by
  obtain ⟨bs, rfl, rfl, h3⟩ := h.zip
  rw [← List.map_reverse, ← List.map_reverse]
  exact Rps.unzip fun c hc => h3 c (List.mem_reverse.mp hc)
section
variable {X : Cx} {b : Bs} {W : WX} {e : Expr} {fa : M Av} {k : Nat} {p1 p2 p3 pos : Pos}
theorem m_rev (hK : X.K = b.K) (ha : PE X e (tE b W fa)) : PE X (.Subscript e (.Slice none none (some (.UnaryOp .USub (.Constant (.int 1) k p1) p2)) p3) pos) (tV b W (revM fa)) :=
  weakE (pe_revL ha) fun σ H Q ⟨c, G, ρ, S, q⟩ => ⟨c, G, ρ, S, (Post.bind q).imp fun a ρ1 G1 H1 e1 S1 q1 v hv => by
    unfold optM at q1
    split at q1
    · rename_i z hz
      dsimp only at hz
      cases hx : res ρ1 a with
      | none => rw [hx] at hz; cases hz
      | some x =>
        rw [hx] at hz
        cases x with
        | list xs =>
          cases hz
          obtain ⟨p, vs, rfl, r1, r2⟩ := (hv.res S1 hx).list S1.gh
          exact ⟨p, vs, rfl, by rw [hK]; exact SqL.of r1, fun l hl => fin_l S1 (fun v H' G' e2 S2 rn ap => q1 H' G' e2 S2 v rn ap) hl r2.reverse⟩
        | _ => cases hz
    · exact q1.elim⟩
end
theorem sl_any {X : Cx} : SlR X (rSlD X.K) := SlR.or sl_list sl_str
/-! what these do -/
@[simp] theorem ltT_t (xs ys : List Dt) : ltT (.tuple xs) (.tuple ys) = (intsOf xs).bind fun ns => (intsOf ys).map fun ms => HT.lexLt ns ms := rfl
@[simp] theorem revM_ap (f : M Av) (ρ : Ev) : revM f ρ = un1 revD f ρ := rfl
@[simp] theorem revD_l (xs : List Dt) : revD (.list xs) = some (.l xs.reverse) := rfl
@[simp] theorem lrg1_ap (f : M Av) (ρ : Ev) : lrg1 f ρ = bindM f (fun a => optM fun ρ => match res ρ a with
  | some (.int j) => if mid j && Nat.ble j.toNat 1000000 then some (.l (rangeD 0 j.toNat)) else none
  | _ => none) ρ := rfl
@[simp] theorem lrg2_ap (f g : M Av) (ρ : Ev) : lrg2 f g ρ = bindM f (fun a => bindM g fun b => optM fun ρ => match res ρ a, res ρ b with
  | some (.int i), some (.int j) => if mid i && mid j && Nat.ble (j - i).toNat 1000000 then some (.l (rangeD i (j - i).toNat)) else none
  | _, _ => none) ρ := rfl
end G8
namespace G8
open PySem L2
/-! dicts: a slot's own, or locked -/
def keyD : Key → Dt
  | .inl i => .int i
  | .inr x => .str x
theorem rp_key {K : Fg} {G : Hp} (k : Key) : Rp K G (kV k) (keyD k) := by
  cases k with
  | inl i => exact .int i
  | inr x => exact .str x
def dkey : Dt → Option Key
  | .int i => some (.inl i)
  | .str x => some (.inr x)
  | _ => none
theorem dkey_of {x : Dt} {k : Key} (h : dkey x = some k) : x = keyD k := by
  cases x <;> first | (cases h; rfl) | cases h
theorem rp_kV {K : Fg} {G : Hp} {v : V} {k : Key} (h : Rp K G v (keyD k)) : v = kV k := by
  cases k with
  | inl i => cases h; rfl
  | inr x => cases h; rfl
/-- the dict in a slot -/
def slotK : Option (Option Sv) → Option (List (Key × Dt))
  | some (some (.dk _ kvs)) => some kvs
  | some (some (.fk kvs)) => some kvs
  | _ => none
theorem slot_rd {b : Bs} {c : Fc} {G H : Hp} {ρ : Ev} {σ : St} {i : Nat} {kvs : List (Key × Dt)} {v : V} (S : SIG b c G ρ σ H) (h : σ[i]? = some (some v)) (e : slotK ρ[i]? = some kvs) : ∃ p vs, v = .ref p ∧ Rd H p (.dK vs) ∧ RpK b.K G vs kvs := by
  unfold slotK at e
  split at e
  · rename_i r ks q
    cases e
    obtain ⟨u, hu, p, vs, e1, e2, e3, e4⟩ := S.sl i _ q
    rw [h] at hu
    cases hu
    exact ⟨p, vs, e1, .inl e2, e4⟩
  · rename_i ks q
    cases e
    obtain ⟨u, hu, p, od, vs, e1, e2, e3⟩ := S.sl i _ q
    rw [h] at hu
    cases hu
    exact ⟨p, vs, e1, .inr ⟨od, S.gh _ _ e2⟩, e3⟩
  · cases e
theorem ro_key {K : Fg} {G H : Hp} {v : V} {x : Dt} {k : Key} (h : RO K G H v x) (e : dkey x = some k) : v = kV k := by
  have := dkey_of e
  subst this
  cases k with
  | inl i => exact RO.int h
  | inr s => exact RO.str h
def kGet (kvs : List (Key × Dt)) (k : Key) : Option Dt := (kvs.find? fun kv => decide (kv.1 = k)).map (·.2)
def kPut (kvs : List (Key × Dt)) (k : Key) (d : Dt) : List (Key × Dt) := if (kvs.any fun kv => decide (kv.1 = k)) = true then kvs.map (fun kv => if kv.1 = k then (kv.1, d) else kv) else kvs ++ [(k, d)]
def kDrop (kvs : List (Key × Dt)) (k : Key) : List (Key × Dt) := kvs.filter fun kv => decide (kv.1 ≠ k)
section
variable {K : Fg} {G : Hp} {vs : List (Key × V)} {kvs : List (Key × Dt)} {k : Key}
theorem rk_get (h : RpK K G vs kvs) (k : Key) : (valV vs k = none ∧ kGet kvs k = none) ∨ ∃ v d, valV vs k = some v ∧ kGet kvs k = some d ∧ Rp K G v d := by
  unfold RpK at h
  induction h with
  | nil => exact .inl ⟨rfl, rfl⟩
  | @cons p q ps qs r t ih =>
    by_cases e : p.1 = k
    · have e2 : q.1 = k := by rw [← r.1]; exact e
      exact .inr ⟨p.2, q.2, valV_pos e, by simp [kGet, e2], r.2⟩
    · have e2 : ¬ q.1 = k := by rw [← r.1]; exact e
      rw [valV_neg e, show kGet (q :: qs) k = kGet qs k by simp [kGet, e2]]
      exact ih
theorem rk_any (h : RpK K G vs kvs) (k : Key) : (vs.any fun kv => decide (kv.1 = k)) = (kvs.any fun kv => decide (kv.1 = k)) := by
  unfold RpK at h
  induction h with
  | nil => rfl
  | @cons p q ps qs r t ih => rw [List.any_cons, List.any_cons, ih, r.1]
theorem rk_append {vs2 : List (Key × V)} {kvs2 : List (Key × Dt)} (h : RpK K G vs kvs) (h2 : RpK K G vs2 kvs2) : RpK K G (vs ++ vs2) (kvs ++ kvs2) := by
  unfold RpK at *
  induction h with
  | nil => exact h2
  | @cons p q ps qs r t ih => exact .cons r ih
theorem rk_map (h : RpK K G vs kvs) (k : Key) {v : V} {d : Dt} (r : Rp K G v d) : RpK K G (vs.map fun kv => if kv.1 = k then (kv.1, v) else kv) (kvs.map fun kv => if kv.1 = k then (kv.1, d) else kv) := by
  unfold RpK at *
  induction h with
  | nil => exact .nil
  | @cons p q ps qs rr t ih =>
    refine .cons ?_ ih
    by_cases e : p.1 = k
    · have e2 : q.1 = k := by rw [← rr.1]; exact e
      dsimp only
      rw [if_pos e, if_pos e2]
      exact ⟨rr.1, r⟩
    · have e2 : ¬ q.1 = k := by rw [← rr.1]; exact e
      dsimp only
      rw [if_neg e, if_neg e2]
      exact rr
theorem rk_put (h : RpK K G vs kvs) (k : Key) {v : V} {d : Dt} (r : Rp K G v d) : RpK K G (L2.putK vs k v) (kPut kvs k d) := by
  unfold L2.putK kPut
  rw [rk_any h k]
  split
  · exact rk_map h k r
  · exact rk_append h (.cons ⟨rfl, r⟩ .nil)
theorem rk_drop (h : RpK K G vs kvs) (k : Key) : RpK K G (dropK vs k) (kDrop kvs k) := by
  unfold RpK at *
  induction h with
  | nil => exact .nil
  | @cons p q ps qs rr t ih =>
    unfold dropK kDrop at *
    by_cases e : p.1 = k
    · have e2 : q.1 = k := by rw [← rr.1]; exact e
      rw [List.filter_cons_of_neg (by simp [e]), List.filter_cons_of_neg (by simp [e2])]
      exact ih
    · have e2 : ¬ q.1 = k := by rw [← rr.1]; exact e
      rw [List.filter_cons_of_pos (by simp [e]), List.filter_cons_of_pos (by simp [e2])]
      exact .cons rr ih
theorem rk_len (h : RpK K G vs kvs) : vs.length = kvs.length := Paired.length h
theorem rk_keys (h : RpK K G vs kvs) : vs.map (·.1) = kvs.map (·.1) := by
  unfold RpK at h
  induction h with
  | nil => rfl
  | @cons p q ps qs rr t ih => rw [List.map_cons, List.map_cons, ih, rr.1]
end
def inK (n : Bool) (i : Nat) (fa : M Av) : M Av := bindM fa fun a => optM fun ρ => (slotK ρ[i]?).bind fun kvs => ((res ρ a).bind dkey).map fun k => .d (.bool (if n then !(kGet kvs k).isSome else (kGet kvs k).isSome))
def getK (i : Nat) (fb : M Av) : M Av := bindM (varM i) fun _ => bindM fb fun a => optM fun ρ => (slotK ρ[i]?).bind fun kvs => ((res ρ a).bind dkey).bind fun k => (kGet kvs k).map Av.d
section
variable {X : Cx} {b : Bs} {W : WX} {a : Expr} {fa : M Av} {x : Str} {pn pos : Pos}
theorem get_core {c : Fc} {G H : Hp} {ρ : Ev} {σ : St} {i : Nat} {z : Av} {v u : V} {kvs : List (Key × Dt)} {k : Key} (S : SIG b c G ρ σ H) (hz : RA b.K G σ v z) (hi : σ[i]? = some (some u)) (e1 : slotK ρ[i]? = some kvs) (e2 : (res ρ z).bind dkey = some k) :
    ∃ p o, u = .ref p ∧ DGet H p v o ∧ o.isSome = (kGet kvs k).isSome ∧ ∀ d, kGet kvs k = some d → ∃ w, o = some w ∧ Rp b.K G w d := by
  obtain ⟨p, vs, rfl, rd, rk⟩ := slot_rd S hi e1
  cases hr : res ρ z with
  | none => rw [hr] at e2; cases e2
  | some y =>
    rw [hr] at e2
    have hv : v = kV k := ro_key (hz.res S hr) e2
    subst hv
    refine ⟨p, valV vs k, rfl, .inl ⟨vs, k, rd, rfl, rfl⟩, ?_, fun d hd => ?_⟩
    · rcases rk_get rk k with ⟨q1, q2⟩ | ⟨w, d, q1, q2, _⟩ <;> rw [q1, q2] <;> rfl
    · rcases rk_get rk k with ⟨q1, q2⟩ | ⟨w, d', q1, q2, q3⟩
      · rw [q2] at hd; cases hd
      · rw [q2] at hd
        cases hd
        exact ⟨w, q1, q3⟩
theorem var_at {c : Fc} {G H : Hp} {ρ : Ev} {σ : St} {i : Nat} {kvs : List (Key × Dt)} (S : SIG b c G ρ σ H) (e : slotK ρ[i]? = some kvs) : ∃ u, σ[i]? = some (some u) := by
  unfold slotK at e
  split at e
  · rename_i r ks q
    obtain ⟨u, hu, _⟩ := S.sl i _ q
    exact ⟨u, hu⟩
  · rename_i ks q
    obtain ⟨u, hu, _⟩ := S.sl i _ q
    exact ⟨u, hu⟩
  · cases e
theorem m_inK (hu : X.A.units + 1 < cLine) (i : Nat) (ha : PE X a (tE b W fa)) (hv : PE X (.Name x pn) (tVar i)) : PE X (.Compare a [.In] [.Name x pn] pos) (tE b W (inK false i fa)) := weakE (pe_cmp (pc_din hu ha hv)) fun σ H Q ⟨c, G, ρ, S, q⟩ => ⟨c, G, ρ, S, (Post.bind q).imp fun z ρ1 G1 H1 e1 S1 q1 v hv => by
  obtain ⟨k, h1, h2⟩ := q1.opt S1
  cases e1 : slotK ρ1[i]? with
  | none => rw [e1] at h1; cases h1
  | some kvs =>
    cases e2 : (res ρ1 z).bind dkey with
    | none => rw [e1, e2] at h1; cases h1
    | some kk =>
      rw [e1, e2] at h1
      cases h1
      obtain ⟨u, hu⟩ := var_at S1 e1
      obtain ⟨p, o, rfl, g, is, _⟩ := get_core S1 hv hu e1 e2
      refine ⟨.ref p, hu, p, o, rfl, g, ?_⟩
      rw [is]
      exact h2 _ (.bl _)⟩
theorem m_ninK (hu : X.A.units + 1 < cLine) (i : Nat) (ha : PE X a (tE b W fa)) (hv : PE X (.Name x pn) (tVar i)) : PE X (.Compare a [.NotIn] [.Name x pn] pos) (tE b W (inK true i fa)) := weakE (pe_cmp (pc_dnotin hu ha hv)) fun σ H Q ⟨c, G, ρ, S, q⟩ => ⟨c, G, ρ, S, (Post.bind q).imp fun z ρ1 G1 H1 e1 S1 q1 v hv => by
  obtain ⟨k, h1, h2⟩ := q1.opt S1
  cases e1 : slotK ρ1[i]? with
  | none => rw [e1] at h1; cases h1
  | some kvs =>
    cases e2 : (res ρ1 z).bind dkey with
    | none => rw [e1, e2] at h1; cases h1
    | some kk =>
      rw [e1, e2] at h1
      cases h1
      obtain ⟨u, hu⟩ := var_at S1 e1
      obtain ⟨p, o, rfl, g, is, _⟩ := get_core S1 hv hu e1 e2
      refine ⟨.ref p, hu, p, o, rfl, g, ?_⟩
      rw [is]
      exact h2 _ (.bl _)⟩
theorem m_getK (hu : X.A.units + 1 < cLine) (hs : NoSl a) (i : Nat) (hv : PE X (.Name x pn) (tVar i)) (ha : PE X a (tE b W fa)) : PE X (.Subscript (.Name x pn) a pos) (tE b W (getK i fa)) := weakE (pe_dget hu hv ha hs) fun σ H Q ⟨c, G, ρ, S, q⟩ => by
  have q' := Post.bind q
  unfold varM at q'
  split at q'
  · rename_i sv hs
    obtain ⟨v0, hv0, _⟩ := S.sl i sv hs
    have q2 := q' H G (Same.refl G) S
    refine ⟨v0, hv0, c, G, ρ, S, (Post.bind q2).imp fun z ρ1 G1 H1 e1 S1 q1 v hv => ?_⟩
    obtain ⟨k, h1, h2⟩ := q1.opt S1
    cases e1 : slotK ρ1[i]? with
    | none => rw [e1] at h1; cases h1
    | some kvs =>
      cases e2 : (res ρ1 z).bind dkey with
      | none => rw [e1, e2] at h1; cases h1
      | some kk =>
        cases e3 : kGet kvs kk with
        | none => rw [e1, e2] at h1; simp [e3] at h1
        | some d =>
          rw [e1, e2] at h1
          simp [e3] at h1
          subst h1
          obtain ⟨p, o, rfl, g, is, gt⟩ := get_core S1 hv hv0 e1 e2
          obtain ⟨w, rfl, rw'⟩ := gt d e3
          exact ⟨p, w, rfl, g, h2 w rw'⟩
  · exact q'.elim
/-! a new dict, stores, pops -/
theorem m_newK : PE X (.Dict [] [] pos) (tV b W (retM (.k []))) := weakE pe_dnewK fun σ H Q ⟨c, G, ρ, S, q⟩ p hp =>
  q (upd H p (.dK [])) G (Same.refl G) (S.alloc hp) (.ref p) ⟨p, [], rfl, upd_same, S.gh.free hp, .nil, S.fresh0 hp⟩ fun p' e _ => by cases e; exact S.noOwn hp
def putKM (i : Nat) (fe fk : M Av) : M Fl := bindM fe fun a => bindM (varM i) fun _ => bindM fk fun k ρ => match ρ[i]?, fzv ρ a, (res ρ k).bind dkey with
  | some (some (.dk r kvs)), some d, some kk => if kvs.length < 1000000 then .ok .nx (ρ.set i (some (.dk r (kPut kvs kk d)))) else .bad
  | _, _, _ => .bad
theorem s_putK {e k : Expr} {fe fk : M Av} {tp : Pos} (hu : X.A.units + 1 < cLine) (i : Nat) (hv : PE X (.Name x pn) (tVar i)) (he : PE X e (tE b W fe)) (hk : PE X k (tE b W fk)) (hs : swapsWith e (some (.Subscript (.Name x pn) k tp)) pos.line X.env = pure false := by rfl) :
    PS X (.Assign [.Subscript (.Name x pn) k tp] e pos) (tS b W (putKM i fe fk)) := weakS (ps_dput hu hv hk he hs) fun D σ H ⟨c, G, ρ, hb, S, q⟩ =>
  ⟨c, G, ρ, S, (PostS.bind σ q).imp fun a ρ1 G1 H1 e1 S1 q1 v hv => by
    have q1' := PostS.bind σ q1
    unfold varM at q1'
    split at q1'
    · rename_i sv hs0
      obtain ⟨w, hw, _⟩ := S1.sl i sv hs0
      have q1'' := q1' H1 G1 (Same.refl G1) S1
      refine ⟨w, hw, c, G1, ρ1, S1, (PostS.bind σ q1'').imp fun kk ρ2 G2 H2 e2 S2 q2 u hu => ?_⟩
      split at q2
      · rename_i r kvs d key hsl hf hkk
        split at q2
        · rename_i hlen
          obtain ⟨v', hv', p', vs', e', b2, b3, b4⟩ := S2.sl i _ hsl
          rw [hw] at hv'
          cases hv'
          subst e'
          cases hr : res ρ2 kk with
          | none => rw [hr] at hkk; cases hkk
          | some y =>
            rw [hr] at hkk
            have hy : u = kV key := ro_key (hu.res S2 hr) hkk
            subst hy
            have S3 := S2.mut (o := .dK (L2.putK vs' key v)) (sv' := .dk r (kPut kvs key d)) hsl rfl hw rfl rfl ⟨p', _, rfl, upd_same, b3, rk_put b4 key ((hv.mono e2).fz S2 hf)⟩
            exact ⟨p', _, rfl, .inl ⟨vs', key, b2, rfl, by rw [rk_len b4, sizeLine_eq]; omega, rfl⟩, q2 σ _ G2 (Same.refl G2) S3⟩
        · exact q2.elim
      · exact q2.elim
    · exact q1'.elim⟩
def popKM (i : Nat) (fe : M Av) : M Rv := bindM (optM fun ρ => slotK ρ[i]?) fun _ => bindM fe fun a ρ => match ρ[i]?, (res ρ a).bind dkey with
  | some (some (.dk r kvs)), some k => (match kGet kvs k with
    | some d => .ok (.d d) (ρ.set i (some (.dk r (kDrop kvs k))))
    | none => .bad)
  | _, _ => .bad
theorem m_popK {e : Expr} {fe : M Av} {apos cpos : Pos} (i : Nat) (hv : PE X (.Name x pn) (tVar i)) (he : PE X e (tE b W fe)) (m : M1 X (.Name x pn) "pop" apos e cpos) : PE X (.Call (.Attribute (.Name x pn) "pop" apos) [e] [] cpos) (tV b W (popKM i fe)) := weakE (pe_dpop1 hv he m) fun σ H Q ⟨c, G, ρ, S, q⟩ => by
  obtain ⟨kvs0, h1, h2⟩ := (Post.bind q).opt S
  obtain ⟨w, hw⟩ := var_at S h1
  obtain ⟨p, vs, rfl, rd, rk⟩ := slot_rd S hw h1
  refine ⟨.ref p, hw, p, rfl, .inl ⟨vs, rd⟩, c, G, ρ, S, (Post.bind h2).imp fun kk ρ2 G2 H2 e2 S2 q2 u hu => ?_⟩
  split at q2
  · rename_i r kvs key hsl hkk
    split at q2
    · rename_i d hd
      obtain ⟨v', hv', p', vs', e', b2, b3, b4⟩ := S2.sl i _ hsl
      rw [hw] at hv'
      cases hv'
      cases e'
      cases hr : res ρ2 kk with
      | none => rw [hr] at hkk; cases hkk
      | some y =>
        rw [hr] at hkk
        have hy : u = kV key := ro_key (hu.res S2 hr) hkk
        subst hy
        rcases rk_get b4 key with ⟨z1, z2⟩ | ⟨v, d', z1, z2, z3⟩
        · rw [hd] at z2; cases z2
        · rw [hd] at z2
          cases z2
          have S3 := S2.mut (o := .dK (dropK vs' key)) (sv' := .dk r (kDrop kvs key)) hsl rfl hw rfl rfl ⟨p, _, rfl, upd_same, b3, rk_drop b4 key⟩
          exact ⟨vs', key, v, b2, rfl, z1, q2 _ G2 (Same.refl G2) S3 v z3 fun _ _ z => by cases z⟩
    · exact q2.elim
  · exact q2.elim
def keysM (i : Nat) : M (List Dt) := optM fun ρ => match ρ[i]? with
  | some (some (.fk kvs)) => some (kvs.map fun kv => keyD kv.1)
  | _ => none
theorem yl_keys {K : Fg} {G : Hp} {d : Addr} {o : Obj} {vs : List (Key × V)} {kvs : List (Key × Dt)} (h : G d = some (.frz o (.dK vs))) (r : RpK K G vs kvs) : Yl K G (Itk d o vs) (kvs.map fun kv => keyD kv.1) := by
  have hk := rk_keys r
  have hl := rk_len r
  refine ⟨fun i H e hi => ⟨e _ _ h, by simp at hi; omega⟩, fun i H x H' e hi hy => ?_, fun H e => ⟨e _ _ h, by simp; omega⟩⟩
  obtain ⟨rfl, k, v, e1, rfl⟩ := hy
  refine ⟨rfl, keyD k, ?_, rp_key k⟩
  have : (vs.map (·.1))[i]? = some k := by rw [List.getElem?_map, e1]; rfl
  rw [hk, List.getElem?_map] at this
  rw [List.getElem?_map]
  cases q : kvs[i]? with
  | none => rw [q] at this; cases this
  | some kv =>
    rw [q] at this
    have this : kv.1 = k := Option.some.inj this
    rw [Option.map_some, this]
theorem i_keys {tg : Expr} {apos cpos : Pos} (hK : X.K = b.K) (i : Nat) (hv : PE X (.Name x pn) (tVar i)) (hbase : attributeBase (.Name x pn) "keys" X.env (eval (.Name x pn) X.env) = eval (.Name x pn) X.env := by rfl) (hline : (apos.endLine == cpos.line) = true := by rfl) :
    PI X tg (.Call (.Attribute (.Name x pn) "keys" apos) [] [] cpos) (tI b W (keysM i)) := weakI (pi_keysM hv hbase hline) fun σ H R ⟨c, G, ρ, S, q⟩ => by
  obtain ⟨ds, h1, h2⟩ := q.opt S
  split at h1
  · rename_i kvs hs
    cases h1
    obtain ⟨u, hu, p, od, vs, e1, e2, e3⟩ := S.sl i _ hs
    subst e1
    exact ⟨.ref p, hu, p, od, vs, rfl, S.gh _ _ e2, h2 _ (yl_keys e2 e3)⟩
  · cases h1
/-! a dict is locked while a statement runs -/
def isFk : Option Sv → Bool
  | some (.fk _) => true
  | _ => false
def noFk (ρ : Ev) (i : Nat) : Bool := (List.range ρ.length).all fun j => decide (j = i) || !isFk (ρ.getD j none)
def lockE (i : Nat) (f : M Rv) : M Rv := fun ρ => match ρ[i]? with
  | some (some (.dk false kvs)) => (match f (ρ.set i (some (.fk kvs))) with
    | .ok r ρ' => (match ρ'[i]? with
      | some (some (.fk kvs')) => if noFk ρ' i then .ok r (ρ'.set i (some (.dk false kvs'))) else .bad
      | _ => .bad)
    | _ => .bad)
  | _ => .bad
/-- the ground without the locked thing -/
def offG (G : Hp) (p : Addr) : Hp := fun a => if a = p then none else G a
theorem offG_ne {G : Hp} {p a : Addr} (h : a ≠ p) : offG G p a = G a := by unfold offG; rw [if_neg h]
theorem offG_eq {G : Hp} {p : Addr} : offG G p p = none := by unfold offG; rw [if_pos rfl]
section
variable {K : Fg} {G : Hp} {p : Addr} {od : Obj} {vs : List (Key × V)} (hp : G p = some (.frz od (.dK vs)))
include hp
theorem sqT_off {a : Addr} {xs : List V} (h : SqT K G a xs) : SqT K (offG G p) a xs := by
  rcases h with (h | ⟨o, h⟩) | h
  · refine .inl (.inl ?_)
    rw [offG_ne (fun z => by subst z; rw [hp] at h; cases h)]
    exact h
  · refine .inl (.inr ⟨o, ?_⟩)
    rw [offG_ne (fun z => by subst z; rw [hp] at h; cases h)]
    exact h
  · exact .inr h
mutual
theorem Rp.off : ∀ (d : Dt) (v : V), Rp K G v d → Rp K (offG G p) v d
  | .none, _, h => by cases h; exact .non
  | .bool b, _, h => by cases h; exact .bl b
  | .int i, _, h => by cases h; exact .int i
  | .str x, _, h => by cases h; exact .str x
  | .list ds, _, h => by
    cases h with
    | @lst a xs _ h1 h2 =>
      refine .lst ?_ (Rps.off ds _ h2)
      rw [offG_ne (fun z => by subst z; rw [hp] at h1; cases h1)]
      exact h1
  | .tuple ds, _, h => by
    cases h with
    | tup h1 h2 => exact .tup (sqT_off hp h1) (Rps.off ds _ h2)
  | .dict _, _, h => by cases h
theorem Rps.off : ∀ (ds : List Dt) (vs : List V), Rps K G vs ds → Rps K (offG G p) vs ds
  | [], _, h => by cases h; exact .nil
  | d :: ds, _, h => by
    cases h with
    | cons h1 h2 => exact .cons (Rp.off d _ h1) (Rps.off ds _ h2)
end
theorem RpK.off {ws : List (Key × V)} {kvs : List (Key × Dt)} (h : RpK K G ws kvs) : RpK K (offG G p) ws kvs := Paired.mapP h fun _ _ z => ⟨z.1, Rp.off hp _ _ z.2⟩
end
theorem SIG.lock {c : Fc} {G H : Hp} {ρ : Ev} {σ : St} {i : Nat} {kvs : List (Key × Dt)} (S : SIG b c G ρ σ H) (hb : c.Fn) (e : ρ[i]? = some (some (.dk false kvs))) :
    ∃ p vs, σ[i]? = some (some (.ref p)) ∧ H p = some (.dK vs) ∧ G p = none ∧ c.H0 p = none ∧ RpK b.K G vs kvs ∧ ∀ od, Same G (upd G p (.frz od (.dK vs))) ∧ SIG b c (upd G p (.frz od (.dK vs))) (ρ.set i (some (.fk kvs))) σ (upd H p (.frz od (.dK vs))) := by
  obtain ⟨v, hv, p, vs, rfl, hp, gp, rk⟩ := S.sl i _ e
  have op : Open c ρ i := fun s q => by rw [e] at q; cases q; exact .inr ⟨hb, rfl⟩
  have h0 : c.H0 p = none := by
    rcases S.nw i _ p e rfl hv with z | ⟨f, z⟩
    · exact z
    · exact absurd z (S.noRef op p f)
  refine ⟨p, vs, hv, hp, gp, h0, rk, fun od => ?_⟩
  have s1 : Same G (upd G p (.frz od (.dK vs))) := fun a u q => by rw [upd_ne (ne_of_none q gp)]; exact q
  have hil : i < ρ.length := (List.getElem?_eq_some_iff.mp e).1
  have get : ∀ {j s}, (ρ.set i (some (.fk kvs)))[j]? = some (some s) → (j = i ∧ s = .fk kvs) ∨ (i ≠ j ∧ ρ[j]? = some (some s)) := fun {j s} q => by
    by_cases hj : i = j
    · subst hj
      rw [getElem?_set_eq', if_pos rfl, if_pos hil] at q
      cases q
      exact .inl ⟨rfl, rfl⟩
    · rw [List.getElem?_set_ne hj] at q
      exact .inr ⟨hj, q⟩
  refine ⟨s1, by rw [List.length_set]; exact S.len, S.g0.trans s1, fun a u q => ?_, fun a u q n => ?_, fun a u q => ?_, fun j s q => ?_, fun j k sj sk a q1 q2 o1 o2 a1 a2 => ?_, fun j s a q o1 a1 => ?_, fun j a f hj => ?_⟩
  · by_cases ha : a = p
    · subst ha
      rw [upd_same] at q ⊢
      exact q
    · rw [upd_ne ha] at q ⊢
      exact S.gh a u q
  · have ha : a ≠ p := fun z => by subst z; rw [h0] at q; cases q
    rw [upd_ne ha]
    exact S.fr a u q n
  · by_cases ha : a = p
    · subst ha
      exact .inr h0
    · rw [upd_ne ha] at q
      exact S.gn a u q
  · rcases get q with ⟨rfl, rfl⟩ | ⟨hj, q⟩
    · exact ⟨.ref p, hv, p, od, vs, rfl, upd_same, rk.mono s1⟩
    · obtain ⟨w, hw, z⟩ := S.sl j s q
      refine ⟨w, hw, z.keep s1 fun a u oo ev ha => ?_⟩
      have hne : a ≠ p := fun y => hj (S.sp i j _ s p e q rfl oo hv (by rw [hw, ev, y]))
      obtain ⟨q', _, e', _, g'⟩ := z.at oo
      rw [ev] at e'
      cases e'
      exact ⟨by rw [upd_ne hne]; exact ha, by rw [upd_ne hne]; exact g'⟩
  · rcases get q1 with ⟨_, w1⟩ | ⟨_, y1⟩
    · rw [w1] at o1; cases o1
    · rcases get q2 with ⟨_, w2⟩ | ⟨_, y2⟩
      · rw [w2] at o2; cases o2
      · exact S.sp j k sj sk a y1 y2 o1 o2 a1 a2
  · rcases get q with ⟨_, w1⟩ | ⟨_, y1⟩
    · rw [w1] at o1; cases o1
    · exact S.nw j s a y1 o1 a1
  · obtain ⟨h1, s, h2, h3⟩ := S.rf j a f hj
    have hne : i ≠ j := fun z => by subst z; exact S.noRef op a f hj
    exact ⟨h1, s, by rw [List.getElem?_set_ne hne]; exact h2, h3⟩
theorem SIG.unlock {c : Fc} {G H : Hp} {ρ : Ev} {σ : St} {i : Nat} {p : Addr} {od : Obj} {vs : List (Key × V)} {kvs : List (Key × Dt)} {G0 : Hp} (S : SIG b c G ρ σ H) (hG : G p = some (.frz od (.dK vs))) (h0 : c.H0 p = none) (hs : σ[i]? = some (some (.ref p))) (e : ρ[i]? = some (some (.fk kvs)))
    (hf : ∀ j, j < ρ.length → j ≠ i → isFk (ρ.getD j none) = false) (s0 : Same G0 G) (g0 : G0 p = none) (c0 : Same c.G0 G0) (rk : RpK b.K G vs kvs) : Same G0 (offG G p) ∧ SIG b c (offG G p) (ρ.set i (some (.dk false kvs))) σ (upd H p (.dK vs)) := by
  have hil : i < ρ.length := (List.getElem?_eq_some_iff.mp e).1
  have hH : H p = some (.frz od (.dK vs)) := S.gh _ _ hG
  have s1 : Same G0 (offG G p) := fun a u q => by
    rw [offG_ne (fun z => by subst z; rw [g0] at q; cases q)]
    exact s0 a u q
  have get : ∀ {j s}, (ρ.set i (some (.dk false kvs)))[j]? = some (some s) → (j = i ∧ s = .dk false kvs) ∨ (i ≠ j ∧ ρ[j]? = some (some s)) := fun {j s} q => by
    by_cases hj : i = j
    · subst hj
      rw [getElem?_set_eq', if_pos rfl, if_pos hil] at q
      cases q
      exact .inl ⟨rfl, rfl⟩
    · rw [List.getElem?_set_ne hj] at q
      exact .inr ⟨hj, q⟩
  have own_ne : ∀ {j : Nat} {s : Sv}, ρ[j]? = some (some s) → s.own = true → σ[j]? ≠ some (some (V.ref p)) := fun {j s} q o1 z => by
    obtain ⟨w, hw, r⟩ := S.sl j s q
    obtain ⟨q', _, e', h', g'⟩ := r.at o1
    rw [hw, e'] at z
    cases z
    rw [hG] at g'
    cases g'
  refine ⟨s1, by rw [List.length_set]; exact S.len, c0.trans s1, fun a u q => ?_, fun a u q n => ?_, fun a u q => ?_, fun j s q => ?_, fun j k sj sk a q1 q2 o1 o2 a1 a2 => ?_, fun j s a q o1 a1 => ?_, fun j a f hj => ?_⟩
  · have ha : a ≠ p := fun z => by subst z; rw [offG_eq] at q; cases q
    rw [offG_ne ha] at q
    rw [upd_ne ha]
    exact S.gh a u q
  · have ha : a ≠ p := fun z => by subst z; rw [h0] at q; cases q
    rw [upd_ne ha]
    exact S.fr a u q n
  · have ha : a ≠ p := fun z => by subst z; rw [offG_eq] at q; cases q
    rw [offG_ne ha] at q
    exact S.gn a u q
  · rcases get q with ⟨rfl, rfl⟩ | ⟨hj, q⟩
    · exact ⟨.ref p, hs, p, vs, rfl, upd_same, offG_eq, rk.off hG⟩
    · obtain ⟨w, hw, z⟩ := S.sl j s q
      refine ⟨w, hw, ?_⟩
      cases s with
      | d x => exact Rp.off hG _ _ z
      | ls r xs =>
        obtain ⟨a, ws, q1, h1, h2, h3⟩ := z
        have ha : a ≠ p := fun y => by subst y; rw [hG] at h2; cases h2
        exact ⟨a, ws, q1, by rw [upd_ne ha]; exact h1, by rw [offG_ne ha]; exact h2, Rps.off hG _ _ h3⟩
      | dk r xs =>
        obtain ⟨a, ws, q1, h1, h2, h3⟩ := z
        have ha : a ≠ p := fun y => by subst y; rw [hG] at h2; cases h2
        exact ⟨a, ws, q1, by rw [upd_ne ha]; exact h1, by rw [offG_ne ha]; exact h2, h3.off hG⟩
      | dt r xs =>
        obtain ⟨a, ws, q1, h1, h2, h3⟩ := z
        have ha : a ≠ p := fun y => by subst y; rw [hG] at h2; cases h2
        exact ⟨a, ws, q1, by rw [upd_ne ha]; exact h1, by rw [offG_ne ha]; exact h2, Paired.mapP h3 fun _ _ z => ⟨z.1, Rp.off hG _ _ z.2⟩⟩
      | ex k =>
        obtain ⟨a, q1, h1⟩ := z
        have ha : a ≠ p := fun y => by subst y; rw [hG] at h1; cases h1
        exact ⟨a, q1, by rw [offG_ne ha]; exact h1⟩
      | scr ns =>
        obtain ⟨a, q1, h1⟩ := z
        refine ⟨a, q1, ?_⟩
        rcases h1 with (h | ⟨o, h⟩) | h
        · refine .inl (.inl ?_)
          rw [offG_ne (fun y => by subst y; rw [hG] at h; cases h)]
          exact h
        · refine .inl (.inr ⟨o, ?_⟩)
          rw [offG_ne (fun y => by subst y; rw [hG] at h; cases h)]
          exact h
        · exact .inr h
      | fk ks =>
        have hj2 : j < ρ.length := (List.getElem?_eq_some_iff.mp q).1
        have := hf j hj2 (fun y => hj y.symm)
        rw [List.getD_eq_getElem?_getD, q] at this
        cases this
  · rcases get q1 with ⟨z1, w1⟩ | ⟨hj, y1⟩
    · rcases get q2 with ⟨z2, w2⟩ | ⟨hk, y2⟩
      · rw [z1, z2]
      · subst z1
        rw [hs] at a1
        cases a1
        exact absurd a2 (own_ne y2 o2)
    · rcases get q2 with ⟨z2, w2⟩ | ⟨hk, y2⟩
      · subst z2
        rw [hs] at a2
        cases a2
        exact absurd a1 (own_ne y1 o1)
      · exact S.sp j k sj sk a y1 y2 o1 o2 a1 a2
  · rcases get q with ⟨z1, w1⟩ | ⟨hj, y1⟩
    · subst z1
      rw [hs] at a1
      cases a1
      exact .inl h0
    · exact S.nw j s a y1 o1 a1
  · obtain ⟨h1, s, h2, h3, h4⟩ := S.rf j a f hj
    by_cases z : i = j
    · subst z
      rw [e] at h2
      cases h2
      cases h3
    · exact ⟨h1, s, by rw [List.getElem?_set_ne z]; exact h2, h3, h4⟩
theorem RN.off {c : Fc} {G H : Hp} {p : Addr} {od : Obj} {vs : List (Key × V)} {v : V} {r : Rv} (hG : G p = some (.frz od (.dK vs))) (h : RN b c G H v r) : RN b c (offG G p) (upd H p (.dK vs)) v r := by
  cases r with
  | d x => exact Rp.off hG _ _ h
  | l xs =>
    obtain ⟨a, ws, e, h1, h2, h3, h4⟩ := h
    have ha : a ≠ p := fun y => by subst y; rw [hG] at h2; cases h2
    exact ⟨a, ws, e, by rw [upd_ne ha]; exact h1, by rw [offG_ne ha]; exact h2, Rps.off hG _ _ h3, h4⟩
  | k xs =>
    obtain ⟨a, ws, e, h1, h2, h3, h4⟩ := h
    have ha : a ≠ p := fun y => by subst y; rw [hG] at h2; cases h2
    exact ⟨a, ws, e, by rw [upd_ne ha]; exact h1, by rw [offG_ne ha]; exact h2, h3.off hG, h4⟩
  | t xs =>
    obtain ⟨a, ws, e, h1, h2, h3, h4⟩ := h
    have ha : a ≠ p := fun y => by subst y; rw [hG] at h2; cases h2
    exact ⟨a, ws, e, by rw [upd_ne ha]; exact h1, by rw [offG_ne ha]; exact h2, Paired.mapP h3 fun _ _ z => ⟨z.1, Rp.off hG _ _ z.2⟩, h4⟩
theorem s_setLk {f : M Rv} {e : Expr} {y : Str} {pos' : Pos} {j : Nat} (i : Nat) (hN : X.N.Nodup) (hi : X.N[j]? = some y) (hx : Loc X.env.scope y) (he : PE X e (tV b W f)) (hs : swapsWith e (some (.Name y pos')) pos.line X.env = pure false := by rfl)
    (hf : X.fn y = true ∨ X.env.scope.names.lookup y = some .local := by first | exact .inl rfl | exact .inr rfl | assumption) : PS X (.Assign [.Name y pos'] e pos) (tS b W (setM j (lockE i f))) :=
  weakS (ps_set hN hi hx (pe_lock he) hs hf) fun D σ H ⟨c, G, ρ, hb, S, q⟩ => by
    rw [setM_ap, bindM_ap] at q
    unfold lockE at q
    cases e0 : ρ[i]? with
    | none => rw [e0] at q; exact q.elim
    | some o =>
      rw [e0] at q
      cases o with
      | none => exact q.elim
      | some sv =>
        cases sv with
        | dk r0 kvs =>
          cases r0 with
          | true => exact q.elim
          | false =>
            obtain ⟨p, vs, hσ, hp, gp, h0, rk, lk⟩ := S.lock hb e0
            refine ⟨p, .dK vs, hp, trivial, fun od => ?_⟩
            obtain ⟨s1, S1⟩ := lk od
            refine ⟨c, _, _, S1, ?_⟩
            dsimp only at q
            cases ef : f (ρ.set i (some (.fk kvs))) with
            | bad => rw [ef] at q; exact q.elim
            | err k ρ' => rw [ef] at q; exact q.elim
            | ok r ρ' =>
              rw [ef] at q
              dsimp only at q
              intro H' G' e' S' v hv ap
              have hG : G' p = some (.frz od (.dK vs)) := e' _ _ upd_same
              refine ⟨S'.gh _ _ hG, ?_⟩
              cases e1 : ρ'[i]? with
              | none => rw [e1] at q; exact q.elim
              | some o1 =>
                rw [e1] at q
                cases o1 with
                | none => exact q.elim
                | some sv1 =>
                  cases sv1 with
                  | fk kvs' =>
                    dsimp only at q
                    cases en : noFk ρ' i with
                    | false => rw [en] at q; exact q.elim
                    | true =>
                      rw [en, if_pos rfl] at q
                      obtain ⟨w, hw, p', od', vs', ew, hg', rk'⟩ := S'.sl i _ e1
                      rw [hσ] at hw
                      cases hw
                      cases ew
                      rw [hG] at hg'
                      cases hg'
                      have hno : ∀ l, l < ρ'.length → l ≠ i → isFk (ρ'.getD l none) = false := fun l hl hne => by
                        unfold noFk at en
                        rw [List.all_eq_true] at en
                        have := en l (List.mem_range.mpr hl)
                        simpa [hne] using this
                      obtain ⟨s2, S2⟩ := S'.unlock hG h0 hσ e1 hno (s1.trans e') gp S.g0 rk'
                      have ap2 : Apart (ρ'.set i (some (.dk false kvs'))) σ v r := fun a ea hn l s hl ho => by
                        by_cases hli : i = l
                        · subst hli
                          rw [hσ]
                          intro z
                          cases z
                          subst ea
                          have hv2 := hv
                          cases r with
                          | d x => cases hn
                          | l xs => obtain ⟨a', _, e3, _, e4, _⟩ := hv2; cases e3; rw [hG] at e4; cases e4
                          | k xs => obtain ⟨a', _, e3, _, e4, _⟩ := hv2; cases e3; rw [hG] at e4; cases e4
                          | t xs => obtain ⟨a', _, e3, _, e4, _⟩ := hv2; cases e3; rw [hG] at e4; cases e4
                        · rw [List.getElem?_set_ne hli] at hl
                          exact ap a ea hn l s hl ho
                      dsimp only at q
                      rw [bindM_ap, putM_ap] at q
                      split at q
                      · rename_i u ρ3 hq
                        split at hq
                        · cases hq
                        · rename_i hr
                          cases hq
                          exact q _ _ _ s2 (set_rn S2 (hv.off hG) ap2 (refAt_of hb hr))
                      · rename_i k ρ3 hq
                        split at hq <;> cases hq
                      · exact q.elim
                  | _ => exact q.elim
        | _ => exact q.elim
end
end G8
namespace L2
open PySem PySem.Spec PyProof.Rows
/-! sorted(d.keys()) -/
def viewO (d v : Addr) : HO := .ext fun h => PySem.W.KdlKeysView h v d
def tKeysV (td : TE) : TE := fun σ H Q => td σ H fun x H1 => ∃ d kvs, x = .ref d ∧ Rd H1 d (.dK kvs) ∧ ∀ v, H1 v = none → Q (.ref v) (upd H1 v (viewO d v))
section
variable {X : Cx} {e : Expr} {td : TE} {apos cpos : Pos}
theorem pe_keysV (he : PE X e td) (hbase : attributeBase e "keys" X.env (eval e X.env) = eval e X.env := by rfl) (hline : (apos.endLine == cpos.line) = true := by rfl) : PE X (.Call (.Attribute e "keys" apos) [] [] cpos) (tKeysV td) := by
  refine ⟨fun pins s σ H R I h => ?_⟩
  refine wpAny_Call_method (T := "dict") (id := "dict.keys") hbase rfl hline F.plainAttrs_dict F.slot_dict_keys F.type_dict_keys (thn (he.run pins s σ H _ I h) fun u s1 ⟨x, H1, I1, rx, d, kvs, ex, hd, q⟩ => ?_)
  subst ex
  obtain rfl : u = Value.ref d := rx
  obtain ⟨z, hs, vs, rel, dd⟩ := dk_rd I1.hok hd
  refine ⟨dd.typeIs, dd.mapOf.noDict, ?_⟩
  have I2 : Inv X pins σ (upd H1 s1.heap.objs.size (viewO d s1.heap.objs.size)) { s1 with heap := s1.heap.push { cls := .type "dict_keys", data := .fields #[.ref d] } } :=
    I1.laid (a := s1.heap.objs.size) (o := viewO d s1.heap.objs.size) (t' := s1.toks) (fun _ _ q => Heap.get?_push_of_some _ q) (Nat.le_refl _) ⟨⟨_, Heap.get?_push_size _ rfl, rfl, rfl⟩, ⟨_, Heap.get?_push_size _ rfl⟩, fun h1 h2 ⟨o, e1, e2, e3⟩ k => ⟨o, k o e1, e2, e3⟩⟩
  show wpAny _ _ (callWith cpos (.builtin "dict.keys") [.ref d] [] []) _ X.xe s1
  exact method_meetsIn F.slot_dict_keys F.entry_dict_keys rfl (PySem.evalArgs_none ⟨rfl, dd.typeIs, F.args_dict_keys_1 _, _, PySem.W.kdl_meets_keys (mixKind X.prog X.w) d hs, ⟨vs, dd⟩, ⟨.ref s1.heap.objs.size, _, I2, rfl, q _ (I1.hok.fresh (Nat.le_refl _))⟩⟩)
/-- what is collected of int keys -/
theorem ints_of_keys {ps : List (Key × Value)} {ks : List Int} {acc : List Value} (hk : ps.map (·.1) = ks.map Sum.inl) (hl : acc.length = ks.length)
    (h : ∀ (n : Nat) (v : Value), acc[n]? = some v → ∃ (k : Key) (x : Value), ps[n]? = some (k, x) ∧ keyIs k v = true) : IntsAre acc ks := ints_each hl fun n v hv => by
  obtain ⟨k, x, h1, h2⟩ := h n v hv
  have h3 := congrArg (fun l => l[n]?) hk
  simp only [List.getElem?_map, h1, Option.map_some] at h3
  cases h4 : ks[n]? with
  | none => simp [h4] at h3
  | some y =>
    simp [h4] at h3
    subst h3
    rcases keyIs_shape h2 with ⟨i, t, a, b⟩ | ⟨z, t, a, b⟩ <;> cases a
    exact ⟨y, t, rfl, b⟩
def rSortV : List V → Hp → VK → Prop := fun xs H Q => ∃ (a w : Addr) (kvs : List (Key × V)) (ks : List Int), xs = [.ref w] ∧ H w = some (viewO a w) ∧ Rd H a (.dK kvs) ∧ kvs.map (·.1) = ks.map Sum.inl ∧ ks.length ≤ 1000 ∧
  ∀ (ys : List Int) (p : Addr), ys.Perm ks → ys.Pairwise (· ≤ ·) → H p = none → Q (.ref p) (upd H p (.lst (ys.map V.int)))
theorem cr_sortV (calm : X.calm = true) : CallR X (.builtin "sorted") rSortV := fun pins s σ H xs us Q I r q => by
  obtain ⟨a, w, kvs, ks, rfl, hw, hd, hks, hz, q⟩ := q
  rw [Vals.ref1 r]
  obtain ⟨_, lo, ps, rel, dd⟩ := dk_rd I.hok hd
  obtain ⟨ep, hat⟩ := dd.dictAt
  have hpk : ps.map (·.1) = ks.map Sum.inl := rel.keys.symm.trans hks
  have hpl : ps.length = ks.length := by simpa using congrArg List.length hpk
  have hsz : ps.length ≤ sizeLine := by rw [hpl, sizeLine_eq]; omega
  refine Calls.call_function_entry kind_sorted plain_sorted entry_sorted (args_sorted1 _) ?_
  show wpAny _ _ (Builtin.«sorted» _) _ _ _
  unfold Builtin.«sorted»
  refine wpAny_bind (m := checkCount "sorted" 1 1 _) (wpAny_pure (wpAny_bind ?_))
  refine PySem.W.kdu_collect (A := X.A.in1) (PySem.W.kdl_keys (knd := mixKind X.prog X.w) (r := w) (d := a) (kvs := ps) (ep := ep)) (I.ok.hd calm) ⟨(I.hok w _ hw).1, hat⟩ hsz fun hp tk acc keep got => ?_
  have al : acc.toList.length = ks.length := by rw [Array.length_toList, got.1, hpl]
  have iv : IntsAre acc.toList ks := ints_of_keys hpk al fun n v hv => got.2 n v (by rw [← Array.getElem?_toList]; exact hv)
  have I1 : Inv X pins σ H { s with heap := hp, toks := tk } := I.kept keep
  refine wpAny_bind (wpAny_newList ?_ (by rw [al, sizeLine_eq]; omega))
  have ho : (hp.push (seqObj "list" acc.toList.toArray 0)).get? hp.objs.size = some (seqObj "list" acc.toList.toArray 0) := Heap.get?_push_size _ rfl
  refine wpAny_bind (wpAny_holding (wpAny_call_entry slot_list_sort ⟨_, ho, rfl⟩ entry_list_sort (SrtO.list_sort_ord SrtO.swo_int ho (by rw [al, sizeLine_eq]; omega) (fun two => SrtO.ints_sortable iv two) fun out h1 h2 => ⟨_, rfl, ?_⟩) (args_list_sort _)))
  obtain ⟨k1, k2, k3⟩ := SrtO.ints_out iv h1 h2
  obtain ⟨n', at'⟩ := sortedHeap_at (vs := acc.toList) (out := out.toArray) ho
  have ol : ((out.map SrtO.iv).map V.int).length ≤ sizeLine := by rw [List.length_map, k2.length_eq, sizeLine_eq]; omega
  refine wpAny_pure ⟨_, rfl, .ref hp.objs.size, upd H hp.objs.size (.lst ((out.map SrtO.iv).map V.int)), I1.laid (t' := tk) (fun c u hc => ?_) (Nat.le_refl _) ⟨ol, out, n', vals_of_ints k1, at'⟩, rfl, q _ _ k2 k3 (I1.hok.fresh (Nat.le_refl _))⟩
  have lt := Heap.lt_size hc
  rw [sortedHeap_old (Nat.ne_of_lt lt) (by rw [size_push']; exact Nat.lt_succ_of_lt lt)]
  exact Heap.get?_push_of_some _ hc
end
end L2
namespace G8
open PySem L2
def ksOf : List (Key × Dt) → Option (List Int)
  | [] => some []
  | (.inl i, _) :: r => (ksOf r).map fun s => i :: s
  | _ => none
theorem ksOf_eq : ∀ {kvs : List (Key × Dt)} {ks : List Int}, ksOf kvs = some ks → kvs.map (·.1) = ks.map Sum.inl
  | [], ks, h => by cases h; rfl
  | (.inl i, d) :: r, ks, h => by
    rw [ksOf] at h
    cases e : ksOf r with
    | none => rw [e] at h; cases h
    | some s =>
      rw [e] at h
      cases h
      rw [List.map_cons, List.map_cons, ksOf_eq e]
  | (.inr x, d) :: r, ks, h => by cases h
def sortK (i : Nat) : M Rv := optM fun ρ => (slotK ρ[i]?).bind fun kvs => (ksOf kvs).bind fun ks => if ks.length ≤ 1000 then some (.l ((ks.mergeSort fun a b => decide (a ≤ b)).map PyData.int)) else none
theorem sorted_unique {a b : List Int} (hp : a.Perm b) (ha : a.Pairwise (· ≤ ·)) (hb : b.Pairwise (· ≤ ·)) : a = b := List.Perm.eq_of_pairwise (fun x y _ _ h1 h2 => Int.le_antisymm h1 h2) ha hb hp
theorem srt_sorted' (ks : List Int) : (ks.mergeSort fun a b => decide (a ≤ b)).Pairwise (· ≤ ·) := by
  have := List.pairwise_mergeSort (le := fun (a b : Int) => decide (a ≤ b)) (fun a b c h1 h2 => by simp at *; omega) (fun a b => by simp; omega) ks
  exact this.imp fun h => by simpa using h
theorem m_sortK {X : Cx} {b : Bs} {W : WX} {x : Str} {pn p apos cpos pos : Pos} (calm : X.calm = true) (i : Nat) (hv : PE X (.Name x pn) (tVar i)) (hg : Gl X "sorted") (hm : X.mg "sorted" = none)
    (hbase : attributeBase (.Name x pn) "keys" X.env (eval (.Name x pn) X.env) = eval (.Name x pn) X.env := by rfl) (hline : (apos.endLine == cpos.line) = true := by rfl)
    (hs : starEach [.Call (.Attribute (.Name x pn) "keys" apos) [] [] cpos] X.env = (false, eval (.Call (.Attribute (.Name x pn) "keys" apos) [] [] cpos) X.env) :: starEach [] X.env := by rfl) :
    PE X (.Call (.Name "sorted" p) [.Call (.Attribute (.Name x pn) "keys" apos) [] [] cpos] [] pos) (tV b W (sortK i)) :=
  weakE (pe_callB (cr_sortV calm) hg hm (by decide +kernel) (pa_cons (pe_keysV hv hbase hline) pa_nil) (by decide) (by decide) hs) fun σ H Q ⟨c, G, ρ, S, q⟩ => by
    obtain ⟨r, h1, _⟩ := q.opt S
    have q0 : sortK i ρ = .ok r ρ := by
      unfold sortK
      rw [optM_ap, h1]
    rw [q0] at q
    cases e1 : slotK ρ[i]? with
    | none => rw [e1] at h1; cases h1
    | some kvs =>
      cases e2 : ksOf kvs with
      | none => rw [e1] at h1; simp [e2] at h1
      | some ks =>
        rw [e1] at h1
        simp only [Option.bind_some, e2] at h1
        split at h1
        · rename_i hl
          cases h1
          obtain ⟨u, hu⟩ := var_at S e1
          obtain ⟨a, vs, rfl, rd, rk⟩ := slot_rd S hu e1
          refine ⟨.ref a, hu, a, vs, rfl, rd, fun w hw => ?_⟩
          have ne : a ≠ w := fun z => by
            subst z
            rcases rd with z | ⟨o, z⟩ <;> rw [hw] at z <;> cases z
          have rd2 : Rd (upd H w (viewO a w)) a (.dK vs) := by
            rcases rd with z | ⟨o, z⟩
            · exact .inl (by rw [upd_ne ne]; exact z)
            · exact .inr ⟨o, by rw [upd_ne ne]; exact z⟩
          have S1 := S.alloc (o := viewO a w) hw
          refine ⟨a, w, vs, ks, rfl, upd_same, rd2, (rk_keys rk).trans (ksOf_eq e2), hl, fun ys p pm srt hp => ?_⟩
          have ey : ks.mergeSort (fun a b => decide (a ≤ b)) = ys := sorted_unique ((List.mergeSort_perm ks _).trans pm.symm) (srt_sorted' ks) srt
          rw [ey] at q
          exact q _ G (Same.refl G) (S1.alloc hp) (.ref p) ⟨p, ys.map V.int, rfl, upd_same, S1.gh.free hp, Rps.of_ints ys, S1.fresh0 hp⟩ fun p' e _ => by cases e; exact S1.noOwn hp
        · cases h1
end G8
namespace G8
open PySem L2
def g_RoomError : Nat → Bool := fun _ => true
/-! look_name -/
def f_look_name : M Fl :=
    (ifM (notM (chainT leI leI (retM (.d (.int 0))) (varM 0) (retM (.d (.int 19))))) (raiseM 0) (retM .nx))
def F_look_name : Fn := bodyF 1 f_look_name
/-! look_row -/
def b_look_row_1 : M Fl :=
    (exprS (callM 1 F_look_name (consM (varM 1) (retM []))))
theorem b_look_row_1_ap (ρ : Ev) : b_look_row_1 ρ =
    (exprS (callM 1 F_look_name (consM (varM 1) (retM [])))) ρ := rfl
def f_look_row : M Fl :=
    (seqM (ifM (cmpT gtI (lenM (varM 0)) (retM (.d (.int 24)))) (raiseM 0) (retM .nx))
    (forM (itM (varM 0)) (.one 1) b_look_row_1))
def F_look_row : Fn := bodyF 2 f_look_row
/-! names -/
def b_names_1 : M Fl :=
    (ifM (cmpT ninD (varM 2) (varM 1)) (exprS (mutM 1 appD (consM (varM 2) (retM [])))) (retM .nx))
theorem b_names_1_ap (ρ : Ev) : b_names_1 ρ =
    (ifM (cmpT ninD (varM 2) (varM 1)) (exprS (mutM 1 appD (consM (varM 2) (retM [])))) (retM .nx)) ρ := rfl
def f_names : M Fl :=
    (seqM (exprS (callM 1 F_look_row (consM (varM 0) (retM []))))
    (seqM (setM 1 (lstM (retM [])))
    (seqM (forM (itM (varM 0)) (.one 2) b_names_1)
    (retO 1))))
def F_names : Fn := bodyF 3 f_names
/-! later -/
def b_later_1 : M Fl :=
    (ifM (cmpT eqD (frzM (bin2 ixD (varM 0) (varM 2))) (frzM (bin2 ixD (varM 0) (varM 1)))) (retO 2) (retM .nx))
theorem b_later_1_ap (ρ : Ev) : b_later_1 ρ =
    (ifM (cmpT eqD (frzM (bin2 ixD (varM 0) (varM 2))) (frzM (bin2 ixD (varM 0) (varM 1)))) (retO 2) (retM .nx)) ρ := rfl
def f_later : M Fl :=
    (seqM (forM (rg2 (consM (frzM (bin2 addD (varM 1) (retM (.d (.int 1))))) (consM (lenM (varM 0)) (retM [])))) (.one 2) b_later_1)
    (retS (dataM (retM (.d .none)))))
def F_later : Fn := bodyF 3 f_later
/-! holds -/
def e_holds_1 : M Av :=
    (tupM (consM (varM 2) (consM (frzM (callM 2 F_later (consM (varM 0) (consM (varM 2) (retM []))))) (retM []))))
theorem e_holds_1_ap (ρ : Ev) : e_holds_1 ρ =
    (tupM (consM (varM 2) (consM (frzM (callM 2 F_later (consM (varM 0) (consM (varM 2) (retM []))))) (retM [])))) ρ := rfl
def t_holds_1 : M Bool :=
    (isNT true (frzM (bin2 ixD (varM 3) (retM (.d (.int 1))))))
theorem t_holds_1_ap (ρ : Ev) : t_holds_1 ρ =
    (isNT true (frzM (bin2 ixD (varM 3) (retM (.d (.int 1)))))) ρ := rfl
def f_holds : M Fl :=
    (seqM (exprS (callM 1 F_look_row (consM (varM 0) (retM []))))
    (seqM (setM 1 (lcM (rg1 (consM (lenM (varM 0)) (retM []))) (.one 2) (retM true) e_holds_1))
    (withS 1 (retS (lcM (itM (varM 1)) (.one 3) t_holds_1 (varM 3))))))
def F_holds : Fn := bodyF 4 f_holds
/-! renamed -/
def e_renamed_1 : M Av :=
    (meM (lookD indexD) (varM 1) (consM (varM 2) (retM [])))
theorem e_renamed_1_ap (ρ : Ev) : e_renamed_1 ρ =
    (meM (lookD indexD) (varM 1) (consM (varM 2) (retM []))) ρ := rfl
def f_renamed : M Fl :=
    (seqM (setM 1 (callM 1 F_names (consM (varM 0) (retM []))))
    (retS (lcM (itM (varM 0)) (.one 2) (retM true) e_renamed_1)))
def F_renamed : Fn := bodyF 3 f_renamed
/-! are_alike -/
def f_are_alike : M Fl :=
    (retS (dataM (cmpM eqD (frzM (callM 1 F_renamed (consM (varM 0) (retM [])))) (frzM (callM 1 F_renamed (consM (varM 1) (retM [])))))))
def F_are_alike : Fn := bodyF 2 f_are_alike
/-! squeezed -/
def t_squeezed_1 : M Bool :=
    (orM (cmpT eqD (varM 1) (retM (.d (.int 0)))) (cmpT neD (frzM (bin2 ixD (varM 0) (varM 1))) (frzM (bin2 ixD (varM 0) (frzM (bin2 subD (varM 1) (retM (.d (.int 1)))))))))
theorem t_squeezed_1_ap (ρ : Ev) : t_squeezed_1 ρ =
    (orM (cmpT eqD (varM 1) (retM (.d (.int 0)))) (cmpT neD (frzM (bin2 ixD (varM 0) (varM 1))) (frzM (bin2 ixD (varM 0) (frzM (bin2 subD (varM 1) (retM (.d (.int 1))))))))) ρ := rfl
def f_squeezed : M Fl :=
    (seqM (exprS (callM 1 F_look_row (consM (varM 0) (retM []))))
    (retS (lcM (rg1 (consM (lenM (varM 0)) (retM []))) (.one 1) t_squeezed_1 (frzM (bin2 ixD (varM 0) (varM 1))))))
def F_squeezed : Fn := bodyF 2 f_squeezed
/-! apart -/
def e_apart_1 : M Av :=
    (cmpM ltI (varM 1) (retM (.d (.int 10))))
theorem e_apart_1_ap (ρ : Ev) : e_apart_1 ρ =
    (cmpM ltI (varM 1) (retM (.d (.int 10)))) ρ := rfl
def e_apart_2 : M Av :=
    (frzM (bin2 addD (varM 1) (retM (.d (.int 10)))))
theorem e_apart_2_ap (ρ : Ev) : e_apart_2 ρ =
    (frzM (bin2 addD (varM 1) (retM (.d (.int 10))))) ρ := rfl
def f_apart : M Fl :=
    (seqM (exprS (callM 1 F_look_row (consM (varM 0) (retM []))))
    (seqM (ifM (notM (testM (frzM (biM allD (consM (frzM (lcM (itM (varM 0)) (.one 1) (retM true) e_apart_1)) (retM [])))))) (raiseM 0) (retM .nx))
    (retS (lcM (itM (varM 0)) (.one 1) (retM true) e_apart_2))))
def F_apart : Fn := bodyF 2 f_apart
/-! _law_cell -/
def f__law_cell : M Fl :=
    (seqM (ifM (testM (varM 0)) (retS (dataM (ixS 0 (frzM (bin2 modD (varM 1) (lenM (varM 0))))))) (retM .nx))
    (retS (dataM (retM (.d (.int 0))))))
def F__law_cell : Fn := bodyF 2 f__law_cell
/-! _law_mix -/
def f__law_mix : M Fl :=
    (seqM (setM 2 (bin2 modD (frzM (bin2 addD (frzM (callM 2 F__law_cell (consM (varM 0) (consM (varM 1) (retM []))))) (frzM (bin2 mulD (retM (.d (.int 104729))) (frzM (bin2 addD (varM 1) (retM (.d (.int 1))))))))) (retM (.d (.int 4294967291)))))
    (seqM (setM 2 (bin2 modD (frzM (bin2 powD (varM 2) (retM (.d (.int 5))))) (retM (.d (.int 4294967279)))))
    (retS (bin2 modD (frzM (bin2 addD (frzM (bin2 mulD (frzM (bin2 fdivD (varM 2) (retM (.d (.int 64))))) (retM (.d (.int 69621))))) (varM 2))) (retM (.d (.int 4294967231)))))))
def F__law_mix : Fn := bodyF 3 f__law_mix
/-! _law_draw -/
def f__law_draw : M Fl :=
    (seqM (exprS (mutM 1 appD (consM (retM (.d (.int 0))) (retM []))))
    (retS (bin2 modD (frzM (bin2 fdivD (frzM (callM 2 F__law_mix (consM (varM 0) (consM (lenM (varM 1)) (retM []))))) (retM (.d (.int 8))))) (varM 2))))
def F__law_draw : Fn := bodyF 3 f__law_draw
/-! _law_pick -/
def f__law_pick : M Fl :=
    (retS (bin2 ixD (varM 2) (frzM (callM 3 F__law_draw (consM (varM 0) (consM (varM 1) (consM (lenM (varM 2)) (retM []))))))))
def F__law_pick : Fn := bodyF 3 f__law_pick
/-! _law_refusal -/
def f__law_refusal : M Fl :=
    (seqM (ifM (isNT false (varM 0)) (retS (dataM (tupM (consM (retM (.d (.str "ok"))) (retM []))))) (retM .nx))
    (seqM (setM 1 (lstM (consM (isiM 0 (is8 0)) (consM (isiM 0 (is8 1)) (consM (isiM 0 (is8 2)) (retM []))))))
    (seqM (setM 1 (bin2 addD (varM 1) (frzM (lstM (consM (isiM 0 (is8 3)) (consM (isiM 0 (is8 4)) (consM (isiM 0 (is8 5)) (retM []))))))))
    (seqM (setM 1 (bin2 addD (varM 1) (frzM (lstM (consM (isiM 0 (is8 6)) (consM (isiM 0 (is8 7)) (retM [])))))))
    (seqM (ifM (orM (cmpT neD (meM (lookD countD) (varM 1) (consM (retM (.d (.bool true))) (retM []))) (retM (.d (.int 1)))) (notM (testM (isiM 0 (fun _ => true))))) (retS (dataM (tupM (consM (retM (.d (.str "wrong"))) (retM []))))) (retM .nx))
    (seqM (setM 2 (lstM (consM (retM (.d (.str "row"))) (consM (retM (.d (.str "room"))) (consM (retM (.d (.str "rule"))) (consM (retM (.d (.str "plan"))) (consM (retM (.d (.str "depths"))) (consM (retM (.d (.str "turns"))) (consM (retM (.d (.str "ask"))) (consM (retM (.d (.str "text"))) (retM [])))))))))))
    (retS (dataM (tupM (consM (retM (.d (.str "refused"))) (consM (frzM (bin2 ixD (varM 2) (meM (lookD indexD) (varM 1) (consM (retM (.d (.bool true))) (retM []))))) (retM []))))))))))))
def F__law_refusal : Fn := bodyF 3 f__law_refusal
/-! _law_row -/
def b__law_row_1 : M Fl :=
    (seqM (setM 7 (callM 3 F__law_draw (consM (varM 0) (consM (varM 1) (consM (varM 4) (retM []))))))
    (seqM (ifM (andM (cmpT neD (varM 5) (frzM (lstM (retM [])))) (cmpT eqD (frzM (callM 3 F__law_draw (consM (varM 0) (consM (varM 1) (consM (retM (.d (.int 4))) (retM [])))))) (retM (.d (.int 0))))) (setM 7 (bin2 ixD (varM 5) (frzM (callM 3 F__law_draw (consM (varM 0) (consM (varM 1) (consM (lenM (varM 5)) (retM [])))))))) (retM .nx))
    (exprS (mutM 5 appD (consM (varM 7) (retM []))))))
theorem b__law_row_1_ap (ρ : Ev) : b__law_row_1 ρ =
    (seqM (setM 7 (callM 3 F__law_draw (consM (varM 0) (consM (varM 1) (consM (varM 4) (retM []))))))
    (seqM (ifM (andM (cmpT neD (varM 5) (frzM (lstM (retM [])))) (cmpT eqD (frzM (callM 3 F__law_draw (consM (varM 0) (consM (varM 1) (consM (retM (.d (.int 4))) (retM [])))))) (retM (.d (.int 0))))) (setM 7 (bin2 ixD (varM 5) (frzM (callM 3 F__law_draw (consM (varM 0) (consM (varM 1) (consM (lenM (varM 5)) (retM [])))))))) (retM .nx))
    (exprS (mutM 5 appD (consM (varM 7) (retM [])))))) ρ := rfl
def f__law_row : M Fl :=
    (seqM (setM 4 (bin2 addD (retM (.d (.int 1))) (frzM (callM 3 F__law_draw (consM (varM 0) (consM (varM 1) (consM (varM 3) (retM []))))))))
    (seqM (setM 5 (lstM (retM [])))
    (seqM (forM (rg1 (consM (frzM (callM 3 F__law_draw (consM (varM 0) (consM (varM 1) (consM (frzM (bin2 addD (varM 2) (retM (.d (.int 1))))) (retM [])))))) (retM []))) (.one 6) b__law_row_1)
    (retO 5))))
def F__law_row : Fn := bodyF 8 f__law_row
/-! look_room -/
def f_look_room : M Fl :=
    (ifM (notM (chainT leI leI (retM (.d (.int 0))) (varM 0) (retM (.d (.int 12))))) (raiseM 1) (retM .nx))
def F_look_room : Fn := bodyF 1 f_look_room
def l_RULES : List Str := ["last", "first", "old", "young", "far", "often"]
/-! look_rule -/
def f_look_rule : M Fl :=
    (ifM (cmpT ninD (varM 0) (retM (.d (.tuple (l_RULES.map PyData.str))))) (raiseM 2) (retM .nx))
def F_look_rule : Fn := bodyF 1 f_look_rule
/-! next_of -/
def b_next_of_1 : M Fl :=
    (ifM (cmpT eqD (frzM (bin2 ixD (varM 0) (varM 3))) (varM 2)) (retO 3) (retM .nx))
theorem b_next_of_1_ap (ρ : Ev) : b_next_of_1 ρ =
    (ifM (cmpT eqD (frzM (bin2 ixD (varM 0) (varM 3))) (varM 2)) (retO 3) (retM .nx)) ρ := rfl
def f_next_of : M Fl :=
    (seqM (forM (rg2 (consM (varM 1) (consM (lenM (varM 0)) (retM [])))) (.one 3) b_next_of_1)
    (retS (dataM (lenM (varM 0)))))
def F_next_of : Fn := bodyF 4 f_next_of
/-! last_of -/
def t_last_of_1 : M Bool :=
    (cmpT eqD (frzM (bin2 ixD (varM 0) (varM 3))) (varM 2))
theorem t_last_of_1_ap (ρ : Ev) : t_last_of_1 ρ =
    (cmpT eqD (frzM (bin2 ixD (varM 0) (varM 3))) (varM 2)) ρ := rfl
def f_last_of : M Fl :=
    (retS (biM (bestD PySem.W.maxD) (consM (frzM (lcM (rg1 (consM (varM 1) (retM []))) (.one 3) t_last_of_1 (varM 3))) (retM []))))
def F_last_of : Fn := bodyF 4 f_last_of
/-! worth -/
def f_worth : M Fl :=
    (seqM (ifM (cmpT eqD (varM 0) (retM (.d (.str "last")))) (retS (dataM (tupM (consM (frzM (callM 3 F_last_of (consM (varM 1) (consM (varM 2) (consM (varM 3) (retM [])))))) (consM (retM (.d (.int 0))) (retM [])))))) (retM .nx))
    (seqM (ifM (cmpT eqD (varM 0) (retM (.d (.str "first")))) (retS (dataM (tupM (consM (frzM (bin2 subD (retM (.d (.int 0))) (frzM (callM 3 F_last_of (consM (varM 1) (consM (varM 2) (consM (varM 3) (retM [])))))))) (consM (retM (.d (.int 0))) (retM [])))))) (retM .nx))
    (seqM (ifM (cmpT eqD (varM 0) (retM (.d (.str "old")))) (retS (dataM (tupM (consM (getK 4 (varM 3)) (consM (retM (.d (.int 0))) (retM [])))))) (retM .nx))
    (seqM (ifM (cmpT eqD (varM 0) (retM (.d (.str "young")))) (retS (dataM (tupM (consM (frzM (bin2 subD (retM (.d (.int 0))) (getK 4 (varM 3)))) (consM (retM (.d (.int 0))) (retM [])))))) (retM .nx))
    (seqM (ifM (cmpT eqD (varM 0) (retM (.d (.str "far")))) (retS (dataM (tupM (consM (frzM (bin2 subD (retM (.d (.int 0))) (frzM (callM 3 F_next_of (consM (varM 1) (consM (varM 2) (consM (varM 3) (retM [])))))))) (consM (varM 3) (retM [])))))) (retM .nx))
    (retS (dataM (tupM (consM (meM (lookD countD) (frzM (sliceM (varM 1) partN (partS (varM 2)))) (consM (varM 3) (retM []))) (consM (frzM (callM 3 F_last_of (consM (varM 1) (consM (varM 2) (consM (varM 3) (retM [])))))) (retM [])))))))))))
def F_worth : Fn := bodyF 5 f_worth
/-! victim -/
def e_victim_1 : M Av :=
    (tupM (consM (frzM (callM 5 F_worth (consM (varM 0) (consM (varM 1) (consM (varM 2) (consM (varM 5) (consM (varM 3) (retM [])))))))) (consM (varM 5) (retM []))))
theorem e_victim_1_ap (ρ : Ev) : e_victim_1 ρ =
    (tupM (consM (frzM (callM 5 F_worth (consM (varM 0) (consM (varM 1) (consM (varM 2) (consM (varM 5) (consM (varM 3) (retM [])))))))) (consM (varM 5) (retM [])))) ρ := rfl
def f_victim : M Fl :=
    (seqM (setM 4 (biM sortD (consM (frzM (lcM (keysM 3) (.one 5) (retM true) e_victim_1)) (retM []))))
    (retS (bin2 ixD (frzM (bin2 ixD (varM 4) (retM (.d (.int 0))))) (retM (.d (.int 1))))))
def F_victim : Fn := bodyF 6 f_victim
/-! walk -/
def b_walk_1 : M Fl :=
    (seqM (setM 6 (dataM (retM (.d .none))))
    (seqM (setM 7 (dataM (inK false 3 (frzM (bin2 ixD (varM 2) (varM 5))))))
    (seqM (ifM (andM (notM (testM (varM 7))) (cmpT gtI (varM 1) (retM (.d (.int 0))))) (seqM (ifM (cmpT eqD (lenM (varM 3)) (varM 1)) (seqM (setM 6 (lockE 3 (callM 4 F_victim (consM (varM 0) (consM (varM 2) (consM (varM 5) (consM (varM 3) (retM []))))))))
    (exprS (popKM 3 (varM 6)))) (retM .nx))
    (putKM 3 (varM 5) (frzM (bin2 ixD (varM 2) (varM 5))))) (retM .nx))
    (exprS (mutM 4 appD (consM (tupM (consM (varM 7) (consM (varM 6) (retM [])))) (retM [])))))))
theorem b_walk_1_ap (ρ : Ev) : b_walk_1 ρ =
    (seqM (setM 6 (dataM (retM (.d .none))))
    (seqM (setM 7 (dataM (inK false 3 (frzM (bin2 ixD (varM 2) (varM 5))))))
    (seqM (ifM (andM (notM (testM (varM 7))) (cmpT gtI (varM 1) (retM (.d (.int 0))))) (seqM (ifM (cmpT eqD (lenM (varM 3)) (varM 1)) (seqM (setM 6 (lockE 3 (callM 4 F_victim (consM (varM 0) (consM (varM 2) (consM (varM 5) (consM (varM 3) (retM []))))))))
    (exprS (popKM 3 (varM 6)))) (retM .nx))
    (putKM 3 (varM 5) (frzM (bin2 ixD (varM 2) (varM 5))))) (retM .nx))
    (exprS (mutM 4 appD (consM (tupM (consM (varM 7) (consM (varM 6) (retM [])))) (retM []))))))) ρ := rfl
def f_walk : M Fl :=
    (seqM (setM 3 (retM (.k [])))
    (seqM (setM 4 (lstM (retM [])))
    (seqM (forM (rg1 (consM (lenM (varM 2)) (retM []))) (.one 5) b_walk_1)
    (withS 4 (retS (dataM (tupM (consM (varM 4) (consM (frzM (sortK 3)) (retM []))))))))))
def F_walk : Fn := bodyF 8 f_walk
/-! run -/
def f_run : M Fl :=
    (seqM (exprS (callM 1 F_look_rule (consM (varM 0) (retM []))))
    (seqM (exprS (callM 1 F_look_room (consM (varM 1) (retM []))))
    (seqM (exprS (callM 1 F_look_row (consM (varM 2) (retM []))))
    (retS (lcM (itM (frzM (bin2 ixD (frzM (callM 3 F_walk (consM (varM 0) (consM (varM 1) (consM (varM 2) (retM [])))))) (retM (.d (.int 0)))))) (.tup [3, 4]) (retM true) (varM 3))))))
def F_run : Fn := bodyF 5 f_run
/-! kept -/
def f_kept : M Fl :=
    (seqM (exprS (callM 1 F_look_rule (consM (varM 0) (retM []))))
    (seqM (exprS (callM 1 F_look_room (consM (varM 1) (retM []))))
    (seqM (exprS (callM 1 F_look_row (consM (varM 2) (retM []))))
    (retS (bin2 ixD (frzM (callM 3 F_walk (consM (varM 0) (consM (varM 1) (consM (varM 2) (retM [])))))) (retM (.d (.int 1))))))))
def F_kept : Fn := bodyF 3 f_kept
/-! gone -/
def f_gone : M Fl :=
    (seqM (exprS (callM 1 F_look_rule (consM (varM 0) (retM []))))
    (seqM (exprS (callM 1 F_look_room (consM (varM 1) (retM []))))
    (seqM (exprS (callM 1 F_look_row (consM (varM 2) (retM []))))
    (retS (lcM (itM (frzM (bin2 ixD (frzM (callM 3 F_walk (consM (varM 0) (consM (varM 1) (consM (varM 2) (retM [])))))) (retM (.d (.int 0)))))) (.tup [3, 4]) (retM true) (varM 4))))))
def F_gone : Fn := bodyF 5 f_gone
/-! misses -/
def f_misses : M Fl :=
    (retS (dataM (meM (lookD countD) (frzM (callM 3 F_run (consM (varM 0) (consM (varM 1) (consM (varM 2) (retM [])))))) (consM (retM (.d (.bool false))) (retM [])))))
def F_misses : Fn := bodyF 3 f_misses
/-! _law_place -/
def b__law_place_1 : M Fl :=
    (ifM (cmpT eqD (frzM (bin2 ixD (varM 0) (varM 5))) (varM 1)) (retO 5) (retM .nx))
theorem b__law_place_1_ap (ρ : Ev) : b__law_place_1 ρ =
    (ifM (cmpT eqD (frzM (bin2 ixD (varM 0) (varM 5))) (varM 1)) (retO 5) (retM .nx)) ρ := rfl
def f__law_place : M Fl :=
    (seqM (setM 4 (dataM (ifM (cmpT leI (varM 2) (varM 3)) (retM (.d (.int 1))) (frzM (un1 negD (retM (.d (.int 1))))))))
    (seqM (forM (rg3 (consM (varM 2) (consM (varM 3) (consM (varM 4) (retM []))))) (.one 5) b__law_place_1)
    (retS (dataM (retM (.d .none))))))
def F__law_place : Fn := bodyF 6 f__law_place
/-! _law_goes -/
def e__law_goes_1 : M Av :=
    (frzM (callM 4 F__law_place (consM (varM 1) (consM (varM 7) (consM (frzM (bin2 subD (varM 2) (retM (.d (.int 1))))) (consM (frzM (un1 negD (retM (.d (.int 1))))) (retM [])))))))
theorem e__law_goes_1_ap (ρ : Ev) : e__law_goes_1 ρ =
    (frzM (callM 4 F__law_place (consM (varM 1) (consM (varM 7) (consM (frzM (bin2 subD (varM 2) (retM (.d (.int 1))))) (consM (frzM (un1 negD (retM (.d (.int 1))))) (retM []))))))) ρ := rfl
def e__law_goes_2 : M Av :=
    (frzM (callM 4 F__law_place (consM (varM 1) (consM (varM 7) (consM (varM 2) (consM (lenM (varM 1)) (retM [])))))))
theorem e__law_goes_2_ap (ρ : Ev) : e__law_goes_2 ρ =
    (frzM (callM 4 F__law_place (consM (varM 1) (consM (varM 7) (consM (varM 2) (consM (lenM (varM 1)) (retM []))))))) ρ := rfl
def t__law_goes_1 : M Bool :=
    (isNT false (frzM (bin2 ixD (varM 6) (varM 8))))
theorem t__law_goes_1_ap (ρ : Ev) : t__law_goes_1 ρ =
    (isNT false (frzM (bin2 ixD (varM 6) (varM 8)))) ρ := rfl
def t__law_goes_2 : M Bool :=
    (cmpT eqD (varM 9) (frzM (bin2 ixD (varM 3) (varM 8))))
theorem t__law_goes_2_ap (ρ : Ev) : t__law_goes_2 ρ =
    (cmpT eqD (varM 9) (frzM (bin2 ixD (varM 3) (varM 8)))) ρ := rfl
def e__law_goes_3 : M Av :=
    (tupM (consM (lenM (frzM (lcM (itM (frzM (sliceM (varM 1) partN (partS (varM 2))))) (.one 9) t__law_goes_2 (varM 9)))) (consM (frzM (bin2 ixD (varM 4) (varM 8))) (consM (frzM (bin2 ixD (varM 3) (varM 8))) (retM [])))))
theorem e__law_goes_3_ap (ρ : Ev) : e__law_goes_3 ρ =
    (tupM (consM (lenM (frzM (lcM (itM (frzM (sliceM (varM 1) partN (partS (varM 2))))) (.one 9) t__law_goes_2 (varM 9)))) (consM (frzM (bin2 ixD (varM 4) (varM 8))) (consM (frzM (bin2 ixD (varM 3) (varM 8))) (retM []))))) ρ := rfl
def f__law_goes : M Fl :=
    (seqM (ifM (cmpT eqD (varM 0) (retM (.d (.str "old")))) (retS (bin2 ixD (varM 3) (retM (.d (.int 0))))) (retM .nx))
    (seqM (ifM (cmpT eqD (varM 0) (retM (.d (.str "young")))) (retS (bin2 ixD (varM 3) (frzM (un1 negD (retM (.d (.int 1))))))) (retM .nx))
    (seqM (setM 4 (lcM (itM (varM 3)) (.one 7) (retM true) e__law_goes_1))
    (seqM (ifM (cmpT eqD (varM 0) (retM (.d (.str "last")))) (retS (bin2 ixD (varM 3) (meM (lookD indexD) (varM 4) (consM (frzM (biM (bestD PySem.W.minD) (consM (varM 4) (retM [])))) (retM []))))) (retM .nx))
    (seqM (ifM (cmpT eqD (varM 0) (retM (.d (.str "first")))) (retS (bin2 ixD (varM 3) (meM (lookD indexD) (varM 4) (consM (frzM (biM (bestD PySem.W.maxD) (consM (varM 4) (retM [])))) (retM []))))) (retM .nx))
    (seqM (ifM (cmpT eqD (varM 0) (retM (.d (.str "far")))) (seqM (setM 6 (lcM (itM (varM 3)) (.one 7) (retM true) e__law_goes_2))
    (seqM (ifM (cmpT inD (retM (.d .none)) (varM 6)) (retS (biM (bestD PySem.W.minD) (consM (frzM (lcM (rg1 (consM (lenM (varM 3)) (retM []))) (.one 8) t__law_goes_1 (frzM (bin2 ixD (varM 3) (varM 8))))) (retM [])))) (retM .nx))
    (retS (bin2 ixD (varM 3) (meM (lookD indexD) (varM 6) (consM (frzM (biM (bestD PySem.W.maxD) (consM (varM 6) (retM [])))) (retM []))))))) (retM .nx))
    (seqM (setM 5 (lcM (rg1 (consM (lenM (varM 3)) (retM []))) (.one 8) (retM true) e__law_goes_3))
    (retS (bin2 ixD (frzM (biM (bestD PySem.W.minD) (consM (varM 5) (retM [])))) (retM (.d (.int 2))))))))))))
def F__law_goes : Fn := bodyF 10 f__law_goes
/-! _law_walk -/
def t__law_walk_1 : M Bool :=
    (cmpT neD (varM 7) (frzM (bin2 ixD (varM 5) (varM 6))))
theorem t__law_walk_1_ap (ρ : Ev) : t__law_walk_1 ρ =
    (cmpT neD (varM 7) (frzM (bin2 ixD (varM 5) (varM 6)))) ρ := rfl
def b__law_walk_1 : M Fl :=
    (seqM (exprS (mutM 4 appD (consM (cmpM inD (frzM (bin2 ixD (varM 2) (varM 6))) (varM 3)) (retM []))))
    (seqM (exprS (mutM 5 appD (consM (retM (.d .none)) (retM []))))
    (ifM (andM (cmpT ninD (frzM (bin2 ixD (varM 2) (varM 6))) (varM 3)) (cmpT gtI (varM 1) (retM (.d (.int 0))))) (seqM (ifM (cmpT eqD (lenM (varM 3)) (varM 1)) (seqM (withS 3 (setIt 5 (frzM (callM 4 F__law_goes (consM (varM 0) (consM (varM 2) (consM (varM 6) (consM (varM 3) (retM []))))))) (varM 6)))
    (withS 3 (setM 3 (lcM (itM (varM 3)) (.one 7) t__law_walk_1 (varM 7))))) (retM .nx))
    (exprS (mutM 3 appD (consM (frzM (bin2 ixD (varM 2) (varM 6))) (retM []))))) (retM .nx))))
theorem b__law_walk_1_ap (ρ : Ev) : b__law_walk_1 ρ =
    (seqM (exprS (mutM 4 appD (consM (cmpM inD (frzM (bin2 ixD (varM 2) (varM 6))) (varM 3)) (retM []))))
    (seqM (exprS (mutM 5 appD (consM (retM (.d .none)) (retM []))))
    (ifM (andM (cmpT ninD (frzM (bin2 ixD (varM 2) (varM 6))) (varM 3)) (cmpT gtI (varM 1) (retM (.d (.int 0))))) (seqM (ifM (cmpT eqD (lenM (varM 3)) (varM 1)) (seqM (withS 3 (setIt 5 (frzM (callM 4 F__law_goes (consM (varM 0) (consM (varM 2) (consM (varM 6) (consM (varM 3) (retM []))))))) (varM 6)))
    (withS 3 (setM 3 (lcM (itM (varM 3)) (.one 7) t__law_walk_1 (varM 7))))) (retM .nx))
    (exprS (mutM 3 appD (consM (frzM (bin2 ixD (varM 2) (varM 6))) (retM []))))) (retM .nx)))) ρ := rfl
def f__law_walk : M Fl :=
    (seqM (setM 3 (lstM (retM [])))
    (seqM (setM 4 (lstM (retM [])))
    (seqM (setM 5 (lstM (retM [])))
    (seqM (forM (rg1 (consM (lenM (varM 2)) (retM []))) (.one 6) b__law_walk_1)
    (withS 4 (withS 5 (withS 3 (retS (dataM (tupM (consM (varM 4) (consM (varM 5) (consM (varM 3) (retM []))))))))))))))
def F__law_walk : Fn := bodyF 8 f__law_walk
def l_STACKED : List Str := ["last", "first", "young", "far", "often"]
/-! look_stacked -/
def f_look_stacked : M Fl :=
    (seqM (exprS (callM 1 F_look_rule (consM (varM 0) (retM []))))
    (ifM (cmpT ninD (varM 0) (retM (.d (.tuple (l_STACKED.map PyData.str))))) (raiseM 2) (retM .nx)))
def F_look_stacked : Fn := bodyF 1 f_look_stacked
/-! rank -/
def f_rank : M Fl :=
    (seqM (ifM (cmpT eqD (varM 0) (retM (.d (.str "last")))) (retS (dataM (tupM (consM (frzM (callM 3 F_last_of (consM (varM 1) (consM (varM 2) (consM (varM 3) (retM [])))))) (consM (retM (.d (.int 0))) (retM [])))))) (retM .nx))
    (seqM (ifM (cmpT eqD (varM 0) (retM (.d (.str "first")))) (retS (dataM (tupM (consM (frzM (bin2 subD (retM (.d (.int 0))) (frzM (callM 3 F_last_of (consM (varM 1) (consM (varM 2) (consM (varM 3) (retM [])))))))) (consM (retM (.d (.int 0))) (retM [])))))) (retM .nx))
    (seqM (ifM (cmpT eqD (varM 0) (retM (.d (.str "young")))) (retS (dataM (tupM (consM (frzM (bin2 subD (retM (.d (.int 0))) (frzM (callM 3 F_next_of (consM (varM 1) (consM (retM (.d (.int 0))) (consM (varM 3) (retM [])))))))) (consM (retM (.d (.int 0))) (retM [])))))) (retM .nx))
    (seqM (ifM (cmpT eqD (varM 0) (retM (.d (.str "far")))) (retS (dataM (tupM (consM (frzM (bin2 subD (retM (.d (.int 0))) (frzM (callM 3 F_next_of (consM (varM 1) (consM (varM 2) (consM (varM 3) (retM [])))))))) (consM (varM 3) (retM [])))))) (retM .nx))
    (retS (dataM (tupM (consM (meM (lookD countD) (frzM (sliceM (varM 1) partN (partS (varM 2)))) (consM (varM 3) (retM []))) (consM (frzM (callM 3 F_last_of (consM (varM 1) (consM (varM 2) (consM (varM 3) (retM [])))))) (retM []))))))))))
def F_rank : Fn := bodyF 4 f_rank
/-! moved -/
def b_moved_1 : M Fl :=
    (seqM (ifM (cmpT eqD (varM 7) (varM 4)) (retM .bk) (retM .nx))
    (ifM (isNT false (varM 6)) (setM 6 (dataM (varM 7))) (ifM (cmpT ltT (frzM (callM 4 F_rank (consM (varM 0) (consM (varM 1) (consM (varM 2) (consM (varM 7) (retM []))))))) (frzM (callM 4 F_rank (consM (varM 0) (consM (varM 1) (consM (varM 2) (consM (varM 6) (retM [])))))))) (seqM (exprS (mutM 5 appD (consM (varM 6) (retM []))))
    (setM 6 (dataM (varM 7)))) (exprS (mutM 5 appD (consM (varM 7) (retM [])))))))
theorem b_moved_1_ap (ρ : Ev) : b_moved_1 ρ =
    (seqM (ifM (cmpT eqD (varM 7) (varM 4)) (retM .bk) (retM .nx))
    (ifM (isNT false (varM 6)) (setM 6 (dataM (varM 7))) (ifM (cmpT ltT (frzM (callM 4 F_rank (consM (varM 0) (consM (varM 1) (consM (varM 2) (consM (varM 7) (retM []))))))) (frzM (callM 4 F_rank (consM (varM 0) (consM (varM 1) (consM (varM 2) (consM (varM 6) (retM [])))))))) (seqM (exprS (mutM 5 appD (consM (varM 6) (retM []))))
    (setM 6 (dataM (varM 7)))) (exprS (mutM 5 appD (consM (varM 7) (retM []))))))) ρ := rfl
def f_moved : M Fl :=
    (seqM (setM 4 (bin2 ixD (varM 1) (varM 2)))
    (seqM (setM 5 (lstM (consM (varM 4) (retM []))))
    (seqM (setM 6 (dataM (retM (.d .none))))
    (seqM (forM (itM (varM 3)) (.one 7) b_moved_1)
    (seqM (ifM (isNT true (varM 6)) (exprS (mutM 5 appD (consM (varM 6) (retM [])))) (retM .nx))
    (retS (bin2 addD (varM 5) (frzM (sliceM (varM 3) (partS (lenM (varM 5))) partN)))))))))
def F_moved : Fn := bodyF 8 f_moved
/-! walked -/
def b_walked_1 : M Fl :=
    (seqM (exprS (mutM 3 appD (consM (ifM (cmpT inD (frzM (bin2 ixD (varM 1) (varM 4))) (varM 2)) (frzM (bin2 addD (meM (lookD indexD) (varM 2) (consM (frzM (bin2 ixD (varM 1) (varM 4))) (retM []))) (retM (.d (.int 1))))) (retM (.d .none))) (retM []))))
    (withS 2 (setM 2 (callM 4 F_moved (consM (varM 0) (consM (varM 1) (consM (varM 4) (consM (varM 2) (retM [])))))))))
theorem b_walked_1_ap (ρ : Ev) : b_walked_1 ρ =
    (seqM (exprS (mutM 3 appD (consM (ifM (cmpT inD (frzM (bin2 ixD (varM 1) (varM 4))) (varM 2)) (frzM (bin2 addD (meM (lookD indexD) (varM 2) (consM (frzM (bin2 ixD (varM 1) (varM 4))) (retM []))) (retM (.d (.int 1))))) (retM (.d .none))) (retM []))))
    (withS 2 (setM 2 (callM 4 F_moved (consM (varM 0) (consM (varM 1) (consM (varM 4) (consM (varM 2) (retM []))))))))) ρ := rfl
def f_walked : M Fl :=
    (seqM (setM 2 (lstM (retM [])))
    (seqM (setM 3 (lstM (retM [])))
    (seqM (forM (rg1 (consM (lenM (varM 1)) (retM []))) (.one 4) b_walked_1)
    (withS 3 (withS 2 (retS (dataM (tupM (consM (varM 3) (consM (varM 2) (retM [])))))))))))
def F_walked : Fn := bodyF 5 f_walked
/-! depths -/
def f_depths : M Fl :=
    (seqM (exprS (callM 1 F_look_stacked (consM (varM 0) (retM []))))
    (seqM (exprS (callM 1 F_look_row (consM (varM 1) (retM []))))
    (retS (bin2 ixD (frzM (callM 2 F_walked (consM (varM 0) (consM (varM 1) (retM []))))) (retM (.d (.int 0)))))))
def F_depths : Fn := bodyF 2 f_depths
/-! stack -/
def f_stack : M Fl :=
    (seqM (exprS (callM 1 F_look_stacked (consM (varM 0) (retM []))))
    (seqM (exprS (callM 1 F_look_row (consM (varM 1) (retM []))))
    (retS (bin2 ixD (frzM (callM 2 F_walked (consM (varM 0) (consM (varM 1) (retM []))))) (retM (.d (.int 1)))))))
def F_stack : Fn := bodyF 2 f_stack
/-! counts -/
def e_counts_1 : M Av :=
    (meM (lookD countD) (varM 2) (consM (varM 3) (retM [])))
theorem e_counts_1_ap (ρ : Ev) : e_counts_1 ρ =
    (meM (lookD countD) (varM 2) (consM (varM 3) (retM []))) ρ := rfl
def f_counts : M Fl :=
    (seqM (setM 2 (callM 2 F_depths (consM (varM 0) (consM (varM 1) (retM [])))))
    (retS (bin2 addD (frzM (lstM (consM (meM (lookD countD) (varM 2) (consM (retM (.d .none)) (retM []))) (retM [])))) (frzM (lcM (rg2 (consM (retM (.d (.int 1))) (consM (frzM (bin2 addD (retM (.d (.int 12))) (retM (.d (.int 1))))) (retM [])))) (.one 3) (retM true) e_counts_1)))))
def F_counts : Fn := bodyF 4 f_counts
/-! curve -/
def e_curve_1 : M Av :=
    (frzM (callM 3 F_misses (consM (varM 0) (consM (varM 3) (consM (varM 1) (retM []))))))
theorem e_curve_1_ap (ρ : Ev) : e_curve_1 ρ =
    (frzM (callM 3 F_misses (consM (varM 0) (consM (varM 3) (consM (varM 1) (retM [])))))) ρ := rfl
def t_curve_1 : M Bool :=
    (orM (isNT false (varM 4)) (cmpT gtI (varM 4) (varM 3)))
theorem t_curve_1_ap (ρ : Ev) : t_curve_1 ρ =
    (orM (isNT false (varM 4)) (cmpT gtI (varM 4) (varM 3))) ρ := rfl
def e_curve_2 : M Av :=
    (lenM (frzM (lcM (itM (varM 2)) (.one 4) t_curve_1 (varM 4))))
theorem e_curve_2_ap (ρ : Ev) : e_curve_2 ρ =
    (lenM (frzM (lcM (itM (varM 2)) (.one 4) t_curve_1 (varM 4)))) ρ := rfl
def f_curve : M Fl :=
    (seqM (exprS (callM 1 F_look_rule (consM (varM 0) (retM []))))
    (seqM (exprS (callM 1 F_look_row (consM (varM 1) (retM []))))
    (seqM (ifM (cmpT ninD (varM 0) (retM (.d (.tuple (l_STACKED.map PyData.str))))) (retS (lcM (rg1 (consM (frzM (bin2 addD (retM (.d (.int 12))) (retM (.d (.int 1))))) (retM []))) (.one 3) (retM true) e_curve_1)) (retM .nx))
    (seqM (setM 2 (callM 2 F_depths (consM (varM 0) (consM (varM 1) (retM [])))))
    (retS (lcM (rg1 (consM (frzM (bin2 addD (retM (.d (.int 12))) (retM (.d (.int 1))))) (retM []))) (.one 3) (retM true) e_curve_2))))))
def F_curve : Fn := bodyF 5 f_curve
/-! loses -/
def t_loses_1 : M Bool :=
    (cmpT gtI (frzM (bin2 ixD (varM 2) (frzM (bin2 addD (varM 3) (retM (.d (.int 1))))))) (frzM (bin2 ixD (varM 2) (varM 3))))
theorem t_loses_1_ap (ρ : Ev) : t_loses_1 ρ =
    (cmpT gtI (frzM (bin2 ixD (varM 2) (frzM (bin2 addD (varM 3) (retM (.d (.int 1))))))) (frzM (bin2 ixD (varM 2) (varM 3)))) ρ := rfl
def f_loses : M Fl :=
    (seqM (setM 2 (callM 2 F_curve (consM (varM 0) (consM (varM 1) (retM [])))))
    (retS (lcM (rg1 (consM (retM (.d (.int 12))) (retM []))) (.one 3) t_loses_1 (varM 3))))
def F_loses : Fn := bodyF 4 f_loses
/-! _law_depth -/
def t__law_depth_1 : M Bool :=
    (cmpT eqD (frzM (bin2 ixD (varM 0) (varM 4))) (frzM (bin2 ixD (varM 0) (varM 1))))
theorem t__law_depth_1_ap (ρ : Ev) : t__law_depth_1 ρ =
    (cmpT eqD (frzM (bin2 ixD (varM 0) (varM 4))) (frzM (bin2 ixD (varM 0) (varM 1)))) ρ := rfl
def t__law_depth_2 : M Bool :=
    (orM (cmpT eqD (varM 4) (retM (.d (.int 0)))) (cmpT neD (frzM (bin2 ixD (varM 3) (varM 4))) (frzM (bin2 ixD (varM 3) (frzM (bin2 subD (varM 4) (retM (.d (.int 1)))))))))
theorem t__law_depth_2_ap (ρ : Ev) : t__law_depth_2 ρ =
    (orM (cmpT eqD (varM 4) (retM (.d (.int 0)))) (cmpT neD (frzM (bin2 ixD (varM 3) (varM 4))) (frzM (bin2 ixD (varM 3) (frzM (bin2 subD (varM 4) (retM (.d (.int 1))))))))) ρ := rfl
def f__law_depth : M Fl :=
    (seqM (setM 2 (lcM (rg1 (consM (varM 1) (retM []))) (.one 4) t__law_depth_1 (varM 4)))
    (seqM (ifM (cmpT eqD (varM 2) (frzM (lstM (retM [])))) (retS (dataM (retM (.d .none)))) (retM .nx))
    (seqM (setM 3 (biM sortD (consM (frzM (sliceM (varM 0) (partS (frzM (bin2 ixD (varM 2) (frzM (un1 negD (retM (.d (.int 1)))))))) (partS (varM 1)))) (retM []))))
    (retS (dataM (lenM (frzM (lcM (rg1 (consM (lenM (varM 3)) (retM []))) (.one 4) t__law_depth_2 (varM 4)))))))))
def F__law_depth : Fn := bodyF 5 f__law_depth
def l_LOSING : List Int := [1, 2, 3, 4, 1, 2, 5, 1, 2, 3, 4, 5]
/-! losing_row -/
def f_losing_row : M Fl :=
    (seqM (exprS (callM 1 F_look_rule (consM (varM 0) (retM []))))
    (retS (ifM (cmpT inD (varM 0) (retM (.d (.tuple (l_STACKED.map PyData.str))))) (dataM (retM (.d .none))) (retM (.l (l_LOSING.map PyData.int))))))
def F_losing_row : Fn := bodyF 1 f_losing_row
/-! crowd -/
def t_crowd_1 : M Bool :=
    (chainT ltI ltI (frzM (bin2 ixD (varM 3) (retM (.d (.int 0))))) (varM 2) (frzM (bin2 ixD (varM 3) (retM (.d (.int 1))))))
theorem t_crowd_1_ap (ρ : Ev) : t_crowd_1 ρ =
    (chainT ltI ltI (frzM (bin2 ixD (varM 3) (retM (.d (.int 0))))) (varM 2) (frzM (bin2 ixD (varM 3) (retM (.d (.int 1)))))) ρ := rfl
def e_crowd_1 : M Av :=
    (lenM (frzM (lcM (itM (varM 1)) (.one 3) t_crowd_1 (varM 3))))
theorem e_crowd_1_ap (ρ : Ev) : e_crowd_1 ρ =
    (lenM (frzM (lcM (itM (varM 1)) (.one 3) t_crowd_1 (varM 3)))) ρ := rfl
def f_crowd : M Fl :=
    (retS (lcM (rg1 (consM (lenM (varM 0)) (retM []))) (.one 2) (retM true) e_crowd_1))
def F_crowd : Fn := bodyF 4 f_crowd
/-! least -/
def f_least : M Fl :=
    (retS (callM 3 F_misses (consM (retM (.d (.str "far"))) (consM (varM 0) (consM (varM 1) (retM []))))))
def F_least : Fn := bodyF 2 f_least
/-! plan -/
def f_plan : M Fl :=
    (retS (callM 3 F_gone (consM (retM (.d (.str "far"))) (consM (varM 0) (consM (varM 1) (retM []))))))
def F_plan : Fn := bodyF 2 f_plan
/-! followed -/
def t_followed_1 : M Bool :=
    (cmpT neD (varM 8) (frzM (bin2 ixD (varM 2) (varM 5))))
theorem t_followed_1_ap (ρ : Ev) : t_followed_1 ρ =
    (cmpT neD (varM 8) (frzM (bin2 ixD (varM 2) (varM 5)))) ρ := rfl
def b_followed_1 : M Fl :=
    (seqM (setM 6 (dataM (cmpM inD (frzM (bin2 ixD (varM 1) (varM 5))) (varM 3))))
    (seqM (setM 7 (dataM (andV (notV (varM 6)) (andV (cmpM gtI (varM 0) (retM (.d (.int 0)))) (cmpM eqD (lenM (varM 3)) (varM 0))))))
    (seqM (ifM (orM (cmpT neD (varM 7) (isN true (frzM (bin2 ixD (varM 2) (varM 5))))) (andM (testM (varM 7)) (cmpT ninD (frzM (bin2 ixD (varM 2) (varM 5))) (varM 3)))) (raiseM 3) (retM .nx))
    (seqM (withS 3 (setM 3 (lcM (itM (varM 3)) (.one 8) t_followed_1 (varM 8))))
    (seqM (ifM (andM (notM (testM (varM 6))) (cmpT gtI (varM 0) (retM (.d (.int 0))))) (exprS (mutM 3 appD (consM (frzM (bin2 ixD (varM 1) (varM 5))) (retM [])))) (retM .nx))
    (exprS (mutM 4 appD (consM (varM 6) (retM [])))))))))
theorem b_followed_1_ap (ρ : Ev) : b_followed_1 ρ =
    (seqM (setM 6 (dataM (cmpM inD (frzM (bin2 ixD (varM 1) (varM 5))) (varM 3))))
    (seqM (setM 7 (dataM (andV (notV (varM 6)) (andV (cmpM gtI (varM 0) (retM (.d (.int 0)))) (cmpM eqD (lenM (varM 3)) (varM 0))))))
    (seqM (ifM (orM (cmpT neD (varM 7) (isN true (frzM (bin2 ixD (varM 2) (varM 5))))) (andM (testM (varM 7)) (cmpT ninD (frzM (bin2 ixD (varM 2) (varM 5))) (varM 3)))) (raiseM 3) (retM .nx))
    (seqM (withS 3 (setM 3 (lcM (itM (varM 3)) (.one 8) t_followed_1 (varM 8))))
    (seqM (ifM (andM (notM (testM (varM 6))) (cmpT gtI (varM 0) (retM (.d (.int 0))))) (exprS (mutM 3 appD (consM (frzM (bin2 ixD (varM 1) (varM 5))) (retM [])))) (retM .nx))
    (exprS (mutM 4 appD (consM (varM 6) (retM []))))))))) ρ := rfl
def f_followed : M Fl :=
    (seqM (exprS (callM 1 F_look_room (consM (varM 0) (retM []))))
    (seqM (exprS (callM 1 F_look_row (consM (varM 1) (retM []))))
    (seqM (ifM (cmpT neD (lenM (varM 2)) (lenM (varM 1))) (raiseM 3) (retM .nx))
    (seqM (setM 3 (lstM (retM [])))
    (seqM (setM 4 (lstM (retM [])))
    (seqM (forM (rg1 (consM (lenM (varM 1)) (retM []))) (.one 5) b_followed_1)
    (retO 4)))))))
def F_followed : Fn := bodyF 9 f_followed
/-! cost -/
def f_cost : M Fl :=
    (retS (dataM (meM (lookD countD) (frzM (callM 3 F_followed (consM (varM 0) (consM (varM 1) (consM (varM 2) (retM [])))))) (consM (retM (.d (.bool false))) (retM [])))))
def F_cost : Fn := bodyF 3 f_cost
/-! held -/
def t_held_1 : M Bool :=
    (testM (frzM (bin2 ixD (varM 3) (frzM (bin2 ixD (varM 4) (retM (.d (.int 1))))))))
theorem t_held_1_ap (ρ : Ev) : t_held_1 ρ =
    (testM (frzM (bin2 ixD (varM 3) (frzM (bin2 ixD (varM 4) (retM (.d (.int 1)))))))) ρ := rfl
def f_held : M Fl :=
    (seqM (setM 3 (callM 3 F_followed (consM (varM 0) (consM (varM 1) (consM (varM 2) (retM []))))))
    (retS (lcM (itM (frzM (callM 1 F_holds (consM (varM 1) (retM []))))) (.one 4) t_held_1 (varM 4))))
def F_held : Fn := bodyF 5 f_held
/-! is_held -/
def e_is_held_1 : M Av :=
    (andV (cmpM eqD (frzM (bin2 ixD (varM 0) (frzM (bin2 ixD (varM 4) (retM (.d (.int 0))))))) (varM 3)) (chainM ltI ltI (frzM (bin2 ixD (varM 4) (retM (.d (.int 0))))) (varM 2) (frzM (bin2 ixD (varM 4) (retM (.d (.int 1)))))))
theorem e_is_held_1_ap (ρ : Ev) : e_is_held_1 ρ =
    (andV (cmpM eqD (frzM (bin2 ixD (varM 0) (frzM (bin2 ixD (varM 4) (retM (.d (.int 0))))))) (varM 3)) (chainM ltI ltI (frzM (bin2 ixD (varM 4) (retM (.d (.int 0))))) (varM 2) (frzM (bin2 ixD (varM 4) (retM (.d (.int 1))))))) ρ := rfl
def f_is_held : M Fl :=
    (retS (biM anyD (consM (frzM (lcM (itM (varM 1)) (.one 4) (retM true) e_is_held_1)) (retM []))))
def F_is_held : Fn := bodyF 5 f_is_held
/-! can_be -/
def b_can_be_1 : M Fl :=
    (seqM (ifM (andM (isNT true (varM 2)) (notM (chainT leI leI (retM (.d (.int 1))) (varM 2) (varM 1)))) (retS (dataM (retM (.d (.bool false))))) (retM .nx))
    (setM 1 (bin2 addD (varM 1) (frzM (biM intD (consM (isN false (varM 2)) (retM [])))))))
theorem b_can_be_1_ap (ρ : Ev) : b_can_be_1 ρ =
    (seqM (ifM (andM (isNT true (varM 2)) (notM (chainT leI leI (retM (.d (.int 1))) (varM 2) (varM 1)))) (retS (dataM (retM (.d (.bool false))))) (retM .nx))
    (setM 1 (bin2 addD (varM 1) (frzM (biM intD (consM (isN false (varM 2)) (retM []))))))) ρ := rfl
def f_can_be : M Fl :=
    (seqM (ifM (cmpT gtI (lenM (varM 0)) (retM (.d (.int 24)))) (retS (dataM (retM (.d (.bool false))))) (retM .nx))
    (seqM (setM 1 (dataM (retM (.d (.int 0)))))
    (seqM (forM (itM (varM 0)) (.one 2) b_can_be_1)
    (retS (dataM (cmpM leI (varM 1) (frzM (bin2 addD (retM (.d (.int 19))) (retM (.d (.int 1)))))))))))
def F_can_be : Fn := bodyF 3 f_can_be
/-! row_of -/
def b_row_of_1 : M Fl :=
    (seqM (setM 5 (dataM (varM 3)))
    (seqM (ifM (isNT false (varM 4)) (setM 3 (bin2 addD (varM 3) (retM (.d (.int 1))))) (setM 5 (mutM 1 popAtD (consM (frzM (bin2 subD (varM 4) (retM (.d (.int 1))))) (retM [])))))
    (seqM (exprS (mutM 1 insD (consM (retM (.d (.int 0))) (consM (varM 5) (retM [])))))
    (exprS (mutM 2 appD (consM (varM 5) (retM [])))))))
theorem b_row_of_1_ap (ρ : Ev) : b_row_of_1 ρ =
    (seqM (setM 5 (dataM (varM 3)))
    (seqM (ifM (isNT false (varM 4)) (setM 3 (bin2 addD (varM 3) (retM (.d (.int 1))))) (setM 5 (mutM 1 popAtD (consM (frzM (bin2 subD (varM 4) (retM (.d (.int 1))))) (retM [])))))
    (seqM (exprS (mutM 1 insD (consM (retM (.d (.int 0))) (consM (varM 5) (retM [])))))
    (exprS (mutM 2 appD (consM (varM 5) (retM []))))))) ρ := rfl
def f_row_of : M Fl :=
    (seqM (ifM (notM (testM (frzM (callM 1 F_can_be (consM (varM 0) (retM [])))))) (raiseM 4) (retM .nx))
    (seqM (setM 1 (lstM (retM [])))
    (seqM (setM 2 (lstM (retM [])))
    (seqM (setM 3 (dataM (retM (.d (.int 0)))))
    (seqM (forM (itM (varM 0)) (.one 4) b_row_of_1)
    (retO 2))))))
def F_row_of : Fn := bodyF 6 f_row_of
/-! can_count -/
def e_can_count_1 : M Av :=
    (andV (cmpM gtI (frzM (bin2 ixD (varM 0) (varM 1))) (retM (.d (.int 0)))) (cmpM gtI (varM 1) (frzM (bin2 ixD (varM 0) (retM (.d (.int 0)))))))
theorem e_can_count_1_ap (ρ : Ev) : e_can_count_1 ρ =
    (andV (cmpM gtI (frzM (bin2 ixD (varM 0) (varM 1))) (retM (.d (.int 0)))) (cmpM gtI (varM 1) (frzM (bin2 ixD (varM 0) (retM (.d (.int 0))))))) ρ := rfl
def f_can_count : M Fl :=
    (seqM (ifM (orM (notM (testM (varM 0))) (orM (cmpT ltI (frzM (biM (bestD PySem.W.minD) (consM (varM 0) (retM [])))) (retM (.d (.int 0)))) (orM (cmpT gtI (frzM (biM sumD (consM (varM 0) (retM [])))) (retM (.d (.int 24)))) (cmpT gtI (frzM (bin2 ixD (varM 0) (retM (.d (.int 0))))) (frzM (bin2 addD (retM (.d (.int 19))) (retM (.d (.int 1))))))))) (retS (dataM (retM (.d (.bool false))))) (retM .nx))
    (retS (dataM (notV (frzM (biM anyD (consM (frzM (lcM (rg2 (consM (retM (.d (.int 1))) (consM (lenM (varM 0)) (retM [])))) (.one 1) (retM true) e_can_count_1)) (retM []))))))))
def F_can_count : Fn := bodyF 2 f_can_count
/-! row_with -/
def b_row_with_1 : M Fl :=
    (exprS (mutM 1 extD (consM (frzM (bin2 mulD (frzM (lstM (consM (varM 2) (retM [])))) (frzM (bin2 ixD (varM 0) (varM 2))))) (retM []))))
theorem b_row_with_1_ap (ρ : Ev) : b_row_with_1 ρ =
    (exprS (mutM 1 extD (consM (frzM (bin2 mulD (frzM (lstM (consM (varM 2) (retM [])))) (frzM (bin2 ixD (varM 0) (varM 2))))) (retM [])))) ρ := rfl
def f_row_with : M Fl :=
    (seqM (ifM (notM (testM (frzM (callM 1 F_can_count (consM (varM 0) (retM [])))))) (raiseM 4) (retM .nx))
    (seqM (setM 1 (bin2 mulD (frzM (lstM (consM (retM (.d .none)) (retM [])))) (frzM (bin2 ixD (varM 0) (retM (.d (.int 0)))))))
    (seqM (forM (rg3 (consM (frzM (bin2 subD (lenM (varM 0)) (retM (.d (.int 1))))) (consM (retM (.d (.int 0))) (consM (frzM (un1 negD (retM (.d (.int 1))))) (retM []))))) (.one 2) b_row_with_1)
    (withS 1 (retS (callM 1 F_row_of (consM (varM 1) (retM []))))))))
def F_row_with : Fn := bodyF 3 f_row_with
/-! how_many -/
def e_how_many_1 : M Av :=
    (frzM (bin2 addD (frzM (bin2 mulD (frzM (bin2 ixD (varM 2) (varM 4))) (varM 4))) (ifM (cmpT gtI (varM 4) (retM (.d (.int 0)))) (frzM (bin2 ixD (varM 2) (frzM (bin2 subD (varM 4) (retM (.d (.int 1))))))) (retM (.d (.int 0))))))
theorem e_how_many_1_ap (ρ : Ev) : e_how_many_1 ρ =
    (frzM (bin2 addD (frzM (bin2 mulD (frzM (bin2 ixD (varM 2) (varM 4))) (varM 4))) (ifM (cmpT gtI (varM 4) (retM (.d (.int 0)))) (frzM (bin2 ixD (varM 2) (frzM (bin2 subD (varM 4) (retM (.d (.int 1))))))) (retM (.d (.int 0)))))) ρ := rfl
def b_how_many_1 : M Fl :=
    (setM 2 (lcM (rg1 (consM (frzM (bin2 addD (varM 0) (retM (.d (.int 1))))) (retM []))) (.one 4) (retM true) e_how_many_1))
theorem b_how_many_1_ap (ρ : Ev) : b_how_many_1 ρ =
    (setM 2 (lcM (rg1 (consM (frzM (bin2 addD (varM 0) (retM (.d (.int 1))))) (retM []))) (.one 4) (retM true) e_how_many_1)) ρ := rfl
def f_how_many : M Fl :=
    (seqM (ifM (orM (notM (chainT leI leI (retM (.d (.int 0))) (varM 1) (retM (.d (.int 24))))) (notM (chainT leI leI (retM (.d (.int 0))) (varM 0) (frzM (biM (two2 fun i j => if j < i then j else i) (consM (varM 1) (consM (frzM (bin2 addD (retM (.d (.int 19))) (retM (.d (.int 1))))) (retM [])))))))) (raiseM 4) (retM .nx))
    (seqM (setM 2 (bin2 addD (frzM (lstM (consM (retM (.d (.int 1))) (retM [])))) (frzM (bin2 mulD (frzM (lstM (consM (retM (.d (.int 0))) (retM [])))) (varM 0)))))
    (seqM (forM (rg1 (consM (varM 1) (retM []))) (.one 3) b_how_many_1)
    (retS (bin2 ixD (varM 2) (varM 0))))))
def F_how_many : Fn := bodyF 5 f_how_many
/-! woven -/
def b_woven_1 : M Fl :=
    (exprS (mutM 4 appD (consM (frzM (bin2 ixD (frzM (bin2 ixD (varM 3) (varM 5))) (meM (lookD countD) (frzM (sliceM (varM 2) partN (partS (lenM (varM 4))))) (consM (varM 5) (retM []))))) (retM []))))
theorem b_woven_1_ap (ρ : Ev) : b_woven_1 ρ =
    (exprS (mutM 4 appD (consM (frzM (bin2 ixD (frzM (bin2 ixD (varM 3) (varM 5))) (meM (lookD countD) (frzM (sliceM (varM 2) partN (partS (lenM (varM 4))))) (consM (varM 5) (retM []))))) (retM [])))) ρ := rfl
def f_woven : M Fl :=
    (seqM (setM 3 (lstM (consM (frzM (callM 1 F_apart (consM (varM 0) (retM [])))) (consM (frzM (callM 1 F_apart (consM (varM 1) (retM [])))) (retM [])))))
    (seqM (ifM (cmpT neD (frzM (biM sortD (consM (varM 2) (retM [])))) (frzM (bin2 addD (frzM (bin2 mulD (frzM (lstM (consM (retM (.d (.int 0))) (retM [])))) (lenM (varM 0)))) (frzM (bin2 mulD (frzM (lstM (consM (retM (.d (.int 1))) (retM [])))) (lenM (varM 1))))))) (raiseM 5) (retM .nx))
    (seqM (setIt 3 (frzM (biM listD (consM (varM 0) (retM [])))) (retM (.d (.int 0))))
    (seqM (setM 4 (lstM (retM [])))
    (seqM (forM (itM (varM 2)) (.one 5) b_woven_1)
    (seqM (withS 4 (exprS (callM 1 F_look_row (consM (varM 4) (retM [])))))
    (retO 4)))))))
def F_woven : Fn := bodyF 6 f_woven
/-! shared -/
def f_shared : M Fl :=
    (seqM (exprS (callM 1 F_look_room (consM (varM 3) (retM []))))
    (retS (bin2 ixD (frzM (callM 2 F_curve (consM (retM (.d (.str "last"))) (consM (frzM (callM 3 F_woven (consM (varM 0) (consM (varM 1) (consM (varM 2) (retM [])))))) (retM []))))) (varM 3))))
def F_shared : Fn := bodyF 4 f_shared
/-! parted -/
def f_parted : M Fl :=
    (seqM (exprS (callM 1 F_look_room (consM (varM 2) (retM []))))
    (seqM (exprS (callM 1 F_look_room (consM (varM 3) (retM []))))
    (retS (bin2 addD (frzM (bin2 ixD (frzM (callM 2 F_curve (consM (retM (.d (.str "last"))) (consM (varM 0) (retM []))))) (varM 2))) (frzM (bin2 ixD (frzM (callM 2 F_curve (consM (retM (.d (.str "last"))) (consM (varM 1) (retM []))))) (varM 3)))))))
def F_parted : Fn := bodyF 4 f_parted
/-! best_parting -/
def e_best_parting_1 : M Av :=
    (tupM (consM (frzM (callM 4 F_parted (consM (varM 0) (consM (varM 1) (consM (varM 5) (consM (frzM (bin2 subD (varM 2) (varM 5))) (retM []))))))) (consM (varM 5) (retM []))))
theorem e_best_parting_1_ap (ρ : Ev) : e_best_parting_1 ρ =
    (tupM (consM (frzM (callM 4 F_parted (consM (varM 0) (consM (varM 1) (consM (varM 5) (consM (frzM (bin2 subD (varM 2) (varM 5))) (retM []))))))) (consM (varM 5) (retM [])))) ρ := rfl
def f_best_parting : M Fl :=
    (seqM (exprS (callM 1 F_look_room (consM (varM 2) (retM []))))
    (seqM (setM 3 (lcM (rg1 (consM (frzM (bin2 addD (varM 2) (retM (.d (.int 1))))) (retM []))) (.one 5) (retM true) e_best_parting_1))
    (seqM (asgM (frzM (biM (bestD PySem.W.minD) (consM (varM 3) (retM [])))) (.tup [4, 5]))
    (retS (dataM (tupM (consM (varM 5) (consM (varM 4) (retM [])))))))))
def F_best_parting : Fn := bodyF 6 f_best_parting
/-! best_of_many -/
def e_best_of_many_1 : M Av :=
    (frzM (bin2 ixD (varM 2) (frzM (bin2 subD (varM 6) (varM 8)))))
theorem e_best_of_many_1_ap (ρ : Ev) : e_best_of_many_1 ρ =
    (frzM (bin2 ixD (varM 2) (frzM (bin2 subD (varM 6) (varM 8))))) ρ := rfl
def e_best_of_many_2 : M Av :=
    (tupM (consM (frzM (bin2 addD (frzM (bin2 ixD (frzM (bin2 ixD (varM 7) (varM 8))) (retM (.d (.int 0))))) (frzM (bin2 ixD (varM 4) (varM 8))))) (consM (frzM (bin2 addD (frzM (bin2 ixD (frzM (bin2 ixD (varM 7) (varM 8))) (retM (.d (.int 1))))) (frzM (lstM (consM (varM 8) (retM [])))))) (retM []))))
theorem e_best_of_many_2_ap (ρ : Ev) : e_best_of_many_2 ρ =
    (tupM (consM (frzM (bin2 addD (frzM (bin2 ixD (frzM (bin2 ixD (varM 7) (varM 8))) (retM (.d (.int 0))))) (frzM (bin2 ixD (varM 4) (varM 8))))) (consM (frzM (bin2 addD (frzM (bin2 ixD (frzM (bin2 ixD (varM 7) (varM 8))) (retM (.d (.int 1))))) (frzM (lstM (consM (varM 8) (retM [])))))) (retM [])))) ρ := rfl
def b_best_of_many_1 : M Fl :=
    (seqM (setM 7 (lcM (rg1 (consM (frzM (bin2 addD (varM 6) (retM (.d (.int 1))))) (retM []))) (.one 8) (retM true) e_best_of_many_1))
    (exprS (mutM 5 appD (consM (frzM (biM (bestD PySem.W.minD) (consM (frzM (lcM (rg1 (consM (frzM (bin2 addD (varM 6) (retM (.d (.int 1))))) (retM []))) (.one 8) (retM true) e_best_of_many_2)) (retM [])))) (retM [])))))
theorem b_best_of_many_1_ap (ρ : Ev) : b_best_of_many_1 ρ =
    (seqM (setM 7 (lcM (rg1 (consM (frzM (bin2 addD (varM 6) (retM (.d (.int 1))))) (retM []))) (.one 8) (retM true) e_best_of_many_1))
    (exprS (mutM 5 appD (consM (frzM (biM (bestD PySem.W.minD) (consM (frzM (lcM (rg1 (consM (frzM (bin2 addD (varM 6) (retM (.d (.int 1))))) (retM []))) (.one 8) (retM true) e_best_of_many_2)) (retM [])))) (retM []))))) ρ := rfl
def b_best_of_many_2 : M Fl :=
    (seqM (setM 4 (callM 2 F_curve (consM (retM (.d (.str "last"))) (consM (varM 3) (retM [])))))
    (seqM (setM 5 (lstM (retM [])))
    (seqM (forM (rg1 (consM (frzM (bin2 addD (varM 1) (retM (.d (.int 1))))) (retM []))) (.one 6) b_best_of_many_1)
    (withS 5 (setM 2 (dataM (varM 5)))))))
theorem b_best_of_many_2_ap (ρ : Ev) : b_best_of_many_2 ρ =
    (seqM (setM 4 (callM 2 F_curve (consM (retM (.d (.str "last"))) (consM (varM 3) (retM [])))))
    (seqM (setM 5 (lstM (retM [])))
    (seqM (forM (rg1 (consM (frzM (bin2 addD (varM 1) (retM (.d (.int 1))))) (retM []))) (.one 6) b_best_of_many_1)
    (withS 5 (setM 2 (dataM (varM 5))))))) ρ := rfl
def f_best_of_many : M Fl :=
    (seqM (exprS (callM 1 F_look_room (consM (varM 1) (retM []))))
    (seqM (setM 2 (bin2 mulD (frzM (lstM (consM (tupM (consM (retM (.d (.int 0))) (consM (frzM (lstM (retM []))) (retM [])))) (retM [])))) (frzM (bin2 addD (varM 1) (retM (.d (.int 1)))))))
    (seqM (forM (itM (varM 0)) (.one 3) b_best_of_many_2)
    (retS (dataM (tupM (consM (frzM (bin2 ixD (frzM (bin2 ixD (varM 2) (varM 1))) (retM (.d (.int 1))))) (consM (frzM (bin2 ixD (frzM (bin2 ixD (varM 2) (varM 1))) (retM (.d (.int 0))))) (retM [])))))))))
def F_best_of_many : Fn := bodyF 9 f_best_of_many
/-! levels -/
def b_levels_1 : M Fl :=
    (seqM (exprS (mutM 5 appD (consM (ifM (cmpT inD (varM 6) (varM 3)) (retM (.d (.str "near"))) (ifM (cmpT inD (varM 6) (varM 4)) (retM (.d (.str "far"))) (retM (.d (.str "none"))))) (retM []))))
    (seqM (withS 3 (setM 3 (bin2 addD (frzM (lstM (consM (varM 6) (retM [])))) (frzM (lcM (itM (varM 3)) (.one 7) (cmpT neD (varM 7) (varM 6)) (varM 7))))))
    (seqM (withS 4 (setM 4 (bin2 addD (frzM (sliceM (varM 3) (partS (varM 0)) partN)) (frzM (lcM (itM (varM 4)) (.one 7) (cmpT neD (varM 7) (varM 6)) (varM 7))))))
    (seqM (setM 3 (sliceM (varM 3) partN (partS (varM 0))))
    (setM 4 (sliceM (varM 4) partN (partS (varM 1))))))))
theorem b_levels_1_ap (ρ : Ev) : b_levels_1 ρ =
    (seqM (exprS (mutM 5 appD (consM (ifM (cmpT inD (varM 6) (varM 3)) (retM (.d (.str "near"))) (ifM (cmpT inD (varM 6) (varM 4)) (retM (.d (.str "far"))) (retM (.d (.str "none"))))) (retM []))))
    (seqM (withS 3 (setM 3 (bin2 addD (frzM (lstM (consM (varM 6) (retM [])))) (frzM (lcM (itM (varM 3)) (.one 7) (cmpT neD (varM 7) (varM 6)) (varM 7))))))
    (seqM (withS 4 (setM 4 (bin2 addD (frzM (sliceM (varM 3) (partS (varM 0)) partN)) (frzM (lcM (itM (varM 4)) (.one 7) (cmpT neD (varM 7) (varM 6)) (varM 7))))))
    (seqM (setM 3 (sliceM (varM 3) partN (partS (varM 0))))
    (setM 4 (sliceM (varM 4) partN (partS (varM 1)))))))) ρ := rfl
def f_levels : M Fl :=
    (seqM (exprS (callM 1 F_look_room (consM (varM 0) (retM []))))
    (seqM (exprS (callM 1 F_look_room (consM (varM 1) (retM []))))
    (seqM (exprS (callM 1 F_look_row (consM (varM 2) (retM []))))
    (seqM (setM 3 (lstM (retM [])))
    (seqM (setM 4 (lstM (retM [])))
    (seqM (setM 5 (lstM (retM [])))
    (seqM (forM (itM (varM 2)) (.one 6) b_levels_1)
    (retO 5))))))))
def F_levels : Fn := bodyF 8 f_levels
/-! filtered -/
def t_filtered_1 : M Bool :=
    (notM (testM (frzM (bin2 ixD (varM 2) (varM 3)))))
theorem t_filtered_1_ap (ρ : Ev) : t_filtered_1 ρ =
    (notM (testM (frzM (bin2 ixD (varM 2) (varM 3))))) ρ := rfl
def f_filtered : M Fl :=
    (seqM (setM 2 (callM 3 F_run (consM (retM (.d (.str "last"))) (consM (varM 0) (consM (varM 1) (retM []))))))
    (retS (lcM (rg1 (consM (lenM (varM 1)) (retM []))) (.one 3) t_filtered_1 (frzM (bin2 ixD (varM 1) (varM 3))))))
def F_filtered : Fn := bodyF 4 f_filtered
/-! below -/
def b_below_1 : M Fl :=
    (seqM (setM 7 (dataM (meM (lookD countD) (frzM (sliceM (varM 3) partN (partS (varM 6)))) (consM (retM (.d (.bool false))) (retM [])))))
    (exprS (mutM 5 appD (consM (ifM (testM (frzM (bin2 ixD (varM 3) (varM 6)))) (retM (.d (.str "near"))) (ifM (testM (frzM (bin2 ixD (varM 4) (varM 7)))) (retM (.d (.str "far"))) (retM (.d (.str "none"))))) (retM [])))))
theorem b_below_1_ap (ρ : Ev) : b_below_1 ρ =
    (seqM (setM 7 (dataM (meM (lookD countD) (frzM (sliceM (varM 3) partN (partS (varM 6)))) (consM (retM (.d (.bool false))) (retM [])))))
    (exprS (mutM 5 appD (consM (ifM (testM (frzM (bin2 ixD (varM 3) (varM 6)))) (retM (.d (.str "near"))) (ifM (testM (frzM (bin2 ixD (varM 4) (varM 7)))) (retM (.d (.str "far"))) (retM (.d (.str "none"))))) (retM []))))) ρ := rfl
def f_below : M Fl :=
    (seqM (exprS (callM 1 F_look_room (consM (varM 0) (retM []))))
    (seqM (exprS (callM 1 F_look_room (consM (varM 1) (retM []))))
    (seqM (exprS (callM 1 F_look_row (consM (varM 2) (retM []))))
    (seqM (setM 3 (callM 3 F_run (consM (retM (.d (.str "last"))) (consM (varM 0) (consM (varM 2) (retM []))))))
    (seqM (setM 4 (callM 3 F_run (consM (retM (.d (.str "last"))) (consM (varM 1) (consM (frzM (callM 2 F_filtered (consM (varM 0) (consM (varM 2) (retM []))))) (retM []))))))
    (seqM (setM 5 (lstM (retM [])))
    (seqM (forM (rg1 (consM (lenM (varM 2)) (retM []))) (.one 6) b_below_1)
    (retO 5))))))))
def F_below : Fn := bodyF 8 f_below
end G8
namespace G8
open PySem L2
/-! what the common parts of the laws do -/
theorem draw_eq (ns : List Int) (xs : List Dt) (m : Int) (hm : 0 < m) (hk : xs.length < 999999) : F__law_draw [.scr ns, .ls true xs, .d (.int m)] = .ok (.d (.int (drw ns (xs.length + 1) m))) [none, some (.ls true (xs ++ [.int 0])), none] := Fdraw_eq ns xs m hm hk
def wordN : Nat → Str
  | 0 => "row"
  | 1 => "room"
  | 2 => "rule"
  | 3 => "plan"
  | 4 => "depths"
  | 5 => "turns"
  | 6 => "ask"
  | _ => "text"
def refD (k : Nat) : Dt := .tuple [.str "refused", .str (wordN k)]
theorem refusal_eq (k : Nat) (h : k < 8) : F__law_refusal [.ex k] = .ok (.d (refD k)) [none] := by
  match k, h with
  | 0, _ => rfl
  | 1, _ => rfl
  | 2, _ => rfl
  | 3, _ => rfl
  | 4, _ => rfl
  | 5, _ => rfl
  | 6, _ => rfl
  | 7, _ => rfl
  | k + 8, h => omega
/-! depths.how_many -/
def stir : Nat → Nat → Nat
  | 0, 0 => 1
  | 0, _ + 1 => 0
  | _ + 1, 0 => 0
  | k + 1, m + 1 => stir k (m + 1) * (m + 1) + stir k m
theorem stir_big : ∀ (k m : Nat), k < m → stir k m = 0
  | 0, m + 1, _ => rfl
  | k + 1, m + 1, h => by
    rw [stir, stir_big k (m + 1) (by omega), stir_big k m (by omega)]
    simp
def ways (k f : Nat) : List Dt := (List.range (f + 1)).map fun m => PyData.int ((stir k m : Nat) : Int)
theorem ways_len (k f : Nat) : (ways k f).length = f + 1 := by simp [ways]
theorem ways_at (k f m : Nat) (h : m ≤ f) : atI (ways k f) (m : Int) = some (.int (stir k m : Nat)) := by
  rw [G8.atI_nat, ways, List.getElem?_map, List.getElem?_range (by omega)]
  rfl
theorem ways0 (f : Nat) : PyData.int 1 :: List.replicate f (PyData.int 0) = ways 0 f := by
  apply List.ext_getElem?
  intro i
  cases i with
  | zero => simp [ways, stir]
  | succ i =>
    by_cases h : i < f
    · simp [ways, List.getElem?_replicate, h, stir]
    · simp [ways, List.getElem?_replicate, h]
theorem how_step (f a k m : Nat) (x3 : Option Sv) (hm : m ≤ f) (hf : f ≤ 20) : stepL (.one 4) (retM true) e_how_many_1 (.int (m : Int)) [some (.d (.int f)), some (.d (.int a)), some (.ls false (ways k f)), x3, none]
    = .ok (some (.int (stir (k + 1) m : Nat))) [some (.d (.int f)), some (.d (.int a)), some (.ls false (ways k f)), x3, none] := by
  have sm : G8.small64 (m : Int) = true := small_nat (by omega)
  have w1 := ways_at k f m hm
  cases m with
  | zero =>
    simp at sm w1
    simp [stepL_ap, e_how_many_1, w1, sm, stir]
  | succ m =>
    have w2 := ways_at k f m (by omega)
    have e1 : ((m : Int) + 1 - 1) = m := by omega
    simp at w1 sm
    have p1 : (0 : Int) < (m : Int) + 1 := by omega
    simp [stepL_ap, e_how_many_1, w1, sm, w2, e1, stir, p1]
theorem how_ok (f a : Nat) (ha : a ≤ 24) (hf : f ≤ a) (hf2 : f ≤ 20) : F_how_many [.d (.int f), .d (.int a)] = .ok (.d (.int (stir a f : Nat))) [none, none] := by
  have hm : mid (a : Int) = true := mid_nat (by omega)
  have hm1 : mid ((f : Int) + 1) = true := mid_nat (n := f + 1) (by omega)
  have c0 : (a : Int) ≤ 24 := by omega
  have c1 : (f : Int) ≤ (if (20 : Int) < (a : Int) then (20 : Int) else (a : Int)) := by split <;> omega
  have c2 : (f : Int) ≤ 1000 := by omega
  have c3 : mid (f : Int) = true := mid_nat (by omega)
  have c5 : (List.replicate f [PyData.int 0]).flatten = List.replicate f (PyData.int 0) := by simp
  have c4 : 1 + f ≤ 1000000 := by omega
  have t1 : ((f : Int) + 1).toNat = f + 1 := by omega
  have wl := ways_at a f f (Nat.le_refl f)
  obtain ⟨ρ', h1, x3, h2, h3⟩ := forL_inv (t := .one 3) (body := b_how_many_1) (fun (i : Nat) => PyData.int (i : Int)) (fun k ρ => ∃ x3, ownAt (some x3) = false ∧ ρ = [some (.d (.int f)), some (.d (.int a)), some (.ls false (ways k f)), x3, none]) (List.range a) 0
    [some (.d (.int f)), some (.d (.int a)), some (.ls false (ways 0 f)), none, none] ⟨none, rfl, rfl⟩ (by
      rintro i x ρ hx ⟨x3, h3, rfl⟩
      refine ⟨_, .inl ?_, some (.d (.int x)), rfl, rfl⟩
      have cp := compL_map (t := .one 4) (ft := retM true) (fe := e_how_many_1) (ρ := [some (.d (.int f)), some (.d (.int a)), some (.ls false (ways (0 + i) f)), some (.d (.int x)), none]) (fun (i : Nat) => PyData.int (i : Int)) (fun m => .int (stir (0 + i + 1) m : Nat)) (List.range (f + 1)) (by simp; omega)
        (fun m hm => how_step f a (0 + i) m _ (by simp at hm; omega) hf2)
      rw [show (List.range (f + 1)).map (fun m => PyData.int ((stir (0 + i + 1) m : Nat) : Int)) = ways (0 + i + 1) f from rfl] at cp
      simp only [Nat.zero_add] at cp ⊢
      simp [roundM_ap, b_how_many_1, h3, hm1, rangeD0, cp, t1])
  subst h3
  simp at h1
  simp [F_how_many, f_how_many, bodyF_ap, c0, c1, c2, c3, c4, c5, hm, rangeD0, h1, ways0, wl]
theorem how_bad (f a : Int) (h : ¬ (0 ≤ a ∧ a ≤ 24 ∧ 0 ≤ f ∧ f ≤ a ∧ f ≤ 20)) : F_how_many [.d (.int f), .d (.int a)] = .err 4 [none, none] := by
  by_cases h1 : 0 ≤ a
  · by_cases h2 : a ≤ 24
    · by_cases h3 : 0 ≤ f
      · have c1 : ¬ f ≤ (if (20 : Int) < a then (20 : Int) else a) := by split <;> omega
        simp [F_how_many, f_how_many, bodyF_ap, h1, h2, h3, c1]
      · simp [F_how_many, f_how_many, bodyF_ap, h1, h2, h3]
    · simp [F_how_many, f_how_many, bodyF_ap, h1, h2]
  · simp [F_how_many, f_how_many, bodyF_ap, h1]
end G8
namespace G8
open PySem L2
/-! rows -/
def il (xs : List Int) : Dt := .list (xs.map PyData.int)
theorem il_eq (xs : List Int) : il xs = .list (xs.map PyData.int) := rfl
theorem nice_il (n : Nat) (xs : List Int) : nice (n + 1) (il xs) := nice_ints n xs
def okName (n : Int) : Prop := 0 ≤ n ∧ n ≤ 19
instance (n : Int) : Decidable (okName n) := by unfold okName; infer_instance
def okRow (xs : List Int) : Prop := xs.length ≤ 24 ∧ ∀ x ∈ xs, okName x
instance (xs : List Int) : Decidable (okRow xs) := by unfold okRow; infer_instance
theorem look_name_ok {n : Int} (h : okName n) : F_look_name [.d (.int n)] = .ok (.d .none) [none] := by
  simp [F_look_name, f_look_name, bodyF_ap, h.1, h.2]
theorem look_name_bad {n : Int} (h : ¬ okName n) : F_look_name [.d (.int n)] = .err 0 [none] := by
  unfold okName at h
  by_cases h1 : 0 ≤ n
  · have h2 : ¬ n ≤ 19 := fun z => h ⟨h1, z⟩
    simp [F_look_name, f_look_name, bodyF_ap, h1, h2]
  · simp [F_look_name, f_look_name, bodyF_ap, h1]
theorem look_loop (r : Dt) : ∀ (xs : List Int) (x1 : Option Sv), ownAt (some x1) = false → ∃ x1', forL (.one 1) b_look_row_1 (xs.map PyData.int) [some (.d r), x1] = if (∀ x ∈ xs, okName x) then .ok .nx [some (.d r), x1'] else .err 0 [some (.d r), x1']
  | [], x1, _ => ⟨x1, by simp⟩
  | x :: xs, x1, h => by
    by_cases hx : okName x
    · obtain ⟨x1', e⟩ := look_loop r xs (some (.d (.int x))) rfl
      refine ⟨x1', ?_⟩
      rw [List.map_cons, forL_round]
      simp [roundM_ap, b_look_row_1_ap, h, look_name_ok hx, e, hx]
    · refine ⟨some (.d (.int x)), ?_⟩
      rw [List.map_cons, forL_round]
      simp [roundM_ap, b_look_row_1_ap, h, look_name_bad hx, hx]
theorem look_row_ok {xs : List Int} (h : okRow xs) : F_look_row [.d (il xs)] = .ok (.d .none) [none] := by
  obtain ⟨x1', e⟩ := look_loop (.list (xs.map PyData.int)) xs none rfl
  rw [if_pos h.2] at e
  have h1 : ¬ (24 : Int) < (xs.length : Int) := by have := h.1; omega
  simp [F_look_row, f_look_row, bodyF_ap, il, e, h1]
theorem look_row_bad {xs : List Int} (h : ¬ okRow xs) : F_look_row [.d (il xs)] = .err 0 [none] := by
  obtain ⟨x1', e⟩ := look_loop (.list (xs.map PyData.int)) xs none rfl
  by_cases hl : xs.length ≤ 24
  · have h1 : ¬ (24 : Int) < (xs.length : Int) := by omega
    rw [if_neg (fun z => h ⟨hl, z⟩)] at e
    simp [F_look_row, f_look_row, bodyF_ap, il, e, h1]
  · have h1 : (24 : Int) < (xs.length : Int) := by omega
    simp [F_look_row, f_look_row, bodyF_ap, il, h1]
theorem look_room_ok {n : Int} (h : 0 ≤ n ∧ n ≤ 12) : F_look_room [.d (.int n)] = .ok (.d .none) [none] := by
  simp [F_look_room, f_look_room, bodyF_ap, h.1, h.2]
theorem look_room_bad {n : Int} (h : ¬ (0 ≤ n ∧ n ≤ 12)) : F_look_room [.d (.int n)] = .err 1 [none] := by
  by_cases h1 : 0 ≤ n
  · have h2 : ¬ n ≤ 12 := fun z => h ⟨h1, z⟩
    simp [F_look_room, f_look_room, bodyF_ap, h1, h2]
  · simp [F_look_room, f_look_room, bodyF_ap, h1]
/-! names, in the order of first asks -/
def uniq : List Int → List Int → List Int
  | [], acc => acc
  | x :: xs, acc => uniq xs (if x ∈ acc then acc else acc ++ [x])
theorem names_loop (r : Dt) : ∀ (xs acc : List Int) (x2 : Option Sv), acc.length + xs.length < 1000000 → ownAt (some x2) = false →
    ∃ x2', forL (.one 2) b_names_1 (xs.map PyData.int) [some (.d r), some (.ls false (acc.map PyData.int)), x2] = .ok .nx [some (.d r), some (.ls false ((uniq xs acc).map PyData.int)), x2']
  | [], acc, x2, _, _ => ⟨x2, by simp [uniq]⟩
  | x :: xs, acc, x2, hl, h => by
    have hi := ninD_ints x acc
    by_cases hx : x ∈ acc
    · obtain ⟨x2', e⟩ := names_loop r xs acc (some (.d (.int x))) (by simp at hl; omega) rfl
      refine ⟨x2', ?_⟩
      rw [List.map_cons, forL_round]
      simp [hx] at hi
      simp [roundM_ap, b_names_1_ap, h, hi, e, uniq, hx]
    · obtain ⟨x2', e⟩ := names_loop r xs (acc ++ [x]) (some (.d (.int x))) (by simp at hl ⊢; omega) rfl
      refine ⟨x2', ?_⟩
      rw [List.map_cons, forL_round]
      simp [hx] at hi
      have h3 : acc.length < 1000000 := by simp at hl; omega
      simp at e
      simp [roundM_ap, b_names_1_ap, h, hi, e, uniq, hx, appD, h3]
theorem names_ok {xs : List Int} (h : okRow xs) : F_names [.d (il xs)] = .ok (.l ((uniq xs []).map PyData.int)) [none] := by
  obtain ⟨x2', e⟩ := names_loop (.list (xs.map PyData.int)) xs [] none (by have := h.1; simp; omega) rfl
  have l := look_row_ok h
  simp [il] at l
  simp at e
  simp [F_names, f_names, bodyF_ap, il, l, e]
theorem names_bad {xs : List Int} (h : ¬ okRow xs) : F_names [.d (il xs)] = .err 0 [none] := by
  have l := look_row_bad h
  simp [il] at l
  simp [F_names, f_names, bodyF_ap, il, l]
end G8
namespace G8
open PySem L2
/-! lists of ints as data -/
theorem atI_ints {xs : List Int} {k : Nat} {x : Int} (h : xs[k]? = some x) : atI (xs.map PyData.int) (k : Int) = some (.int x) := by
  rw [G8.atI_nat, List.getElem?_map, h]
  rfl
theorem countD_ints (xs : List Int) (x : Int) : countD (xs.map PyData.int) (.int x) = some ((xs.count x : Nat) : Int) := by
  unfold countD
  rw [List.countP_map]
  congr 3
theorem indexD_ints {xs : List Int} {x : Int} (h : x ∈ xs) : indexD (xs.map PyData.int) (.int x) = some ((xs.idxOf x : Nat) : Int) := by
  unfold indexD SeqAt.dataPlace
  rw [List.findIdx?_map]
  have e : (fun y => PyData.eqv y (PyData.int x)) ∘ PyData.int = fun y => y == x := by
    funext y
    rw [Function.comp_apply, eqv_ii]
    by_cases q : y = x <;> simp [q]
  rw [e, List.findIdx?_eq_some_of_exists ⟨x, h, by simp⟩]
  rfl
theorem cut_take {xs : List Dt} (k : Nat) : cutD xs none (some (k : Int)) = xs.take k := by
  unfold cutD
  rw [HT.sIx_none, HT.sIx_nat]
  simp [List.take_eq_take_iff]
theorem cut_drop {xs : List Dt} (k : Nat) : cutD xs (some (k : Int)) none = xs.drop k := by
  unfold cutD
  rw [HT.sIx_none, HT.sIx_nat]
  by_cases h : k ≤ xs.length
  · rw [Nat.min_eq_left h, List.take_of_length_le (by simp)]
  · rw [Nat.min_eq_right (by omega), List.drop_eq_nil_of_le (Nat.le_refl _), List.drop_eq_nil_of_le (by omega)]
    simp
theorem alikeB_ints (xs : List Int) : alikeB (xs.map PyData.int) = true := by
  unfold alikeB
  rw [Bool.and_eq_true, List.all_eq_true, List.all_eq_true]
  refine ⟨fun x hx => List.all_eq_true.mpr fun y hy => ?_, fun x hx => ?_⟩
  · obtain ⟨i, _, rfl⟩ := List.mem_map.mp hx
    obtain ⟨j, _, rfl⟩ := List.mem_map.mp hy
    rw [PySem.W.alike]
  · obtain ⟨i, _, rfl⟩ := List.mem_map.mp hx
    rfl
theorem max_ints (x : Int) (xs : List Int) : bestD PySem.W.maxD [.list (.int x :: xs.map PyData.int)] = some (.d (.int (xs.foldl max x))) := by
  have e1 : alikeB (.int x :: xs.map PyData.int) = true := alikeB_ints (x :: xs)
  have e2 : shalL (.int x :: xs.map PyData.int) = true := shalL_ints (x :: xs)
  show (if shalL (.int x :: xs.map PyData.int) && alikeB (.int x :: xs.map PyData.int) then some (Rv.d (PySem.W.maxD (.int x) (xs.map PyData.int))) else none) = _
  rw [e1, e2, PySem.W.maxD_ints]
  rfl
theorem min_ints (x : Int) (xs : List Int) : bestD PySem.W.minD [.list (.int x :: xs.map PyData.int)] = some (.d (.int (xs.foldl min x))) := by
  have e1 : alikeB (.int x :: xs.map PyData.int) = true := alikeB_ints (x :: xs)
  have e2 : shalL (.int x :: xs.map PyData.int) = true := shalL_ints (x :: xs)
  show (if shalL (.int x :: xs.map PyData.int) && alikeB (.int x :: xs.map PyData.int) then some (Rv.d (PySem.W.minD (.int x) (xs.map PyData.int))) else none) = _
  rw [e1, e2, PySem.W.minD_ints]
  rfl
/-! caches.last_of, next_of -/
def occ (row : List Int) (k : Nat) (x : Int) : List Nat := (List.range k).filter fun j => decide (row[j]? = some x)
def lastIx (row : List Int) (k : Nat) (x : Int) : Nat := (occ row k x).getLastD 0
theorem foldl_max_last : ∀ (xs : List Nat) (x : Nat), (x :: xs).Pairwise (· < ·) → (xs.map fun (i : Nat) => (i : Int)).foldl max (x : Int) = ((xs.getLastD x : Nat) : Int)
  | [], x, _ => rfl
  | y :: ys, x, h => by
    have h1 : x < y := (List.pairwise_cons.mp h).1 y (List.mem_cons_self ..)
    rw [List.map_cons, List.foldl_cons, show max (x : Int) (y : Int) = (y : Int) by omega, foldl_max_last ys y (List.pairwise_cons.mp h).2]
    cases ys <;> rfl
theorem last_step (row : List Int) (k : Nat) (x : Int) (j : Nat) (hj : j < row.length) : stepL (.one 3) t_last_of_1 (varM 3) (.int (j : Int)) [some (.d (il row)), some (.d (.int (k : Int))), some (.d (.int x)), none]
    = .ok (if row[j]? = some x then some (.int (j : Int)) else none) [some (.d (il row)), some (.d (.int (k : Int))), some (.d (.int x)), none] := by
  have e := atI_ints (List.getElem?_eq_getElem hj)
  rw [List.getElem?_eq_getElem hj]
  by_cases hx : row[j] = x
  · simp [stepL_ap, t_last_of_1_ap, il, e, hx]
  · simp [stepL_ap, t_last_of_1_ap, il, e, hx]
theorem last_of_ok (row : List Int) (k : Nat) (x : Int) (hk : k ≤ row.length) (hl : row.length ≤ 24) (hx : x ∈ row.take k) : F_last_of [.d (il row), .d (.int (k : Int)), .d (.int x)] = .ok (.d (.int (lastIx row k x : Nat))) [none, none, none] := by
  have hm : mid (k : Int) = true := mid_nat (by omega)
  have cp := compL_fmap (t := .one 3) (ft := t_last_of_1) (fe := varM 3) (ρ := [some (.d (il row)), some (.d (.int (k : Int))), some (.d (.int x)), none]) (fun (i : Nat) => PyData.int (i : Int)) (fun j => if row[j]? = some x then some (.int (j : Int)) else none) (List.range k) (by simp; omega)
    (fun j hj => last_step row k x j (by have := List.mem_range.mp hj; omega))
  have ef : (List.range k).filterMap (fun (j : Nat) => if row[j]? = some x then some (PyData.int (j : Int)) else none) = ((occ row k x).map fun (i : Nat) => (i : Int)).map PyData.int := by
    unfold occ
    rw [List.map_map, ← List.filterMap_eq_map, List.filterMap_filter]
    congr 1
    funext j
    by_cases h : row[j]? = some x <;> simp [h]
  rw [ef] at cp
  obtain ⟨y, ys, ho⟩ : ∃ y ys, occ row k x = y :: ys := by
    obtain ⟨j, hj, e⟩ := List.mem_iff_getElem.mp hx
    rw [List.length_take] at hj
    rw [List.getElem_take] at e
    have : j ∈ occ row k x := by
      unfold occ
      rw [List.mem_filter, List.mem_range, decide_eq_true_eq]
      exact ⟨by omega, by rw [List.getElem?_eq_getElem (by omega), e]⟩
    cases h : occ row k x with
    | nil => rw [h] at this; cases this
    | cons y ys => exact ⟨y, ys, rfl⟩
  have pw : (occ row k x).Pairwise (· < ·) := List.Pairwise.filter _ List.pairwise_lt_range
  rw [ho] at pw
  have mx := max_ints (y : Int) (ys.map fun (i : Nat) => (i : Int))
  rw [foldl_max_last ys y pw] at mx
  have el : lastIx row k x = ys.getLastD y := by
    unfold lastIx
    rw [ho]
    cases ys <;> rfl
  rw [ho] at cp
  simp only [List.map_cons] at cp mx
  rw [el]
  simp at cp mx
  simp [F_last_of, f_last_of, bodyF_ap, hm, rangeD0, cp, mx]
/-! stacks.moved, by any order -/
def lt2 (p q : Int × Int) : Bool := HT.lexLt [p.1, p.2] [q.1, q.2]
def mv (lt : Int → Int → Bool) (name : Int) : List Int → List Int → Option Int → List Int × Option Int
  | [], found, c => (found, c)
  | o :: rest, found, c => if o = name then (found, c) else (match c with
    | none => mv lt name rest found (some o)
    | some d => if lt o d then mv lt name rest (found ++ [d]) (some o) else mv lt name rest (found ++ [o]) (some d))
def moveP (lt : Int → Int → Bool) (name : Int) (stack : List Int) : List Int :=
  let r := mv lt name stack [name] none
  let f := r.1 ++ r.2.toList
  f ++ stack.drop f.length
def optI : Option Int → Dt
  | none => .none
  | some i => .int i
theorem moved_loop (rule : Str) (row : List Int) (k : Int) (name : Int) (st : Dt) (rk : Int → Int × Int) : ∀ (xs found : List Int) (c : Option Int) (x7 : Option Sv), found.length + xs.length < 1000000 → ownAt (some x7) = false →
    (∀ x, (x ∈ xs ∨ c = some x) → F_rank [.d (.str rule), .d (il row), .d (.int k), .d (.int x)] = .ok (.d (.tuple [.int (rk x).1, .int (rk x).2])) [none, none, none, none]) →
    ∃ x7', forL (.one 7) b_moved_1 (xs.map PyData.int) [some (.d (.str rule)), some (.d (il row)), some (.d (.int k)), some (.d st), some (.d (.int name)), some (.ls false (found.map PyData.int)), some (.d (optI c)), x7]
      = .ok .nx [some (.d (.str rule)), some (.d (il row)), some (.d (.int k)), some (.d st), some (.d (.int name)), some (.ls false ((mv (fun a b => lt2 (rk a) (rk b)) name xs found c).1.map PyData.int)), some (.d (optI (mv (fun a b => lt2 (rk a) (rk b)) name xs found c).2)), x7']
  | [], found, c, x7, _, _, _ => ⟨x7, by simp [mv]⟩
  | x :: xs, found, c, x7, hl, h, hr => by
    have hl1 : found.length < 1000000 := by simp at hl; omega
    by_cases hn : x = name
    · refine ⟨some (.d (.int x)), ?_⟩
      rw [List.map_cons, forL_round]
      simp [roundM_ap, b_moved_1_ap, h, hn, mv]
    · cases c with
      | none =>
        obtain ⟨x7', e⟩ := moved_loop rule row k name st rk xs found (some x) (some (.d (.int x))) (by simp at hl; omega) rfl (fun y hy => hr y (by
          rcases hy with hy | hy
          · exact .inl (List.mem_cons_of_mem _ hy)
          · cases hy; exact .inl (List.mem_cons_self ..)))
        refine ⟨x7', ?_⟩
        rw [List.map_cons, forL_round]
        simp [roundM_ap, b_moved_1_ap, h, hn, mv, optI]
        exact e
      | some d =>
        have r1 := hr x (.inl (List.mem_cons_self ..))
        have r2 := hr d (.inr rfl)
        by_cases hlt : lt2 (rk x) (rk d) = true
        · obtain ⟨x7', e⟩ := moved_loop rule row k name st rk xs (found ++ [d]) (some x) (some (.d (.int x))) (by simp at hl ⊢; omega) rfl (fun y hy => hr y (by
            rcases hy with hy | hy
            · exact .inl (List.mem_cons_of_mem _ hy)
            · cases hy; exact .inl (List.mem_cons_self ..)))
          refine ⟨x7', ?_⟩
          rw [List.map_cons, forL_round]
          unfold lt2 at hlt
          simp [roundM_ap, b_moved_1_ap, h, hn, mv, optI, r1, r2, intsOf, hlt, appD, hl1, lt2]
          simp [optI, lt2] at e
          exact e
        · obtain ⟨x7', e⟩ := moved_loop rule row k name st rk xs (found ++ [x]) (some d) (some (.d (.int x))) (by simp at hl ⊢; omega) rfl (fun y hy => hr y (by
            rcases hy with hy | hy
            · exact .inl (List.mem_cons_of_mem _ hy)
            · exact .inr hy))
          refine ⟨x7', ?_⟩
          rw [List.map_cons, forL_round]
          unfold lt2 at hlt
          simp [roundM_ap, b_moved_1_ap, h, hn, mv, optI, r1, r2, intsOf, hlt, appD, hl1, lt2]
          simp [optI, lt2] at e
          exact e
end G8
namespace G8
open PySem L2
theorem mv_len (lt : Int → Int → Bool) (name : Int) : ∀ (xs found : List Int) (c : Option Int), (mv lt name xs found c).1.length ≤ found.length + xs.length
  | [], found, c => by simp [mv]
  | x :: xs, found, c => by
    cases c with
    | none =>
      have h1 := mv_len lt name xs found (some x)
      by_cases h : x = name
      · simp [mv, h]
      · simp [mv, h]; omega
    | some d =>
      have h1 := mv_len lt name xs (found ++ [d]) (some x)
      have h2 := mv_len lt name xs (found ++ [x]) (some d)
      simp at h1 h2
      by_cases h : x = name
      · simp [mv, h]
      · by_cases hl : lt x d = true
        · simp [mv, h, hl]; omega
        · simp [mv, h, hl]; omega
theorem moved_ok (rule : Str) (row stack : List Int) (k : Nat) (name : Int) (rk : Int → Int × Int) (hk : row[k]? = some name) (hl : stack.length < 1000)
    (hr : ∀ x ∈ stack, F_rank [.d (.str rule), .d (il row), .d (.int (k : Int)), .d (.int x)] = .ok (.d (.tuple [.int (rk x).1, .int (rk x).2])) [none, none, none, none]) :
    F_moved [.d (.str rule), .d (il row), .d (.int (k : Int)), .d (il stack)] = .ok (.l ((moveP (fun a b => lt2 (rk a) (rk b)) name stack).map PyData.int)) [none, none, none, none] := by
  obtain ⟨x7', e⟩ := moved_loop rule row k name (il stack) rk stack [name] none none (by simp; omega) rfl (fun x hx => hr x (by
    rcases hx with hx | hx
    · exact hx
    · cases hx))
  have e1 := atI_ints hk
  have hlen := mv_len (fun a b => lt2 (rk a) (rk b)) name stack [name] none
  unfold moveP
  generalize hmv : mv (fun a b => lt2 (rk a) (rk b)) name stack [name] none = r at e hlen
  obtain ⟨f, c⟩ := r
  simp at hlen
  simp [il, optI] at e
  cases c with
  | none =>
    have sz : f.length + (stack.length - f.length) ≤ 1000000 := by omega
    have ct := cut_drop (xs := stack.map PyData.int) f.length
    simp [F_moved, f_moved, bodyF_ap, il, e1, e, optI, slD, ct, sz]
  | some d =>
    have h1 : f.length < 1000000 := by omega
    have sz : f.length + 1 + (stack.length - (f.length + 1)) ≤ 1000000 := by omega
    have ct := cut_drop (xs := stack.map PyData.int) (f.length + 1)
    simp at ct
    simp [F_moved, f_moved, bodyF_ap, il, e1, e, optI, slD, appD, h1, ct, sz]
/-! stacks.walked -/
/-- the stack ahead of each ask, by an order for each time -/
def stackAt (lt : Nat → Int → Int → Bool) (row : List Int) : Nat → List Int
  | 0 => []
  | k + 1 => match row[k]? with
    | some name => moveP (lt k) name (stackAt lt row k)
    | none => stackAt lt row k
def depthAt (lt : Nat → Int → Int → Bool) (row : List Int) (k : Nat) : Option Int := match row[k]? with
  | some name => if name ∈ stackAt lt row k then some ((stackAt lt row k).idxOf name + 1 : Nat) else none
  | none => none
def ol (xs : List (Option Int)) : Dt := .list (xs.map optI)
def depthsP (lt : Nat → Int → Int → Bool) (row : List Int) (n : Nat) : List (Option Int) := (List.range n).map (depthAt lt row)
theorem depthsP_succ (lt : Nat → Int → Int → Bool) (row : List Int) (n : Nat) : depthsP lt row (n + 1) = depthsP lt row n ++ [depthAt lt row n] := by
  unfold depthsP
  rw [List.range_succ, List.map_append]
  rfl
theorem walked_ok (rule : Str) (row : List Int) (rk : Nat → Int → Int × Int) (hl : row.length ≤ 24) (hst : ∀ k, k ≤ row.length → (stackAt (fun k a b => lt2 (rk k a) (rk k b)) row k).length < 1000)
    (hr : ∀ k, k < row.length → ∀ x ∈ stackAt (fun k a b => lt2 (rk k a) (rk k b)) row k, F_rank [.d (.str rule), .d (il row), .d (.int (k : Int)), .d (.int x)] = .ok (.d (.tuple [.int (rk k x).1, .int (rk k x).2])) [none, none, none, none]) :
    F_walked [.d (.str rule), .d (il row)] = .ok (.d (.tuple [ol (depthsP (fun k a b => lt2 (rk k a) (rk k b)) row row.length), il (stackAt (fun k a b => lt2 (rk k a) (rk k b)) row row.length)])) [none, none] := by
  have hm : mid (row.length : Int) = true := mid_nat (by omega)
  generalize hlt : (fun k a b => lt2 (rk k a) (rk k b)) = lt at hst hr ⊢
  obtain ⟨ρ', h1, x4, h2, h3⟩ := forL_inv (t := .one 4) (body := b_walked_1) (fun (i : Nat) => PyData.int (i : Int)) (fun n ρ => ∃ x4, ownAt (some x4) = false ∧ ρ = [some (.d (.str rule)), some (.d (il row)), some (.ls false ((stackAt lt row n).map PyData.int)), some (.ls false ((depthsP lt row n).map optI)), x4])
    (List.range row.length) 0 [some (.d (.str rule)), some (.d (il row)), some (.ls false []), some (.ls false []), none] ⟨none, rfl, rfl⟩ (by
      rintro i x ρ hx ⟨x4, h4, rfl⟩
      have hxn : x < row.length := List.mem_range.mp (List.mem_of_getElem? hx)
      have hix : x = 0 + i := by
        rw [List.getElem?_range (by
          have := (List.getElem?_eq_some_iff.mp hx).1
          simpa using this)] at hx
        cases hx
        omega
      subst hix
      have hn := List.getElem?_eq_getElem hxn
      have e1 := atI_ints hn
      have mo := moved_ok rule row (stackAt lt row (0 + i)) (0 + i) row[0 + i] (rk (0 + i)) hn (hst _ (by omega)) (hr _ hxn)
      have eq1 : (fun a b => lt2 (rk (0 + i) a) (rk (0 + i) b)) = lt (0 + i) := by rw [← hlt]
      rw [eq1] at mo
      have es : stackAt lt row (0 + i + 1) = moveP (lt (0 + i)) row[0 + i] (stackAt lt row (0 + i)) := by
        rw [stackAt, hn]
      have ed := depthsP_succ lt row (0 + i)
      have hdl : (depthsP lt row (0 + i)).length < 1000000 := by simp [depthsP]; omega
      have hin := inD_ints row[0 + i] (stackAt lt row (0 + i))
      simp only [Nat.zero_add] at *
      refine ⟨_, .inl ?_, some (.d (.int (i : Int))), rfl, rfl⟩
      rw [es, ed]
      by_cases hmem : row[i] ∈ stackAt lt row i
      · have hid := indexD_ints hmem
        have da : depthAt lt row i = some ((stackAt lt row i).idxOf row[i] + 1 : Nat) := by
          unfold depthAt
          rw [hn]
          simp [hmem]
        simp [hmem] at hin
        simp [il] at mo e1
        simp [roundM_ap, b_walked_1_ap, h4, il, e1, hin, lookD, hid, appD, hdl, mo, da, optI]
      · have da : depthAt lt row i = none := by
          unfold depthAt
          rw [hn]
          simp [hmem]
        simp [hmem] at hin
        simp [il] at mo e1
        simp [roundM_ap, b_walked_1_ap, h4, il, e1, hin, appD, hdl, mo, da, optI])
  subst h3
  simp [il] at h1
  simp [F_walked, f_walked, bodyF_ap, il, ol, hm, rangeD0, h1]
end G8
namespace G8
open PySem L2
/-! the rule "last" -/
theorem rank_last (row : List Int) (k : Nat) (x : Int) (hk : k ≤ row.length) (hl : row.length ≤ 24) (hx : x ∈ row.take k) :
    F_rank [.d (.str "last"), .d (il row), .d (.int (k : Int)), .d (.int x)] = .ok (.d (.tuple [.int (lastIx row k x : Nat), .int 0])) [none, none, none, none] := by
  have h := last_of_ok row k x hk hl hx
  simp [F_rank, f_rank, bodyF_ap, h]
def push (s : List Int) (x : Int) : List Int := x :: s.erase x
def lru (xs : List Int) : List Int := xs.foldl push []
theorem lru_snoc (xs : List Int) (x : Int) : lru (xs ++ [x]) = push (lru xs) x := by simp [lru]
theorem push_nodup {s : List Int} (h : s.Nodup) (x : Int) : (push s x).Nodup := by
  unfold push
  rw [List.nodup_cons]
  exact ⟨h.not_mem_erase, h.erase x⟩
theorem mem_push (s : List Int) (x y : Int) : y ∈ push s x ↔ y = x ∨ y ∈ s := by
  unfold push
  rw [List.mem_cons]
  by_cases h : y = x
  · simp [h]
  · simp [h, List.mem_erase_of_ne h]
theorem snocInd {α : Type} {P : List α → Prop} (h0 : P []) (h1 : ∀ xs x, P xs → P (xs ++ [x])) (l : List α) : P l := by
  have key : ∀ l : List α, P l.reverse := fun l => by
    induction l with
    | nil => exact h0
    | cons x xs ih =>
      rw [List.reverse_cons]
      exact h1 _ _ ih
  have := key l.reverse
  rwa [List.reverse_reverse] at this
theorem lru_all (xs : List Int) : (lru xs).Nodup ∧ ∀ y, y ∈ lru xs ↔ y ∈ xs := by
  induction xs using snocInd with
  | h0 => simp [lru]
  | h1 xs x ih =>
    rw [lru_snoc]
    refine ⟨push_nodup ih.1 x, fun y => ?_⟩
    rw [mem_push, ih.2]
    simp [or_comm]
theorem lru_len (xs : List Int) : (lru xs).length ≤ xs.length := by
  induction xs using snocInd with
  | h0 => simp [lru]
  | h1 xs x ih =>
    rw [lru_snoc]
    unfold push
    have := List.length_erase_le (a := x) (l := lru xs)
    simp; omega
theorem occ_succ (row : List Int) (k : Nat) (x : Int) : occ row (k + 1) x = occ row k x ++ if row[k]? = some x then [k] else [] := by
  unfold occ
  rw [List.range_succ, List.filter_append]
  congr 1
  by_cases h : row[k]? = some x <;> simp [h]
theorem lastIx_succ (row : List Int) (k : Nat) (x : Int) : lastIx row (k + 1) x = if row[k]? = some x then k else lastIx row k x := by
  unfold lastIx
  rw [occ_succ]
  by_cases h : row[k]? = some x <;> simp [h]
theorem occ_mem {row : List Int} {k : Nat} {x : Int} {j : Nat} : j ∈ occ row k x ↔ j < k ∧ row[j]? = some x := by
  unfold occ
  rw [List.mem_filter, List.mem_range, decide_eq_true_eq]
theorem lastIx_lt {row : List Int} {k : Nat} {x : Int} (hk : 0 < k) : lastIx row k x < k := by
  unfold lastIx
  cases h : (occ row k x).getLast? with
  | none =>
    rw [List.getLastD_eq_getLast?, h]
    exact hk
  | some j =>
    rw [List.getLastD_eq_getLast?, h]
    exact (occ_mem.mp (List.mem_of_getLast? h)).1
theorem lru_desc (row : List Int) : ∀ k, k ≤ row.length → (lru (row.take k)).Pairwise fun a b => lastIx row k b < lastIx row k a
  | 0, _ => by simp [lru]
  | k + 1, h => by
    have ih := lru_desc row k (by omega)
    have hk : row[k]? = some row[k] := List.getElem?_eq_getElem (by omega)
    rw [List.take_succ, hk]
    show (lru (row.take k ++ [row[k]])).Pairwise _
    rw [lru_snoc]
    unfold push
    have hne : ∀ b, b ∈ (lru (row.take k)).erase row[k] → b ≠ row[k] ∧ b ∈ lru (row.take k) := fun b hb => by
      rw [(lru_all (row.take k)).1.mem_erase_iff] at hb
      exact hb
    have hl : ∀ b, b ≠ row[k] → lastIx row (k + 1) b = lastIx row k b := fun b hb => by
      rw [lastIx_succ, hk, if_neg]
      intro e
      cases e
      exact hb rfl
    have hkk : lastIx row (k + 1) row[k] = k := by
      rw [lastIx_succ, if_pos hk]
    rw [List.pairwise_cons]
    refine ⟨fun b hb => ?_, ?_⟩
    · obtain ⟨h1, h2⟩ := hne b hb
      rw [hl b h1, hkk]
      refine lastIx_lt ?_
      cases k with
      | zero => simp [lru] at h2
      | succ k => omega
    · have p : ((lru (row.take k)).erase row[k]).Pairwise fun a b => lastIx row k b < lastIx row k a := ih.sublist (List.erase_sublist ..)
      refine List.Pairwise.imp_of_mem (fun {a b} ha hb hab => ?_) p
      rw [hl a (hne a ha).1, hl b (hne b hb).1]
      exact hab
/-- a stack in order is turned as by putting the name ahead -/
theorem mv_desc (lt : Int → Int → Bool) (name : Int) : ∀ (xs found : List Int) (d : Int), (d :: xs).Pairwise (fun a b => lt b a = true) →
    (mv lt name xs found (some d)).1 ++ (mv lt name xs found (some d)).2.toList = found ++ d :: xs.takeWhile (fun x => decide (x ≠ name))
  | [], found, d, _ => by simp [mv]
  | x :: xs, found, d, h => by
    by_cases hn : x = name
    · simp [mv, hn]
    · have h1 : lt x d = true := (List.pairwise_cons.mp h).1 x (List.mem_cons_self ..)
      have ih := mv_desc lt name xs (found ++ [d]) x (List.pairwise_cons.mp h).2
      simp [mv, hn, h1]
      simp at ih
      exact ih
theorem drop_while (name : Int) : ∀ (xs : List Int), xs.takeWhile (fun x => decide (x ≠ name)) ++ xs.drop ((xs.takeWhile (fun x => decide (x ≠ name))).length + 1) = xs.erase name
  | [] => rfl
  | x :: xs => by
    by_cases h : x = name
    · simp [h]
    · have := drop_while name xs
      simp at this
      simp [h, List.erase_cons_tail, this]
theorem moveP_desc (lt : Int → Int → Bool) (name : Int) (xs : List Int) (h : xs.Pairwise (fun a b => lt b a = true)) : moveP lt name xs = push xs name := by
  unfold moveP push
  have key : (mv lt name xs [name] none).1 ++ (mv lt name xs [name] none).2.toList = name :: xs.takeWhile (fun x => decide (x ≠ name)) := by
    cases xs with
    | nil => simp [mv]
    | cons x xs =>
      by_cases hn : x = name
      · simp [mv, hn]
      · have := mv_desc lt name xs [name] x h
        simp [mv, hn]
        simp at this
        exact this
  dsimp only
  rw [key, ← drop_while name xs]
  rfl
def rkLast (row : List Int) (k : Nat) (x : Int) : Int × Int := ((lastIx row k x : Nat), 0)
theorem lt2_last (row : List Int) (k : Nat) (a b : Int) : lt2 (rkLast row k a) (rkLast row k b) = decide (lastIx row k a < lastIx row k b) := by
  unfold lt2 rkLast
  rw [HT.lexLt_cons, HT.lexLt_cons, HT.lexLt_nil_nil]
  by_cases h : lastIx row k a = lastIx row k b
  · simp [h]
  · rw [if_neg (by omega)]
    simp
theorem stackAt_last (row : List Int) : ∀ k, k ≤ row.length → stackAt (fun k a b => lt2 (rkLast row k a) (rkLast row k b)) row k = lru (row.take k)
  | 0, _ => by simp [stackAt, lru]
  | k + 1, h => by
    have hk : row[k]? = some row[k] := List.getElem?_eq_getElem (by omega)
    rw [stackAt, hk, stackAt_last row k (by omega), List.take_succ, hk]
    show moveP _ row[k] _ = lru (row.take k ++ [row[k]])
    rw [lru_snoc, moveP_desc]
    refine (lru_desc row k (by omega)).imp fun {a b} h => ?_
    rw [lt2_last]
    exact decide_eq_true h
/-- the depth of an ask, by the rule "last" -/
def depL (row : List Int) (k : Nat) : Option Int := match row[k]? with
  | some name => if name ∈ lru (row.take k) then some ((lru (row.take k)).idxOf name + 1 : Nat) else none
  | none => none
def depsL (row : List Int) : List (Option Int) := (List.range row.length).map (depL row)
theorem walked_last (row : List Int) (hl : row.length ≤ 24) : F_walked [.d (.str "last"), .d (il row)] = .ok (.d (.tuple [ol (depsL row), il (lru row)])) [none, none] := by
  have hs := stackAt_last row
  have w := walked_ok "last" row (rkLast row) hl (fun k hk => by
    rw [hs k hk]
    have := lru_len (row.take k)
    simp at this
    omega) (fun k hk x hx => by
    rw [hs k (by omega)] at hx
    exact rank_last row k x (by omega) hl ((lru_all _).2 x |>.mp hx))
  rw [hs row.length (Nat.le_refl _), List.take_length] at w
  have e : depthsP (fun k a b => lt2 (rkLast row k a) (rkLast row k b)) row row.length = depsL row := by
    unfold depthsP depsL
    refine List.map_congr_left fun k hk => ?_
    have hk := List.mem_range.mp hk
    unfold depthAt depL
    rw [hs k (by omega)]
    all_goals (cases row[k]? <;> rfl)
  rw [e] at w
  exact w
theorem rule_last : F_look_stacked [.d (.str "last")] = .ok (.d .none) [none] := by rfl
theorem depths_last {row : List Int} (h : okRow row) : F_depths [.d (.str "last"), .d (il row)] = .ok (.d (ol (depsL row))) [none, none] := by
  have w := walked_last row h.1
  have l := look_row_ok h
  have r := rule_last
  simp [F_depths, f_depths, bodyF_ap, l, r, w, show atI [ol (depsL row), il (lru row)] 0 = some (ol (depsL row)) from rfl]
theorem stack_last {row : List Int} (h : okRow row) : F_stack [.d (.str "last"), .d (il row)] = .ok (.d (il (lru row))) [none, none] := by
  have w := walked_last row h.1
  have l := look_row_ok h
  have r := rule_last
  simp [F_stack, f_stack, bodyF_ap, l, r, w, show atI [ol (depsL row), il (lru row)] 1 = some (il (lru row)) from rfl]
end G8
namespace G8
open PySem L2
/-! depths.can_be -/
def canGo : List (Option Int) → Int → Option Int
  | [], f => some f
  | none :: r, f => canGo r (f + 1)
  | some d :: r, f => if 1 ≤ d ∧ d ≤ f then canGo r f else none
def canB (s : List (Option Int)) : Bool := decide (s.length ≤ 24) && (match canGo s 0 with
  | some f => decide (f ≤ 20)
  | none => false)
@[simp] theorem isNone_oi_n : isNone (optI none) = true := rfl
@[simp] theorem isNone_oi_s (i : Int) : isNone (optI (some i)) = false := rfl
@[simp] theorem intD_b (k : Bool) : intD [.bool k] = some (.d (.int (if k then 1 else 0))) := rfl
theorem can_loop (r : Dt) : ∀ (xs : List (Option Int)) (f : Int) (x2 : Option Sv), ownAt (some x2) = false →
    ∃ ρ', forL (.one 2) b_can_be_1 (xs.map optI) [some (.d r), some (.d (.int f)), x2] = (match canGo xs f with
      | some g => .ok .nx [some (.d r), some (.d (.int g)), ρ']
      | none => .ok (.rt (.d (.bool false))) [some (.d r), some (.d (.int f)), ρ']) ∨ ∃ f', canGo xs f = none ∧ forL (.one 2) b_can_be_1 (xs.map optI) [some (.d r), some (.d (.int f)), x2] = .ok (.rt (.d (.bool false))) [some (.d r), some (.d (.int f')), ρ']
  | [], f, x2, _ => ⟨x2, .inl (by simp [canGo])⟩
  | none :: xs, f, x2, h => by
    obtain ⟨ρ', e⟩ := can_loop r xs (f + 1) (some (.d .none)) rfl
    refine ⟨ρ', ?_⟩
    rw [List.map_cons, forL_round]
    have rd : roundM (.one 2) b_can_be_1 (optI none) [some (.d r), some (.d (.int f)), x2] = .ok .nx [some (.d r), some (.d (.int (f + 1))), some (.d .none)] := by
      simp [roundM_ap, b_can_be_1_ap, h, optI]
    rw [rd, canGo]
    dsimp only
    rcases e with e | ⟨f', e1, e2⟩
    · cases hc : canGo xs (f + 1) with
      | none => rw [hc] at e; exact .inr ⟨f + 1, rfl, e⟩
      | some g => rw [hc] at e; exact .inl e
    · exact .inr ⟨f', e1, e2⟩
  | some d :: xs, f, x2, h => by
    by_cases hd : 1 ≤ d ∧ d ≤ f
    · obtain ⟨ρ', e⟩ := can_loop r xs f (some (.d (.int d))) rfl
      refine ⟨ρ', ?_⟩
      rw [List.map_cons, forL_round]
      have rd : roundM (.one 2) b_can_be_1 (optI (some d)) [some (.d r), some (.d (.int f)), x2] = .ok .nx [some (.d r), some (.d (.int f)), some (.d (.int d))] := by
        simp [roundM_ap, b_can_be_1_ap, h, optI, hd.1, hd.2]
      rw [rd, canGo, if_pos hd]
      exact e
    · refine ⟨some (.d (.int d)), .inl ?_⟩
      rw [List.map_cons, forL_round]
      have rd : roundM (.one 2) b_can_be_1 (optI (some d)) [some (.d r), some (.d (.int f)), x2] = .ok (.rt (.d (.bool false))) [some (.d r), some (.d (.int f)), some (.d (.int d))] := by
        by_cases h1 : 1 ≤ d
        · have h2 : ¬ d ≤ f := fun z => hd ⟨h1, z⟩
          simp [roundM_ap, b_can_be_1_ap, h, optI, h1, h2]
        · simp [roundM_ap, b_can_be_1_ap, h, optI, h1]
      rw [rd, canGo, if_neg hd]
theorem can_be_eq (s : List (Option Int)) : F_can_be [.d (ol s)] = .ok (.d (.bool (canB s))) [none] := by
  by_cases hl : s.length ≤ 24
  · have h1 : ¬ (24 : Int) < (s.length : Int) := by omega
    obtain ⟨ρ', e⟩ := can_loop (.list (s.map optI)) s 0 none rfl
    unfold canB
    cases hc : canGo s 0 with
    | none =>
      have e : ∃ f', forL (.one 2) b_can_be_1 (s.map optI) [some (.d (.list (s.map optI))), some (.d (.int 0)), none] = .ok (.rt (.d (.bool false))) [some (.d (.list (s.map optI))), some (.d (.int f')), ρ'] := by
        rcases e with e | ⟨f', _, e⟩
        · rw [hc] at e; exact ⟨0, e⟩
        · exact ⟨f', e⟩
      obtain ⟨f', e⟩ := e
      simp [F_can_be, f_can_be, bodyF_ap, ol, h1, e]
    | some g =>
      rcases e with e | ⟨f', e1, e⟩
      · rw [hc] at e
        simp [F_can_be, f_can_be, bodyF_ap, ol, h1, e, hl]
      · rw [hc] at e1; cases e1
  · have h1 : (24 : Int) < (s.length : Int) := by omega
    simp [F_can_be, f_can_be, bodyF_ap, ol, h1, canB, hl]
end G8
namespace G8
open PySem L2
/-! depths.row_of -/
def rowStep (row : List Int) : Option Int → List Int
  | none => row ++ [((lru row).length : Int)]
  | some d => row ++ [(lru row).getD (d - 1).toNat 0]
def rowP (s : List (Option Int)) : List Int := s.foldl rowStep []
/-- the names of a row are 0, 1, .. in some order -/
def Full (row : List Int) : Prop := ∀ y ∈ row, 0 ≤ y ∧ y < ((lru row).length : Int)
theorem push_new {s : List Int} {x : Int} (h : x ∉ s) : push s x = x :: s := by
  unfold push
  rw [List.erase_of_not_mem h]
theorem full_none {row : List Int} (h : Full row) : ((lru row).length : Int) ∉ lru row := fun hm => by
  have := h _ (((lru_all row).2 _).mp hm)
  omega
theorem lru_none {row : List Int} (h : Full row) : lru (rowStep row none) = ((lru row).length : Int) :: lru row := by
  unfold rowStep
  rw [lru_snoc, push_new (full_none h)]
theorem erase_nth : ∀ {l : List Int} {n : Nat} (h : l.Nodup) (hn : n < l.length), l.erase l[n] = l.eraseIdx n
  | x :: xs, 0, h, _ => by simp
  | x :: xs, n + 1, h, hn => by
    have hn' : n < xs.length := by simpa using hn
    have hne : x ≠ xs[n] := fun e => (List.nodup_cons.mp h).1 (e ▸ List.getElem_mem hn')
    have ih := erase_nth (List.nodup_cons.mp h).2 hn'
    rw [List.getElem_cons_succ, List.erase_cons_tail (by simpa using hne), ih]
    rfl
theorem map_eraseN {α β : Type} (f : α → β) : ∀ (l : List α) (n : Nat), (l.map f).eraseIdx n = (l.eraseIdx n).map f
  | [], _ => rfl
  | x :: xs, 0 => rfl
  | x :: xs, n + 1 => by
    show f x :: (xs.map f).eraseIdx n = _
    rw [map_eraseN f xs n]
    rfl
theorem lru_some {row : List Int} {n : Nat} (hd : n < (lru row).length) : rowStep row (some ((n : Int) + 1)) = row ++ [(lru row)[n]] ∧ lru (rowStep row (some ((n : Int) + 1))) = (lru row)[n] :: (lru row).eraseIdx n := by
  have e : (lru row).getD ((n : Int) + 1 - 1).toNat 0 = (lru row)[n] := by
    rw [show ((n : Int) + 1 - 1).toNat = n by omega, List.getD_eq_getElem?_getD, List.getElem?_eq_getElem hd]
    rfl
  have e1 : rowStep row (some ((n : Int) + 1)) = row ++ [(lru row)[n]] := by
    show row ++ [(lru row).getD ((n : Int) + 1 - 1).toNat 0] = _
    rw [e]
  refine ⟨e1, ?_⟩
  rw [e1, lru_snoc]
  unfold push
  rw [erase_nth (lru_all row).1 hd]
theorem pred_of {d : Int} {m : Nat} (h : 1 ≤ d ∧ d ≤ (m : Int)) : ∃ n : Nat, d = (n : Int) + 1 ∧ n < m := ⟨(d - 1).toNat, by omega, by omega⟩
theorem full_step {row : List Int} (h : Full row) (o : Option Int) (ho : ∀ d, o = some d → 1 ≤ d ∧ d ≤ ((lru row).length : Int)) : Full (rowStep row o) ∧ ((lru (rowStep row o)).length : Int) = ((lru row).length : Int) + (if o = none then 1 else 0) := by
  cases o with
  | none =>
    have e := lru_none h
    have el : (lru (rowStep row none)).length = (lru row).length + 1 := by rw [e]; rfl
    refine ⟨fun y hy => ?_, by rw [el]; simp⟩
    rw [el]
    have hy' : y ∈ row ++ [((lru row).length : Int)] := hy
    rw [List.mem_append, List.mem_singleton] at hy'
    rcases hy' with hy' | hy'
    · have := h y hy'
      omega
    · omega
  | some d =>
    obtain ⟨n, rfl, hd⟩ := pred_of (ho d rfl)
    obtain ⟨e1, e2⟩ := lru_some hd
    have el : (lru (rowStep row (some ((n : Int) + 1)))).length = (lru row).length := by
      rw [e2, List.length_cons, List.length_eraseIdx, if_pos hd]
      omega
    refine ⟨fun y hy => ?_, by rw [el]; simp⟩
    rw [el]
    rw [e1, List.mem_append, List.mem_singleton] at hy
    rcases hy with hy | hy
    · exact h y hy
    · rw [hy]
      exact h _ (((lru_all row).2 _).mp (List.getElem_mem hd))
theorem row_loop (r : Dt) : ∀ (xs : List (Option Int)) (row : List Int) (g : Int) (x4 x5 : Option Sv), Full row → canGo xs ((lru row).length : Int) = some g → row.length + xs.length ≤ 1000 → ownAt (some x4) = false → ownAt (some x5) = false →
    ∃ x4' x5', forL (.one 4) b_row_of_1 (xs.map optI) [some (.d r), some (.ls false ((lru row).map PyData.int)), some (.ls false (row.map PyData.int)), some (.d (.int ((lru row).length : Int))), x4, x5]
      = .ok .nx [some (.d r), some (.ls false ((lru (xs.foldl rowStep row)).map PyData.int)), some (.ls false ((xs.foldl rowStep row).map PyData.int)), some (.d (.int ((lru (xs.foldl rowStep row)).length : Int))), x4', x5']
  | [], row, g, x4, x5, _, _, _, _, _ => ⟨x4, x5, by simp⟩
  | none :: xs, row, g, x4, x5, hf, hg, hl, h4, h5 => by
    obtain ⟨f1, f2⟩ := full_step hf none (fun d e => by cases e)
    simp at f2
    rw [canGo, ← f2] at hg
    obtain ⟨x4', x5', e⟩ := row_loop r xs (rowStep row none) g (some (.d .none)) (some (.d (.int ((lru row).length : Int)))) f1 hg (by simp [rowStep] at hl ⊢; omega) rfl rfl
    refine ⟨x4', x5', ?_⟩
    rw [List.map_cons, forL_round]
    have l5 : refAt (some x5) = false := by
      cases x5 with
      | none => rfl
      | some s => cases s <;> first | rfl | cases h5
    have e1 := lru_none hf
    have e2 : rowStep row none = row ++ [((lru row).length : Int)] := rfl
    have hl1 : (lru row).length < 1000000 := by have := lru_len row; simp at hl; omega
    have hl2 : row.length < 1000000 := by simp at hl; omega
    have rd : roundM (.one 4) b_row_of_1 (optI none) [some (.d r), some (.ls false ((lru row).map PyData.int)), some (.ls false (row.map PyData.int)), some (.d (.int ((lru row).length : Int))), x4, x5]
        = .ok .nx [some (.d r), some (.ls false ((lru (rowStep row none)).map PyData.int)), some (.ls false ((rowStep row none).map PyData.int)), some (.d (.int ((lru (rowStep row none)).length : Int))), some (.d .none), some (.d (.int ((lru row).length : Int)))] := by
      rw [e1, e2]
      simp [roundM_ap, b_row_of_1_ap, h4, l5, optI, insD, appD, hl1, hl2, mid]
    rw [rd]
    exact e
  | some d :: xs, row, g, x4, x5, hf, hg, hl, h4, h5 => by
    rw [canGo] at hg
    by_cases hd : 1 ≤ d ∧ d ≤ ((lru row).length : Int)
    · rw [if_pos hd] at hg
      obtain ⟨f1, f2⟩ := full_step hf (some d) (fun d' e => by cases e; exact hd)
      simp at f2
      obtain ⟨n, rfl, hdl⟩ := pred_of hd
      obtain ⟨e1, e2⟩ := lru_some hdl
      obtain ⟨x4', x5', e⟩ := row_loop r xs (rowStep row (some ((n : Int) + 1))) g (some (.d (.int ((n : Int) + 1)))) (some (.d (.int (lru row)[n]))) f1 (by rw [f2]; exact hg) (by simp [rowStep] at hl ⊢; omega) rfl rfl
      refine ⟨x4', x5', ?_⟩
      rw [List.map_cons, forL_round]
      have l5 : refAt (some x5) = false := by
        cases x5 with
        | none => rfl
        | some s => cases s <;> first | rfl | cases h5
      have hl1 : (lru row).length < 1000000 := by have := lru_len row; simp at hl; omega
      have hl2 : row.length < 1000000 := by simp at hl; omega
      have hmd : mid (n : Int) = true := mid_nat (by omega)
      have hl4 : ((lru row).eraseIdx n).length < 1000000 := by
        have := List.length_eraseIdx_le (lru row) n
        omega
      have s1 : (n : Int) + 1 - 1 = n := by omega
      have rd : roundM (.one 4) b_row_of_1 (optI (some ((n : Int) + 1))) [some (.d r), some (.ls false ((lru row).map PyData.int)), some (.ls false (row.map PyData.int)), some (.d (.int ((lru row).length : Int))), x4, x5]
          = .ok .nx [some (.d r), some (.ls false ((lru (rowStep row (some ((n : Int) + 1)))).map PyData.int)), some (.ls false ((rowStep row (some ((n : Int) + 1))).map PyData.int)), some (.d (.int ((lru (rowStep row (some ((n : Int) + 1)))).length : Int))), some (.d (.int ((n : Int) + 1))), some (.d (.int (lru row)[n]))] := by
        rw [f2, e2, e1]
        simp [roundM_ap, b_row_of_1_ap, h4, l5, optI, insD, appD, popAtD, hl2, hmd, hdl, map_eraseN, hl4, s1, show mid 0 = true from rfl]
      rw [rd]
      exact e
    · rw [if_neg hd] at hg
      cases hg
theorem full_nil : Full [] := fun y hy => by cases hy
theorem row_of_ok {s : List (Option Int)} (h : canB s = true) : F_row_of [.d (ol s)] = .ok (.l ((rowP s).map PyData.int)) [none] := by
  have c := can_be_eq s
  rw [h] at c
  unfold canB at h
  rw [Bool.and_eq_true, decide_eq_true_eq] at h
  obtain ⟨hl, h⟩ := h
  cases hc : canGo s 0 with
  | none => rw [hc] at h; cases h
  | some g =>
    obtain ⟨x4, x5, e⟩ := row_loop (ol s) s [] g none none full_nil (by simpa [lru] using hc) (by simp; omega) rfl rfl
    simp [lru] at e
    have e0 : itM (varM 0) [some (.d (ol s)), some (.ls false []), some (.ls false []), some (.d (.int 0)), none, none] = .ok (s.map optI) [some (.d (ol s)), some (.ls false []), some (.ls false []), some (.d (.int 0)), none, none] := by
      simp [ol]
    simp [F_row_of, f_row_of, bodyF_ap, c, rowP]
    simp [ol] at e ⊢
    simp [e]
theorem row_of_bad {s : List (Option Int)} (h : canB s = false) : F_row_of [.d (ol s)] = .err 4 [none] := by
  have c := can_be_eq s
  rw [h] at c
  simp [F_row_of, f_row_of, bodyF_ap, c]
end G8
namespace G8
open PySem L2
/-! plain laws of depths and rows -/
def dep1 (s : List Int) (x : Int) : Option Int := if x ∈ s then some ((s.idxOf x : Int) + 1) else none
theorem depsL_snoc (row : List Int) (x : Int) : depsL (row ++ [x]) = depsL row ++ [dep1 (lru row) x] := by
  unfold depsL
  rw [List.length_append, List.length_singleton, List.range_succ, List.map_append]
  congr 1
  · refine List.map_congr_left fun k hk => ?_
    have hk := List.mem_range.mp hk
    unfold depL
    rw [List.getElem?_append_left hk, List.take_append_of_le_length (by omega)]
  · show [depL (row ++ [x]) row.length] = _
    unfold depL dep1
    rw [List.getElem?_append_right (Nat.le_refl _), Nat.sub_self, List.take_append_of_le_length (Nat.le_refl _), List.take_length]
    simp
theorem dep_none {row : List Int} (h : Full row) : dep1 (lru row) ((lru row).length : Int) = none := by
  unfold dep1
  rw [if_neg (full_none h)]
theorem idxOf_nth : ∀ {l : List Int} {n : Nat} (h : l.Nodup) (hn : n < l.length), l.idxOf l[n] = n
  | x :: xs, 0, h, _ => by simp
  | x :: xs, n + 1, h, hn => by
    have hn' : n < xs.length := by simpa using hn
    have hne : x ≠ xs[n] := fun e => (List.nodup_cons.mp h).1 (e ▸ List.getElem_mem hn')
    have ih := idxOf_nth (List.nodup_cons.mp h).2 hn'
    have hb : (x == xs[n]) = false := by simpa using hne
    simp [List.idxOf_cons, hb, ih]
theorem dep_some {row : List Int} {n : Nat} (h : n < (lru row).length) : dep1 (lru row) (lru row)[n] = some ((n : Int) + 1) := by
  unfold dep1
  rw [if_pos (List.getElem_mem h), idxOf_nth (lru_all row).1 h]
theorem deps_row : ∀ (xs : List (Option Int)) (row : List Int) (g : Int), Full row → canGo xs ((lru row).length : Int) = some g → depsL (xs.foldl rowStep row) = depsL row ++ xs
  | [], row, g, _, _ => by simp
  | none :: xs, row, g, hf, hg => by
    obtain ⟨f1, f2⟩ := full_step hf none (fun d e => by cases e)
    simp at f2
    rw [canGo, ← f2] at hg
    rw [List.foldl_cons, deps_row xs _ g f1 hg]
    show depsL (row ++ [((lru row).length : Int)]) ++ xs = _
    rw [depsL_snoc, dep_none hf, List.append_assoc]
    rfl
  | some d :: xs, row, g, hf, hg => by
    rw [canGo] at hg
    by_cases hd : 1 ≤ d ∧ d ≤ ((lru row).length : Int)
    · rw [if_pos hd] at hg
      obtain ⟨f1, f2⟩ := full_step hf (some d) (fun d' e => by cases e; exact hd)
      simp at f2
      obtain ⟨n, rfl, hdl⟩ := pred_of hd
      obtain ⟨e1, e2⟩ := lru_some hdl
      rw [List.foldl_cons, deps_row xs _ g f1 (by rw [f2]; exact hg), e1, depsL_snoc, dep_some hdl, List.append_assoc]
      rfl
    · rw [if_neg hd] at hg
      cases hg
theorem canB_go {s : List (Option Int)} (h : canB s = true) : s.length ≤ 24 ∧ ∃ g, canGo s 0 = some g ∧ g ≤ 20 := by
  unfold canB at h
  rw [Bool.and_eq_true, decide_eq_true_eq] at h
  obtain ⟨hl, h⟩ := h
  cases hc : canGo s 0 with
  | none => rw [hc] at h; cases h
  | some g =>
    rw [hc] at h
    exact ⟨hl, g, rfl, of_decide_eq_true h⟩
theorem deps_rowP {s : List (Option Int)} (h : canB s = true) : depsL (rowP s) = s := by
  obtain ⟨_, g, hg, _⟩ := canB_go h
  have := deps_row s [] g full_nil (by simpa [lru] using hg)
  show depsL (s.foldl rowStep []) = s
  rw [this]
  rfl
/-! renaming -/
def nms (xs : List Int) : List Int := uniq xs []
def renP (xs : List Int) : List Int := xs.map fun x => ((nms xs).idxOf x : Int)
theorem uniq_snoc : ∀ (xs acc : List Int) (x : Int), uniq (xs ++ [x]) acc = if x ∈ uniq xs acc then uniq xs acc else uniq xs acc ++ [x]
  | [], acc, x => rfl
  | y :: ys, acc, x => uniq_snoc ys _ x
theorem nms_snoc (xs : List Int) (x : Int) : nms (xs ++ [x]) = if x ∈ nms xs then nms xs else nms xs ++ [x] := uniq_snoc xs [] x
theorem nms_all (xs : List Int) : (nms xs).Nodup ∧ (∀ y, y ∈ nms xs ↔ y ∈ xs) ∧ (nms xs).length = (lru xs).length := by
  induction xs using snocInd with
  | h0 => simp [nms, uniq, lru]
  | h1 xs x ih =>
    obtain ⟨i1, i2, i3⟩ := ih
    rw [nms_snoc, lru_snoc]
    by_cases h : x ∈ nms xs
    · rw [if_pos h]
      have hx := (i2 x).mp h
      refine ⟨i1, fun y => ?_, ?_⟩
      · rw [i2 y, List.mem_append, List.mem_singleton]
        exact ⟨.inl, fun z => z.elim id fun e => e ▸ hx⟩
      · unfold push
        rw [i3, List.length_cons, List.length_erase_of_mem (((lru_all xs).2 x).mpr hx)]
        have := List.length_pos_of_mem (((lru_all xs).2 x).mpr hx)
        omega
    · rw [if_neg h]
      have hx : x ∉ xs := fun z => h ((i2 x).mpr z)
      refine ⟨?_, fun y => ?_, ?_⟩
      · rw [List.nodup_append]
        refine ⟨i1, by simp, fun a ha b hb => ?_⟩
        rw [List.mem_singleton] at hb
        rintro rfl
        exact h (hb ▸ ha)
      · simp [i2 y]
      · rw [push_new (fun z => hx (((lru_all xs).2 x).mp z))]
        simp [i3]
theorem ren_snoc (xs : List Int) (x : Int) : renP (xs ++ [x]) = renP xs ++ [if x ∈ xs then ((nms xs).idxOf x : Int) else ((lru xs).length : Int)] := by
  obtain ⟨i1, i2, i3⟩ := nms_all xs
  unfold renP
  rw [List.map_append, nms_snoc]
  by_cases h : x ∈ nms xs
  · rw [if_pos h, if_pos ((i2 x).mp h)]
    rfl
  · rw [if_neg h, if_neg (fun z => h ((i2 x).mpr z))]
    congr 1
    · refine List.map_congr_left fun y hy => ?_
      rw [List.idxOf_append, if_pos ((i2 y).mpr hy)]
    · show [(((nms xs ++ [x]).idxOf x : Nat) : Int)] = _
      rw [List.idxOf_append, if_neg h, ← i3]
      simp
theorem map_erase_inj (f : Int → Int) : ∀ (s : List Int) (x : Int), (∀ a ∈ s, ∀ b, (b ∈ s ∨ b = x) → f a = f b → a = b) → (s.map f).erase (f x) = (s.erase x).map f
  | [], _, _ => rfl
  | y :: s, x, h => by
    by_cases e : y = x
    · subst e; simp
    · have hne : f y ≠ f x := fun z => e (h y (List.mem_cons_self ..) x (.inr rfl) z)
      rw [List.map_cons, List.erase_cons_tail (by simpa using hne), List.erase_cons_tail (by simpa using e), List.map_cons, map_erase_inj f s x fun a ha b hb => h a (List.mem_cons_of_mem _ ha) b (hb.imp (List.mem_cons_of_mem _) id)]
theorem lru_map (f : Int → Int) (xs : List Int) (h : ∀ a ∈ xs, ∀ b ∈ xs, f a = f b → a = b) : lru (xs.map f) = (lru xs).map f := by
  induction xs using snocInd with
  | h0 => rfl
  | h1 xs x ih =>
    have ih := ih fun a ha b hb => h a (List.mem_append_left _ ha) b (List.mem_append_left _ hb)
    rw [List.map_append, List.map_singleton, lru_snoc, lru_snoc, ih]
    unfold push
    rw [List.map_cons, map_erase_inj]
    intro a ha b hb
    refine h a (List.mem_append_left _ (((lru_all xs).2 a).mp ha)) b ?_
    rcases hb with hb | hb
    · exact List.mem_append_left _ (((lru_all xs).2 b).mp hb)
    · exact List.mem_append_right _ (by simp [hb])
theorem idxOf_inj {l : List Int} {a b : Int} (ha : a ∈ l) (hb : b ∈ l) (h : l.idxOf a = l.idxOf b) : a = b := by
  have h1 := List.getElem_idxOf (List.idxOf_lt_length_of_mem ha)
  have h2 := List.getElem_idxOf (List.idxOf_lt_length_of_mem hb)
  rw [← h1, ← h2]
  congr 1
theorem lru_ren (xs : List Int) : lru (renP xs) = (lru xs).map fun x => ((nms xs).idxOf x : Int) := by
  unfold renP
  refine lru_map _ _ fun a ha b hb e => ?_
  obtain ⟨_, i2, _⟩ := nms_all xs
  exact idxOf_inj ((i2 a).mpr ha) ((i2 b).mpr hb) (by omega)
theorem rowP_deps (row : List Int) : rowP (depsL row) = renP row := by
  induction row using snocInd with
  | h0 => rfl
  | h1 xs x ih =>
    rw [depsL_snoc, ren_snoc]
    unfold rowP at ih ⊢
    rw [List.foldl_append, ih, List.foldl_cons, List.foldl_nil]
    unfold dep1
    by_cases h : x ∈ xs
    · have hm := ((lru_all xs).2 x).mpr h
      rw [if_pos hm, if_pos h]
      have hi := List.idxOf_lt_length_of_mem hm
      have := (lru_some (row := renP xs) (n := (lru xs).idxOf x) (by rw [lru_ren]; simpa using hi)).1
      rw [this]
      congr 2
      have e : ∀ (l : List Int) (hl : l = (lru xs).map fun x => ((nms xs).idxOf x : Int)) (hh : (lru xs).idxOf x < l.length), l[(lru xs).idxOf x] = ((nms xs).idxOf x : Int) := by
        intro l hl hh
        subst hl
        rw [List.getElem_map, List.getElem_idxOf]
      exact e _ (lru_ren xs) _
    · rw [if_neg (fun z => h (((lru_all xs).2 x).mp z)), if_neg h]
      show renP xs ++ [((lru (renP xs)).length : Int)] = _
      rw [lru_ren, List.length_map]
theorem ren_rowP {s : List (Option Int)} (h : canB s = true) : renP (rowP s) = rowP s := by
  rw [← rowP_deps, deps_rowP h]
theorem canGo_snoc : ∀ (xs : List (Option Int)) (f : Int) (o : Option Int), canGo (xs ++ [o]) f = (canGo xs f).bind fun g => canGo [o] g
  | [], f, o => rfl
  | none :: xs, f, o => by
    show canGo (xs ++ [o]) (f + 1) = _
    rw [canGo_snoc xs]
    rfl
  | some d :: xs, f, o => by
    show (if 1 ≤ d ∧ d ≤ f then canGo (xs ++ [o]) f else none) = (if 1 ≤ d ∧ d ≤ f then canGo xs f else none).bind _
    split
    · exact canGo_snoc xs f o
    · rfl
theorem canGo_deps (row : List Int) : canGo (depsL row) 0 = some ((lru row).length : Int) := by
  induction row using snocInd with
  | h0 => rfl
  | h1 xs x ih =>
    rw [depsL_snoc, canGo_snoc, ih, lru_snoc]
    show canGo [dep1 (lru xs) x] ((lru xs).length : Int) = _
    unfold dep1
    by_cases h : x ∈ lru xs
    · have hi := List.idxOf_lt_length_of_mem h
      rw [if_pos h]
      show (if 1 ≤ ((lru xs).idxOf x : Int) + 1 ∧ ((lru xs).idxOf x : Int) + 1 ≤ ((lru xs).length : Int) then some ((lru xs).length : Int) else none) = _
      rw [if_pos ⟨by omega, by omega⟩]
      unfold push
      rw [List.length_cons, List.length_erase_of_mem h]
      congr 1
      omega
    · rw [if_neg h, push_new h]
      show some (((lru xs).length : Int) + 1) = _
      simp
theorem nodup_le : ∀ {l m : List Int}, l.Nodup → (∀ x ∈ l, x ∈ m) → l.length ≤ m.length
  | [], m, _, _ => Nat.zero_le _
  | x :: l, m, h, hs => by
    have hx := hs x (List.mem_cons_self ..)
    obtain ⟨h1, h2⟩ := List.nodup_cons.mp h
    have := nodup_le (m := m.erase x) h2 fun y hy => (List.mem_erase_of_ne (show y ≠ x from fun e => h1 (e ▸ hy))).mpr (hs y (List.mem_cons_of_mem _ hy))
    rw [List.length_erase_of_mem hx] at this
    have := List.length_pos_of_mem hx
    simp; omega
theorem lru_len_eq {a b : List Int} (h : ∀ x, x ∈ a ↔ x ∈ b) : (lru a).length = (lru b).length := by
  have h1 := nodup_le (lru_all a).1 (m := lru b) fun x hx => ((lru_all b).2 x).mpr ((h x).mp (((lru_all a).2 x).mp hx))
  have h2 := nodup_le (lru_all b).1 (m := lru a) fun x hx => ((lru_all a).2 x).mpr ((h x).mpr (((lru_all b).2 x).mp hx))
  omega
theorem lru_le_names {row : List Int} (h : ∀ x ∈ row, okName x) : (lru row).length ≤ 20 := by
  have := nodup_le (lru_all row).1 (m := (List.range 20).map fun (i : Nat) => (i : Int)) fun x hx => by
    have hx := h x (((lru_all row).2 x).mp hx)
    refine List.mem_map.mpr ⟨x.toNat, List.mem_range.mpr ?_, ?_⟩
    · have := hx.1; have := hx.2; omega
    · exact Int.toNat_of_nonneg hx.1
  simpa using this
theorem depsL_len (row : List Int) : (depsL row).length = row.length := by simp [depsL]
theorem canB_deps {row : List Int} (h : okRow row) : canB (depsL row) = true := by
  unfold canB
  rw [canGo_deps, depsL_len]
  have := lru_le_names h.2
  simp [h.1]
  omega
theorem deps_ren (row : List Int) : depsL (renP row) = depsL row := by
  rw [← rowP_deps]
  have := deps_row (depsL row) [] _ full_nil (by simpa [lru] using canGo_deps row)
  show depsL ((depsL row).foldl rowStep []) = _
  rw [this]
  rfl
theorem alike_iff (a b : List Int) : renP a = renP b ↔ depsL a = depsL b := by
  constructor
  · intro h
    rw [← deps_ren a, h, deps_ren]
  · intro h
    rw [← rowP_deps a, h, rowP_deps]
/-- a row behind a stack -/
theorem foldl_push (s : List Int) (hs : s.Nodup) (xs : List Int) : xs.foldl push s = lru xs ++ s.filter fun y => decide (y ∉ xs) := by
  induction xs using snocInd with
  | h0 =>
    simp only [List.foldl_nil, lru, List.nil_append, List.not_mem_nil, not_false_eq_true, decide_true]
    rw [List.filter_eq_self.mpr (fun _ _ => rfl)]
  | h1 xs x ih =>
    rw [List.foldl_append, ih, lru_snoc]
    show push (lru xs ++ s.filter fun y => decide (y ∉ xs)) x = _
    unfold push
    rw [List.cons_append]
    congr 1
    by_cases h : x ∈ lru xs
    · have hx := ((lru_all xs).2 x).mp h
      rw [List.erase_append_left _ h]
      congr 1
      refine List.filter_congr fun y _ => ?_
      simp only [List.mem_append, List.mem_singleton]
      by_cases e : y = x
      · simp [e, hx]
      · simp [e]
    · have hx : x ∉ xs := fun z => h (((lru_all xs).2 x).mpr z)
      rw [List.erase_append_right _ h, List.erase_of_not_mem h]
      congr 1
      have hf : (s.filter fun y => decide (y ∉ xs)).Nodup := hs.filter _
      rw [hf.erase_eq_filter, List.filter_filter]
      refine List.filter_congr fun y _ => ?_
      simp only [List.mem_append, List.mem_singleton]
      by_cases e : y = x
      · simp [e]
      · simp [e]
/-- the depth of an ask is the number of names since -/
theorem dep_since (pre rest : List Int) (x : Int) (h : x ∉ rest) : dep1 (lru (pre ++ x :: rest)) x = some ((lru (x :: rest)).length : Int) := by
  have e1 : lru (pre ++ x :: rest) = rest.foldl push (push (lru pre) x) := by
    unfold lru
    rw [List.foldl_append, List.foldl_cons]
  have n1 := push_nodup (lru_all pre).1 x
  have hl : x ∉ lru rest := fun z => h (((lru_all rest).2 x).mp z)
  have e2 : lru (x :: rest) = lru rest ++ [x] := by
    show rest.foldl push (push [] x) = _
    rw [foldl_push _ (by simp [push])]
    simp [push, h]
  rw [e1, foldl_push _ n1, e2]
  unfold push dep1
  rw [List.filter_cons_of_pos (by simpa using h), if_pos (by simp), List.idxOf_append, if_neg hl]
  simp
end G8
namespace G8
open PySem L2
/-! equality of lists of ints, of depths -/
theorem eqvA_self_of {xs ys : List Dt} (h : xs = ys) (hp : ∀ x ∈ xs, nice 60 x) : PyData.eqvAll xs ys = true := by
  subst h
  exact PySem.SeqAt.eqvAll_refl_plain xs (nice_all hp).1
theorem shal_il (xs : List Int) : shal (.list (xs.map PyData.int)) = true := shal_nice (nice_up (nice_ints 0 xs) (by decide))
theorem eqD_il (xs ys : List Int) : eqD (.list (xs.map PyData.int)) (.list (ys.map PyData.int)) = some (decide (xs = ys)) := by
  unfold eqD
  rw [shal_il, shal_il, eqv_ll, eqvA_ints]
  rfl
theorem neD_il (xs ys : List Int) : neD (.list (xs.map PyData.int)) (.list (ys.map PyData.int)) = some (!decide (xs = ys)) := by
  unfold neD
  rw [shal_il, shal_il, eqv_ll, eqvA_ints]
  rfl
theorem eqD_iln (xs : List Int) : eqD (.list (xs.map PyData.int)) (.list []) = some (decide (xs = [])) := eqD_il xs []
theorem neD_iln (xs : List Int) : neD (.list (xs.map PyData.int)) (.list []) = some (!decide (xs = [])) := neD_il xs []
theorem nice_oi (n : Nat) (o : Option Int) : nice n (optI o) := by
  cases o with
  | none => exact nice_none n
  | some i => exact nice_int n i
theorem nice_ol (n : Nat) (xs : List (Option Int)) : nice (n + 1) (.list (xs.map optI)) := nice_list fun x hx => by
  obtain ⟨i, _, rfl⟩ := List.mem_map.mp hx
  exact nice_oi n i
theorem eqv_oi (a b : Option Int) : PyData.eqv (optI a) (optI b) = decide (a = b) := by
  cases a <;> cases b <;> simp [optI]
theorem eqvA_ol : ∀ (xs ys : List (Option Int)), PyData.eqvAll (xs.map optI) (ys.map optI) = decide (xs = ys)
  | [], [] => by simp
  | [], _ :: _ => by simp
  | _ :: _, [] => by simp
  | x :: xs, y :: ys => by simp [eqvA_ol xs ys, eqv_oi, Bool.decide_and]
theorem shal_ol (xs : List (Option Int)) : shal (.list (xs.map optI)) = true := shal_nice (nice_up (nice_ol 0 xs) (by decide))
theorem eqD_ol (xs ys : List (Option Int)) : eqD (.list (xs.map optI)) (.list (ys.map optI)) = some (decide (xs = ys)) := by
  unfold eqD
  rw [shal_ol, shal_ol, eqv_ll, eqvA_ol]
  rfl
theorem neD_ol (xs ys : List (Option Int)) : neD (.list (xs.map optI)) (.list (ys.map optI)) = some (!decide (xs = ys)) := by
  unfold neD
  rw [shal_ol, shal_ol, eqv_ll, eqvA_ol]
  rfl
theorem eqD_oln (xs : List (Option Int)) : eqD (.list (xs.map optI)) (.list []) = some (decide (xs = [])) := eqD_ol xs []
theorem neD_oln (xs : List (Option Int)) : neD (.list (xs.map optI)) (.list []) = some (!decide (xs = [])) := neD_ol xs []
/-! the laws' own rows -/
theorem draw_ex (ns : List Int) (xs : List Dt) (m : Int) (hm : 0 < m) (hk : xs.length < 999999) : ∃ v : Int, 0 ≤ v ∧ v < m ∧ F__law_draw [.scr ns, .ls true xs, .d (.int m)] = .ok (.d (.int v)) [none, some (.ls true (xs ++ [.int 0])), none] :=
  ⟨_, drw_lo ns _ hm, drw_hi ns _ hm, draw_eq ns xs m hm hk⟩
theorem row_round (ns : List Int) (t : List Dt) (most kinds many : Int) (row : List Int) (x6 x7 : Option Sv) (k : Int) (hm : 0 < many) (ht : t.length < 900000) (hr : row.length < 1000) (hb : ∀ x ∈ row, 0 ≤ x ∧ x < many) (h6 : ownAt (some x6) = false) (h7 : ownAt (some x7) = false) :
    ∃ v t' x7', 0 ≤ v ∧ v < many ∧ t'.length ≤ t.length + 3 ∧ ownAt (some x7') = false ∧
      roundM (.one 6) b__law_row_1 (.int k) [some (.scr ns), some (.ls true t), some (.d (.int most)), some (.d (.int kinds)), some (.d (.int many)), some (.ls false (row.map PyData.int)), x6, x7]
        = .ok .nx [some (.scr ns), some (.ls true t'), some (.d (.int most)), some (.d (.int kinds)), some (.d (.int many)), some (.ls false ((row ++ [v]).map PyData.int)), some (.d (.int k)), x7'] := by
  obtain ⟨v, v1, v2, dv⟩ := draw_ex ns t many hm (by omega)
  have hr' : row.length < 1000000 := by omega
  have r7 : refAt (some x7) = false := by
    cases x7 with
    | none => rfl
    | some s => cases s <;> first | rfl | cases h7
  by_cases he : row = []
  · subst he
    refine ⟨v, t ++ [.int 0], some (.d (.int v)), v1, v2, by simp, rfl, ?_⟩
    have q := neD_iln []
    simp at q
    simp [roundM_ap, b__law_row_1_ap, h6, r7, dv, q, appD]
  · have q := neD_iln row
    simp [he] at q
    obtain ⟨u, u1, u2, du⟩ := draw_ex ns (t ++ [.int 0]) 4 (by decide) (by simp; omega)
    by_cases hu : u = 0
    · subst hu
      have hp : 0 < row.length := List.length_pos_iff.mpr he
      obtain ⟨w, w1, w2, dw⟩ := draw_ex ns (t ++ [.int 0] ++ [.int 0]) (row.length : Int) (by omega) (by simp; omega)
      obtain ⟨n, rfl⟩ : ∃ n : Nat, w = (n : Int) := ⟨w.toNat, by omega⟩
      have hn : n < row.length := by omega
      have hx := List.getElem?_eq_getElem hn
      have ea := atI_ints hx
      have hbn := hb row[n] (List.getElem_mem hn)
      refine ⟨row[n], t ++ [.int 0] ++ [.int 0] ++ [.int 0], some (.d (.int row[n])), hbn.1, hbn.2, by simp, rfl, ?_⟩
      simp at dv du dw
      simp [roundM_ap, b__law_row_1_ap, h6, r7, dv, q, appD, du, dw, ea, hr']
    · refine ⟨v, t ++ [.int 0] ++ [.int 0], some (.d (.int v)), v1, v2, by simp, rfl, ?_⟩
      simp at dv du
      simp [roundM_ap, b__law_row_1_ap, h6, r7, dv, q, appD, du, hu, hr']
theorem row_drawn (ns : List Int) (t : List Dt) (most kinds : Nat) (hm : most ≤ 24) (hk : 0 < kinds) (hk2 : kinds ≤ 1000) (ht : t.length < 800000) :
    ∃ (row : List Int) (t' : List Dt), row.length ≤ most ∧ (∀ x ∈ row, 0 ≤ x ∧ x < (kinds : Int)) ∧ t'.length ≤ t.length + 80 ∧
      F__law_row [.scr ns, .ls true t, .d (.int most), .d (.int kinds)] = .ok (.l (row.map PyData.int)) [none, some (.ls true t'), none, none] := by
  obtain ⟨v, v1, v2, dv⟩ := draw_ex ns t kinds (by omega) (by omega)
  obtain ⟨w, w1, w2, dw⟩ := draw_ex ns (t ++ [.int 0]) ((most : Int) + 1) (by omega) (by simp; omega)
  obtain ⟨n, rfl⟩ : ∃ n : Nat, w = (n : Int) := ⟨w.toNat, by omega⟩
  obtain ⟨ρ', h1, row, t', x6, x7, h2, h3, h4, h5, h6, h7⟩ := forL_inv (t := .one 6) (body := b__law_row_1) (fun (i : Nat) => PyData.int (i : Int))
    (fun k ρ => ∃ (row : List Int) (t' : List Dt) (x6 x7 : Option Sv), row.length = k ∧ (∀ x ∈ row, 0 ≤ x ∧ x < 1 + v) ∧ t'.length ≤ t.length + 2 + 3 * k ∧ ownAt (some x6) = false ∧ ownAt (some x7) = false ∧
      ρ = [some (.scr ns), some (.ls true t'), some (.d (.int most)), some (.d (.int kinds)), some (.d (.int (1 + v))), some (.ls false (row.map PyData.int)), x6, x7])
    (List.range n) 0 [some (.scr ns), some (.ls true (t ++ [.int 0] ++ [.int 0])), some (.d (.int most)), some (.d (.int kinds)), some (.d (.int (1 + v))), some (.ls false []), none, none]
    ⟨[], t ++ [.int 0] ++ [.int 0], none, none, rfl, by simp, by simp, rfl, rfl, rfl⟩ (by
      rintro i x ρ hx ⟨row, t', x6, x7, h2, h3, h4, h5, h6, rfl⟩
      have hi : i < n := by
        have := (List.getElem?_eq_some_iff.mp hx).1
        simpa using this
      obtain ⟨u, t2, x7', u1, u2, u3, u4, e⟩ := row_round ns t' most kinds (1 + v) row x6 x7 x (by omega) (by omega) (by omega) h3 h5 h6
      refine ⟨_, .inl e, row ++ [u], t2, _, x7', by simp [h2], fun y hy => ?_, by omega, rfl, u4, rfl⟩
      rcases List.mem_append.mp hy with hy | hy
      · exact h3 y hy
      · rw [List.mem_singleton.mp hy]; exact ⟨u1, u2⟩)
  subst h7
  have hl : row.length = n := by simpa using h2
  refine ⟨row, t', by omega, fun x hx => ?_, by simp at h4; omega, ?_⟩
  · have := h3 x hx
    omega
  · have hmn : mid (n : Int) = true := mid_nat (by omega)
    simp at h1 dv dw
    simp [F__law_row, f__law_row, bodyF_ap, dv, dw, hmn, rangeD0, h1]
end G8
namespace G8
open PySem L2
/-! sorted ints, slices, the last item -/
def srt (ns : List Int) : List Int := ns.mergeSort fun a b => decide (a ≤ b)
theorem srt_perm (ns : List Int) : (srt ns).Perm ns := List.mergeSort_perm ns _
theorem srt_sorted (ns : List Int) : (srt ns).Pairwise (· ≤ ·) := by
  have := List.pairwise_mergeSort (le := fun a b : Int => decide (a ≤ b)) (fun a b c h1 h2 => by simp at *; omega) (fun a b => by simp; omega) ns
  exact this.imp fun h => of_decide_eq_true h
theorem srt_len (ns : List Int) : (srt ns).length = ns.length := List.length_mergeSort _
theorem sortD_ints (ns : List Int) : sortD [.list (ns.map PyData.int)] = some (.l ((srt ns).map PyData.int)) := by
  have e1 : alikeA (ns.map PyData.int) = true := by
    have := alikeB_ints ns
    unfold alikeB at this
    rw [Bool.and_eq_true] at this
    exact this.1
  have e2 : shalL (ns.map PyData.int) = true := shalL_ints ns
  have e3 : sortB (ns.map PyData.int) = true := by
    unfold sortB
    rw [Bool.or_eq_true]
    refine .inr (List.all_eq_true.mpr fun x hx => ?_)
    obtain ⟨i, _, rfl⟩ := List.mem_map.mp hx
    rfl
  have e4 : (ns.map PyData.int).mergeSort leD = (srt ns).map PyData.int := by
    unfold srt
    refine (List.map_mergeSort fun a _ b _ => ?_).symm
    have := congrFun (congrFun (PySem.W.dataLe_int (fun b : Int => b)) a) b
    rw [← this]
    rfl
  show (if shalL (ns.map PyData.int) && alikeA (ns.map PyData.int) && sortB (ns.map PyData.int) then some (Rv.l ((ns.map PyData.int).mergeSort leD)) else none) = _
  rw [e1, e2, e3, e4]
  rfl
theorem atI_last {α : Type} {xs : List α} (h : xs ≠ []) : atI xs (-1) = xs[xs.length - 1]? := by
  have := List.length_pos_iff.mpr h
  unfold atI ixN
  rw [if_neg (by omega), if_pos (by omega)]
  show xs[((-1 : Int) + (xs.length : Int)).toNat]? = _
  congr 1
  omega
theorem cut_both {xs : List Dt} (p k : Nat) (h : k ≤ xs.length) : cutD xs (some (p : Int)) (some (k : Int)) = (xs.drop p).take (k - p) := by
  unfold cutD
  rw [HT.sIx_nat, HT.sIx_nat, Nat.min_eq_left h]
  by_cases hp : p ≤ xs.length
  · rw [Nat.min_eq_left hp]
  · rw [Nat.min_eq_right (by omega), show k - p = 0 by omega, show k - xs.length = 0 by omega]
    simp
/-! the steps of a sorted list are its names -/
def stepsOf (xs : List Int) : List Nat := (List.range xs.length).filter fun j => decide (j = 0 ∨ xs[j]? ≠ xs[j - 1]?)
theorem steps_snoc (xs : List Int) (y : Int) : (stepsOf (xs ++ [y])).length = (stepsOf xs).length + if xs.getLast? = some y then 0 else 1 := by
  unfold stepsOf
  rw [List.length_append, List.length_singleton, List.range_succ, List.filter_append, List.length_append]
  congr 1
  · congr 1
    refine List.filter_congr fun j hj => ?_
    have hj := List.mem_range.mp hj
    rw [List.getElem?_append_left hj, List.getElem?_append_left (by omega)]
  · rw [List.getLast?_eq_getElem?]
    cases xs with
    | nil => simp
    | cons x xs =>
      have h0 : (x :: xs).length ≠ 0 := by simp
      have h1 : ((x :: xs) ++ [y])[(x :: xs).length]? = some y := by
        rw [List.getElem?_append_right (Nat.le_refl _), Nat.sub_self]
        rfl
      have h2 : ((x :: xs) ++ [y])[(x :: xs).length - 1]? = (x :: xs)[(x :: xs).length - 1]? := List.getElem?_append_left (by simp)
      by_cases e : (x :: xs)[(x :: xs).length - 1]? = some y
      · rw [List.filter_cons, if_neg, if_pos e]
        · rfl
        · rw [decide_eq_true_eq, h1, h2, e]
          simp
      · rw [List.filter_cons, if_pos, if_neg e]
        · rfl
        · rw [decide_eq_true_eq, h1, h2]
          exact .inr fun z => e z.symm
theorem steps_sorted (xs : List Int) (h : xs.Pairwise (· ≤ ·)) : (stepsOf xs).length = (lru xs).length := by
  induction xs using snocInd with
  | h0 => rfl
  | h1 xs y ih =>
    obtain ⟨p1, _, p3⟩ := List.pairwise_append.mp h
    rw [steps_snoc, ih p1, lru_snoc]
    unfold push
    rw [List.length_cons]
    by_cases hm : y ∈ xs
    · have hm' := ((lru_all xs).2 y).mpr hm
      have hl : xs.getLast? = some y := by
        have hne : xs ≠ [] := fun z => by rw [z] at hm; cases hm
        rw [List.getLast?_eq_some_getLast hne]
        congr 1
        obtain ⟨ini, e⟩ : ∃ ini, xs = ini ++ [xs.getLast hne] := ⟨xs.dropLast, (List.dropLast_concat_getLast hne).symm⟩
        have h1 := p3 (xs.getLast hne) (List.getLast_mem hne) y (by simp)
        have h2 : y ≤ xs.getLast hne := by
          rw [e] at hm
          rcases List.mem_append.mp hm with hm | hm
          · rw [e] at p1
            exact (List.pairwise_append.mp p1).2.2 y hm _ (by simp)
          · rw [List.mem_singleton] at hm
            omega
        omega
      rw [if_pos hl, List.length_erase_of_mem hm']
      have := List.length_pos_of_mem hm'
      omega
    · have hm' : y ∉ lru xs := fun z => hm (((lru_all xs).2 y).mp z)
      have hl : xs.getLast? ≠ some y := fun z => hm (List.mem_of_getLast? z)
      rw [if_neg hl, List.erase_of_not_mem hm']
/-! _law_depth -/
theorem depL_dep1 {row : List Int} {k : Nat} (hk : k < row.length) : depL row k = dep1 (lru (row.take k)) row[k] := by
  unfold depL dep1
  rw [List.getElem?_eq_getElem hk]
  simp
theorem ld_step1 (row : List Int) (k : Nat) (hk : k < row.length) (j : Nat) (hj : j < row.length) : stepL (.one 4) t__law_depth_1 (varM 4) (.int (j : Int)) [some (.d (il row)), some (.d (.int (k : Int))), none, none, none]
    = .ok (if row[j]? = some row[k] then some (.int (j : Int)) else none) [some (.d (il row)), some (.d (.int (k : Int))), none, none, none] := by
  have e := atI_ints (List.getElem?_eq_getElem hj)
  have e2 := atI_ints (List.getElem?_eq_getElem hk)
  rw [List.getElem?_eq_getElem hj]
  by_cases hx : row[j] = row[k]
  · simp [stepL_ap, t__law_depth_1_ap, il, e, e2, hx]
  · simp [stepL_ap, t__law_depth_1_ap, il, e, e2, hx]
theorem ld_step2 (r kk : Dt) (la : List Dt) (s : List Int) (j : Nat) (hj : j < s.length) : stepL (.one 4) t__law_depth_2 (varM 4) (.int (j : Int)) [some (.d r), some (.d kk), some (.ls false la), some (.ls false (s.map PyData.int)), none]
    = .ok (if j = 0 ∨ s[j]? ≠ s[j - 1]? then some (.int (j : Int)) else none) [some (.d r), some (.d kk), some (.ls false la), some (.ls false (s.map PyData.int)), none] := by
  have e := atI_ints (List.getElem?_eq_getElem hj)
  cases j with
  | zero => simp [stepL_ap, t__law_depth_2_ap]
  | succ j =>
    have e2 := atI_ints (List.getElem?_eq_getElem (show j < s.length by omega))
    have s1 : (j : Int) + 1 - 1 = j := by omega
    have s2 : ¬ ((j : Int) + 1 = 0) := by omega
    simp at e
    rw [List.getElem?_eq_getElem hj, show j + 1 - 1 = j from rfl, List.getElem?_eq_getElem (show j < s.length by omega)]
    by_cases hx : s[j + 1] = s[j]
    · simp [stepL_ap, t__law_depth_2_ap, e, e2, hx, s1, s2]
    · simp [stepL_ap, t__law_depth_2_ap, e, e2, hx, s1, s2]
theorem law_depth_ok (row : List Int) (k : Nat) (hk : k < row.length) (hl : row.length ≤ 24) : F__law_depth [.d (il row), .d (.int (k : Int))] = .ok (.d (optI (depL row k))) [none, none] := by
  have hm : mid (k : Int) = true := mid_nat (by omega)
  have cp := compL_fmap (t := .one 4) (ft := t__law_depth_1) (fe := varM 4) (ρ := [some (.d (il row)), some (.d (.int (k : Int))), none, none, none]) (fun (i : Nat) => PyData.int (i : Int)) (fun j => if row[j]? = some row[k] then some (.int (j : Int)) else none) (List.range k) (by simp; omega)
    (fun j hj => ld_step1 row k hk j (by have := List.mem_range.mp hj; omega))
  have ef : (List.range k).filterMap (fun (j : Nat) => if row[j]? = some row[k] then some (PyData.int (j : Int)) else none) = ((occ row k row[k]).map fun (i : Nat) => (i : Int)).map PyData.int := by
    unfold occ
    rw [List.map_map, ← List.filterMap_eq_map, List.filterMap_filter]
    congr 1
    funext j
    by_cases h : row[j]? = some row[k] <;> simp [h]
  rw [ef] at cp
  have q := eqD_iln ((occ row k row[k]).map fun (i : Nat) => (i : Int))
  rw [depL_dep1 hk]
  by_cases ho : occ row k row[k] = []
  · have hn : row[k] ∉ lru (row.take k) := fun z => by
      have z := ((lru_all _).2 _).mp z
      obtain ⟨j, hj, e⟩ := List.mem_iff_getElem.mp z
      rw [List.length_take] at hj
      rw [List.getElem_take] at e
      have : j ∈ occ row k row[k] := occ_mem.mpr ⟨by omega, by rw [List.getElem?_eq_getElem (by omega), e]⟩
      rw [ho] at this
      cases this
    unfold dep1
    rw [if_neg hn]
    rw [ho] at cp q
    simp at cp q
    simp [F__law_depth, f__law_depth, bodyF_ap, hm, rangeD0, cp, q, optI]
  · obtain ⟨p, hp⟩ : ∃ p, (occ row k row[k]).getLast? = some p := by
      cases h : (occ row k row[k]).getLast? with
      | none => exact absurd (List.getLast?_eq_none_iff.mp h) ho
      | some p => exact ⟨p, rfl⟩
    obtain ⟨p1, p2⟩ := occ_mem.mp (List.mem_of_getLast? hp)
    have pl : ∀ j, p < j → j < k → row[j]? ≠ some row[k] := fun j h1 h2 e => by
      have hj : j ∈ occ row k row[k] := occ_mem.mpr ⟨h2, e⟩
      have pw : (occ row k row[k]).Pairwise (· < ·) := List.Pairwise.filter _ List.pairwise_lt_range
      obtain ⟨ini, e2⟩ : ∃ ini, occ row k row[k] = ini ++ [p] := by
        have hne := ho
        refine ⟨(occ row k row[k]).dropLast, ?_⟩
        have e3 := (List.dropLast_concat_getLast hne).symm
        rw [List.getLast?_eq_some_getLast hne] at hp
        cases hp
        exact e3
      rw [e2] at hj pw
      rcases List.mem_append.mp hj with hj | hj
      · have := (List.pairwise_append.mp pw).2.2 j hj p (by simp)
        omega
      · rw [List.mem_singleton] at hj
        omega
    have hpl : p < row.length := by omega
    have hpx : row[p] = row[k] := by
      rw [List.getElem?_eq_getElem hpl] at p2
      exact Option.some.inj p2
    obtain ⟨rest, hrest⟩ : ∃ rest, rest = (row.drop (p + 1)).take (k - p - 1) := ⟨_, rfl⟩
    have hseg : (row.drop p).take (k - p) = row[k] :: rest := by
      rw [List.drop_eq_getElem_cons hpl, hpx, show k - p = (k - p - 1) + 1 by omega, List.take_succ_cons, hrest]
    have htk : row.take k = row.take p ++ row[k] :: rest := by
      rw [← hseg, show k = p + (k - p) by omega, List.take_add]
      congr 2
      omega
    have hnr : row[k] ∉ rest := fun z => by
      rw [hrest] at z
      obtain ⟨i, hi, e⟩ := List.mem_iff_getElem.mp z
      rw [List.length_take, List.length_drop] at hi
      rw [List.getElem_take, List.getElem_drop] at e
      exact pl (p + 1 + i) (by omega) (by omega) (by rw [List.getElem?_eq_getElem (by omega), e])
    have hd : dep1 (lru (row.take k)) row[k] = some ((lru (row[k] :: rest)).length : Int) := by
      rw [htk]
      exact dep_since _ _ _ hnr
    rw [hd]
    have hsg : (stepsOf (srt (row[k] :: rest))).length = (lru (row[k] :: rest)).length := by
      rw [steps_sorted _ (srt_sorted _)]
      exact lru_len_eq fun x => (srt_perm _).mem_iff
    have hsl : (srt (row[k] :: rest)).length ≤ 24 := by
      rw [srt_len, ← hseg, List.length_take, List.length_drop]
      omega
    have so := sortD_ints (row[k] :: rest)
    have hmi : (((occ row k row[k]).map fun (i : Nat) => (i : Int)).map PyData.int) ≠ [] := by simpa using ho
    have al := atI_last hmi
    have al2 : (((occ row k row[k]).map fun (i : Nat) => (i : Int)).map PyData.int)[(((occ row k row[k]).map fun (i : Nat) => (i : Int)).map PyData.int).length - 1]? = some (.int (p : Int)) := by
      rw [List.getLast?_eq_getElem?] at hp
      rw [List.length_map, List.length_map, List.getElem?_map, List.getElem?_map, hp]
      rfl
    rw [al2] at al
    have cb := cut_both (xs := row.map PyData.int) p k (by simp; omega)
    rw [← List.map_drop, ← List.map_take, hseg] at cb
    have cp2 := compL_fmap (t := .one 4) (ft := t__law_depth_2) (fe := varM 4) (ρ := [some (.d (il row)), some (.d (.int (k : Int))), some (.ls false (((occ row k row[k]).map fun (i : Nat) => (i : Int)).map PyData.int)), some (.ls false ((srt (row[k] :: rest)).map PyData.int)), none]) (fun (i : Nat) => PyData.int (i : Int)) (fun j => if j = 0 ∨ (srt (row[k] :: rest))[j]? ≠ (srt (row[k] :: rest))[j - 1]? then some (.int (j : Int)) else none) (List.range (srt (row[k] :: rest)).length) (by simp; omega)
      (fun j hj => ld_step2 _ _ _ _ j (List.mem_range.mp hj))
    have ef2 : (List.range (srt (row[k] :: rest)).length).filterMap (fun (j : Nat) => if j = 0 ∨ (srt (row[k] :: rest))[j]? ≠ (srt (row[k] :: rest))[j - 1]? then some (PyData.int (j : Int)) else none) = (stepsOf (srt (row[k] :: rest))).map fun (i : Nat) => PyData.int (i : Int) := by
      unfold stepsOf
      rw [← List.filterMap_eq_map, List.filterMap_filter]
      congr 1
      funext j
      by_cases h : j = 0 ∨ (srt (row[k] :: rest))[j]? ≠ (srt (row[k] :: rest))[j - 1]? <;> simp [h]
    rw [ef2] at cp2
    generalize srt (row[k] :: rest) = sg at *
    generalize stepsOf sg = st at *
    generalize hoc : (((occ row k row[k]).map fun (i : Nat) => (i : Int)).map PyData.int) = oc at *
    have hms : mid (sg.length : Int) = true := mid_nat (by omega)
    have q2 : eqD (.list oc) (.list []) = some false := by
      rw [q]
      simp [ho]
    rw [show il row = .list (row.map PyData.int) from rfl] at *
    rw [List.map_cons] at so cb
    simp [F__law_depth, f__law_depth, bodyF_ap, hm, rangeD0, cp, q2, optI, al, slD, cb, so, hms, cp2, hsg]
end G8
namespace G8
open PySem L2
/-! rows.renamed, are_alike -/
theorem renamed_ok {xs : List Int} (h : okRow xs) : F_renamed [.d (il xs)] = .ok (.l ((renP xs).map PyData.int)) [none] := by
  have n := names_ok h
  have cp := compL_map (t := .one 2) (ft := retM true) (fe := e_renamed_1) (ρ := [some (.d (il xs)), some (.ls false ((nms xs).map PyData.int)), none]) PyData.int (fun x => .int ((nms xs).idxOf x : Int)) xs (by have := h.1; omega) (fun x hx => by
    have hi := indexD_ints (((nms_all xs).2.1 x).mpr hx)
    simp [stepL_ap, e_renamed_1, lookD, hi])
  have e : xs.map (fun x => PyData.int ((nms xs).idxOf x : Int)) = (renP xs).map PyData.int := by
    unfold renP
    rw [List.map_map]
    rfl
  rw [e] at cp
  rw [show (uniq xs []) = nms xs from rfl] at n
  rw [il_eq] at n cp ⊢
  simp [F_renamed, f_renamed, bodyF_ap, n, cp]
theorem renamed_bad {xs : List Int} (h : ¬ okRow xs) : F_renamed [.d (il xs)] = .err 0 [none] := by
  have n := names_bad h
  rw [il_eq] at n ⊢
  simp [F_renamed, f_renamed, bodyF_ap, n]
theorem alike_ok {xs ys : List Int} (h : okRow xs) (h2 : okRow ys) : F_are_alike [.d (il xs), .d (il ys)] = .ok (.d (.bool (decide (renP xs = renP ys)))) [none, none] := by
  have n := renamed_ok h
  have n2 := renamed_ok h2
  have e := eqD_il (renP xs) (renP ys)
  rw [il_eq] at n n2
  rw [il_eq, il_eq]
  simp [F_are_alike, f_are_alike, bodyF_ap, n, n2, e]
theorem pick_ok (ns : List Int) (t : List Dt) (xs : List Dt) (hx : xs ≠ []) (ht : t.length < 900000) :
    ∃ x ∈ xs, F__law_pick [.scr ns, .ls true t, .d (.list xs)] = .ok (.d x) [none, some (.ls true (t ++ [.int 0])), none] := by
  have hp := List.length_pos_iff.mpr hx
  obtain ⟨v, v1, v2, dv⟩ := draw_ex ns t (xs.length : Int) (by omega) (by omega)
  obtain ⟨n, rfl⟩ : ∃ n : Nat, v = (n : Int) := ⟨v.toNat, by omega⟩
  have hn : n < xs.length := by omega
  refine ⟨xs[n], List.getElem_mem hn, ?_⟩
  have e : atI xs (n : Int) = some xs[n] := by rw [G8.atI_nat, List.getElem?_eq_getElem hn]
  simp [F__law_pick, f__law_pick, bodyF_ap, dv, e]
end G8
namespace G8
open PySem L2
/-! typed programs: no slots, no data -/
inductive Rs (α : Type) where
  | ok (a : α)
  | er (k : Nat)
  | bad
abbrev T (τ α : Type) := τ → Rs (α × τ)
def rt {τ α : Type} (a : α) : T τ α := fun t => .ok (a, t)
@[irreducible] def bd {τ α β : Type} (f : T τ α) (g : α → T τ β) : T τ β := fun t => match f t with
  | .ok p => g p.1 p.2
  | .er k => .er k
  | .bad => .bad
def up {τ α : Type} (r : Rs α) : T τ α := fun t => match r with
  | .ok a => .ok (a, t)
  | .er k => .er k
  | .bad => .bad
def lo {τ α : Type} (o : Option α) : T τ α := fun t => match o with
  | some a => .ok (a, t)
  | none => .bad
def erT {τ α : Type} (k : Nat) : T τ α := fun _ => .er k
@[simp] theorem bd_rt {τ α β : Type} (a : α) (g : α → T τ β) : bd (rt a) g = g a := by
  unfold bd
  rfl
@[simp] theorem bd_up {τ α β : Type} (a : α) (g : α → T τ β) : bd (up (.ok a)) g = g a := by
  unfold bd
  rfl
@[simp] theorem bd_lo {τ α β : Type} (a : α) (g : α → T τ β) : bd (lo (some a)) g = g a := by
  unfold bd
  rfl
@[simp] theorem up_ok {τ α : Type} (a : α) : (up (.ok a) : T τ α) = rt a := rfl
@[simp] theorem up_er {τ α : Type} (k : Nat) : (up (.er k) : T τ α) = erT k := rfl
@[simp] theorem bd_er {τ α β : Type} (k : Nat) (g : α → T τ β) : bd (erT k) g = erT k := by
  unfold bd
  rfl
@[simp] theorem lo_some {τ α : Type} (a : α) : (lo (some a) : T τ α) = rt a := rfl
theorem bd_bd {τ α β γ : Type} (f : T τ α) (g : α → T τ β) (h : β → T τ γ) : bd (bd f g) h = bd f fun a => bd (g a) h := by
  funext t
  unfold bd
  cases f t <;> rfl
theorem bd_ite {τ α β : Type} (c : Prop) [Decidable c] (f g : T τ α) (h : α → T τ β) : bd (if c then f else g) h = if c then bd f h else bd g h := by
  split <;> rfl
def run1 {α : Type} (m : T Unit α) : Rs α := match m () with
  | .ok p => .ok p.1
  | .er k => .er k
  | .bad => .bad
def noEr {τ α : Type} (m : T τ α) : T τ α := fun t => match m t with
  | .ok p => .ok p
  | _ => .bad
@[simp] theorem run1_rt {α : Type} (a : α) : run1 (rt a) = .ok a := rfl
@[simp] theorem run1_er {α : Type} (k : Nat) : run1 (erT k : T Unit α) = .er k := rfl
@[simp] theorem run1_up {α : Type} (r : Rs α) : run1 (up r) = r := by cases r <;> rfl
@[simp] theorem noEr_rt {τ α : Type} (a : α) : noEr (rt a : T τ α) = rt a := rfl
/-! types of data -/
class Enc (α : Type) where
  enc : α → Dt
  dec : Dt → Option α
  de : ∀ a, dec (enc a) = some a
  ed : ∀ x a, dec x = some a → x = enc a
open Enc (enc dec)
class EncQ (α : Type) extends Enc α where
  dq : DecidableEq α
  dp : Nat
  nc : ∀ a : α, nice dp (enc a)
  eq : ∀ a b : α, PyData.eqv (enc a) (enc b) = decide (a = b)
instance {α : Type} [h : EncQ α] : DecidableEq α := h.dq
class NN (α : Type) [Enc α] : Prop where
  nn : ∀ a : α, isNone (enc a) = false
instance : Enc Dt := ⟨id, some, fun _ => rfl, fun _ _ h => by cases h; rfl⟩
def decI : Dt → Option Int
  | .int i => some i
  | _ => none
instance : Enc Int := ⟨PyData.int, decI, fun _ => rfl, fun x a h => by
  cases x <;> first | (cases h; rfl) | cases h⟩
def decB : Dt → Option Bool
  | .bool i => some i
  | _ => none
instance : Enc Bool := ⟨PyData.bool, decB, fun _ => rfl, fun x a h => by
  cases x <;> first | (cases h; rfl) | cases h⟩
def decS : Dt → Option Str
  | .str i => some i
  | _ => none
instance : Enc Str := ⟨PyData.str, decS, fun _ => rfl, fun x a h => by
  cases x <;> first | (cases h; rfl) | cases h⟩
def decU : Dt → Option Unit
  | .none => some ()
  | _ => none
instance : Enc Unit := ⟨fun _ => PyData.none, decU, fun _ => rfl, fun x a h => by
  cases x <;> first | rfl | cases h⟩
def decAll {α : Type} [Enc α] : List Dt → Option (List α)
  | [] => some []
  | x :: xs => match (dec x : Option α), decAll xs with
    | some a, some as => some (a :: as)
    | _, _ => none
theorem decAll_de {α : Type} [Enc α] : ∀ as : List α, decAll (as.map enc) = some as
  | [] => rfl
  | a :: as => by
    rw [List.map_cons, decAll, Enc.de, decAll_de as]
theorem decAll_ed {α : Type} [Enc α] : ∀ (xs : List Dt) (as : List α), decAll xs = some as → xs = as.map enc
  | [], as, h => by cases h; rfl
  | x :: xs, as, h => by
    rw [decAll] at h
    cases h1 : (dec x : Option α) with
    | none => rw [h1] at h; cases h
    | some a =>
      cases h2 : (decAll xs : Option (List α)) with
      | none => rw [h1, h2] at h; cases h
      | some bs =>
        rw [h1, h2] at h
        cases h
        rw [List.map_cons, ← Enc.ed x a h1, ← decAll_ed xs bs h2]
def decL {α : Type} [Enc α] : Dt → Option (List α)
  | .list xs => decAll xs
  | _ => none
instance {α : Type} [Enc α] : Enc (List α) := ⟨fun as => .list (as.map enc), decL, fun as => decAll_de as, fun x a h => by
  cases x with
  | list xs => rw [decAll_ed xs a h]
  | _ => cases h⟩
def decP {α β : Type} [Enc α] [Enc β] : Dt → Option (α × β)
  | .tuple [x, y] => match (dec x : Option α), (dec y : Option β) with
    | some a, some b => some (a, b)
    | _, _ => none
  | _ => none
instance {α β : Type} [Enc α] [Enc β] : Enc (α × β) := ⟨fun p => .tuple [enc p.1, enc p.2], decP, fun p => by
  show (match (dec (enc p.1) : Option α), (dec (enc p.2) : Option β) with
    | some a, some b => some (a, b)
    | _, _ => none) = _
  rw [Enc.de, Enc.de], fun x p h => by
  unfold decP at h
  split at h
  · rename_i x y
    split at h
    · rename_i a b h1 h2
      cases h
      rw [← Enc.ed x a h1, ← Enc.ed y b h2]
    · cases h
  · cases h⟩
structure T3 (α β γ : Type) where
  a : α
  b : β
  c : γ
def decT {α β γ : Type} [Enc α] [Enc β] [Enc γ] : Dt → Option (T3 α β γ)
  | .tuple [x, y, z] => match (dec x : Option α), (dec y : Option β), (dec z : Option γ) with
    | some a, some b, some c => some ⟨a, b, c⟩
    | _, _, _ => none
  | _ => none
instance {α β γ : Type} [Enc α] [Enc β] [Enc γ] : Enc (T3 α β γ) := ⟨fun p => .tuple [enc p.a, enc p.b, enc p.c], decT, fun p => by
  show (match (dec (enc p.a) : Option α), (dec (enc p.b) : Option β), (dec (enc p.c) : Option γ) with
    | some a, some b, some c => some (⟨a, b, c⟩ : T3 α β γ)
    | _, _, _ => none) = _
  rw [Enc.de, Enc.de, Enc.de], fun x p h => by
  unfold decT at h
  split at h
  · rename_i x y z
    split at h
    · rename_i a b c h1 h2 h3
      cases h
      rw [← Enc.ed x a h1, ← Enc.ed y b h2, ← Enc.ed z c h3]
    · cases h
  · cases h⟩
def encO {α : Type} [Enc α] : Option α → Dt
  | none => .none
  | some a => enc a
def decO {α : Type} [Enc α] (x : Dt) : Option (Option α) := if isNone x then some none else (dec x : Option α).map some
instance {α : Type} [Enc α] [NN α] : Enc (Option α) := ⟨encO, decO, fun o => by
  cases o with
  | none => rfl
  | some a =>
    unfold decO
    show (if isNone (enc a) = true then some none else (dec (enc a)).map some) = _
    rw [NN.nn a, Enc.de]
    rfl, fun x o h => by
  unfold decO at h
  split at h
  · rename_i hn
    cases h
    cases x <;> first | rfl | cases hn
  · cases q : (dec x : Option α) with
    | none => rw [q] at h; cases h
    | some a =>
      rw [q] at h
      cases h
      exact Enc.ed x a q⟩
@[simp] theorem enc_dt (x : Dt) : enc x = x := rfl
@[simp] theorem enc_i (i : Int) : enc i = PyData.int i := rfl
@[simp] theorem enc_b (i : Bool) : enc i = PyData.bool i := rfl
@[simp] theorem enc_s (i : Str) : enc i = PyData.str i := rfl
@[simp] theorem enc_u (i : Unit) : enc i = PyData.none := rfl
theorem enc_l {α : Type} [Enc α] (xs : List α) : enc xs = .list (xs.map enc) := rfl
theorem enc_p {α β : Type} [Enc α] [Enc β] (a : α) (b : β) : enc (a, b) = .tuple [enc a, enc b] := rfl
theorem enc_on {α : Type} [Enc α] [NN α] : enc (none : Option α) = .none := rfl
theorem enc_os {α : Type} [Enc α] [NN α] (a : α) : enc (some a) = enc a := rfl
instance : NN Int := ⟨fun _ => rfl⟩
instance : NN Bool := ⟨fun _ => rfl⟩
instance : NN Str := ⟨fun _ => rfl⟩
instance {α : Type} [Enc α] : NN (List α) := ⟨fun _ => rfl⟩
instance {α β : Type} [Enc α] [Enc β] : NN (α × β) := ⟨fun _ => rfl⟩
instance {α β γ : Type} [Enc α] [Enc β] [Enc γ] : NN (T3 α β γ) := ⟨fun _ => rfl⟩
instance : EncQ Int := ⟨inferInstance, 0, fun i => nice_int 0 i, fun a b => eqv_ii a b⟩
instance : EncQ Bool := ⟨inferInstance, 0, fun i => nice_bool 0 i, fun a b => by
  show PyData.eqv (.bool a) (.bool b) = _
  rw [eqv_bb]
  cases a <;> cases b <;> rfl⟩
instance : EncQ Str := ⟨inferInstance, 0, fun i => nice_str 0 i, fun a b => by
  show PyData.eqv (.str a) (.str b) = _
  rw [eqv_ss]
  by_cases h : a = b <;> simp [h]⟩
instance : EncQ Unit := ⟨inferInstance, 0, fun i => nice_none 0, fun a b => by
  show PyData.eqv .none .none = _
  rw [eqv_nn]
  rfl⟩
theorem eqvA_enc {α : Type} [EncQ α] : ∀ (xs ys : List α), PyData.eqvAll (xs.map enc) (ys.map enc) = decide (xs = ys)
  | [], [] => by simp
  | [], _ :: _ => by simp
  | _ :: _, [] => by simp
  | x :: xs, y :: ys => by
    rw [List.map_cons, List.map_cons, eqvA_cc, EncQ.eq, eqvA_enc xs ys]
    simp [Bool.decide_and]
theorem eqv_ol {α : Type} [EncQ α] [NN α] (a b : Option α) : PyData.eqv (encO a) (encO b) = decide (a = b) := by
  have ne : ∀ x : Dt, isNone x = false → PyData.eqv x .none = false ∧ PyData.eqv .none x = false := fun x h => by
    cases x <;> first | (cases h; done) | (constructor <;> rw [PyData.eqv])
  cases a with
  | none =>
    cases b with
    | none => simp [encO]
    | some b =>
      show PyData.eqv .none (enc b) = _
      rw [(ne _ (NN.nn b)).2]
      simp
  | some a =>
    cases b with
    | none =>
      show PyData.eqv (enc a) .none = _
      rw [(ne _ (NN.nn a)).1]
      simp
    | some b =>
      show PyData.eqv (enc a) (enc b) = _
      rw [EncQ.eq]
      simp
instance instQL {α : Type} [EncQ α] : EncQ (List α) := ⟨inferInstance, EncQ.dp α + 1, fun xs => nice_list fun x hx => by
  obtain ⟨a, _, rfl⟩ := List.mem_map.mp hx
  exact EncQ.nc a, fun a b => by
  show PyData.eqv (.list _) (.list _) = _
  rw [eqv_ll, eqvA_enc]⟩
instance instQP {α β : Type} [EncQ α] [EncQ β] : EncQ (α × β) := ⟨inferInstance, max (EncQ.dp α) (EncQ.dp β) + 1, fun p => nice_tuple fun x hx => by
  simp only [List.mem_cons, List.not_mem_nil, or_false] at hx
  rcases hx with rfl | rfl
  · exact nice_up (EncQ.nc p.1) (Nat.le_max_left ..)
  · exact nice_up (EncQ.nc p.2) (Nat.le_max_right ..), fun a b => by
  obtain ⟨a1, a2⟩ := a
  obtain ⟨b1, b2⟩ := b
  show PyData.eqv (.tuple [_, _]) (.tuple [_, _]) = _
  rw [eqv_tt, eqvA_cc, eqvA_cc, eqvA_nn, EncQ.eq, EncQ.eq]
  simp [Bool.decide_and]⟩
instance instQO {α : Type} [EncQ α] [NN α] : EncQ (Option α) := ⟨inferInstance, EncQ.dp α, fun o => by
  cases o with
  | none => exact nice_none _
  | some a => exact EncQ.nc a, fun a b => eqv_ol a b⟩
instance {α β γ : Type} [DecidableEq α] [DecidableEq β] [DecidableEq γ] : DecidableEq (T3 α β γ) := fun x y => decidable_of_iff (x.a = y.a ∧ x.b = y.b ∧ x.c = y.c) ⟨fun h => by
  cases x
  cases y
  simp at h
  simp [h], fun h => by simp [h]⟩
instance instQT {α β γ : Type} [EncQ α] [EncQ β] [EncQ γ] : EncQ (T3 α β γ) := ⟨inferInstance, max (EncQ.dp α) (max (EncQ.dp β) (EncQ.dp γ)) + 1, fun p => nice_tuple fun x hx => by
  simp only [List.mem_cons, List.not_mem_nil, or_false] at hx
  rcases hx with rfl | rfl | rfl
  · exact nice_up (EncQ.nc p.a) (Nat.le_max_left ..)
  · exact nice_up (EncQ.nc p.b) (Nat.le_trans (Nat.le_max_left ..) (Nat.le_max_right ..))
  · exact nice_up (EncQ.nc p.c) (Nat.le_trans (Nat.le_max_right ..) (Nat.le_max_right ..)), fun a b => by
  obtain ⟨a1, a2, a3⟩ := a
  obtain ⟨b1, b2, b3⟩ := b
  show PyData.eqv (.tuple [_, _, _]) (.tuple [_, _, _]) = _
  rw [eqv_tt, eqvA_cc, eqvA_cc, eqvA_cc, eqvA_nn, EncQ.eq, EncQ.eq, EncQ.eq]
  simp [Bool.decide_and]⟩
/-! what an M does, by a typed program -/
section
variable {τ α β γ δ : Type}
def Sat {A : Type} (o : Out A) (r : Rs (α × τ)) (E : τ → Ev) (P : α → A → Prop) : Prop := match r with
  | .ok p => ∃ v, o = .ok v (E p.2) ∧ P p.1 v
  | .er k => ∃ u, o = .err k (E u)
  | .bad => True
def J {A : Type} (P : α → A → Prop) (f : M A) (E : τ → Ev) (m : T τ α) : Prop := ∀ t, Sat (f (E t)) (m t) E P
/-- frozen data -/
def pZ [Enc α] (E : τ → Ev) : α → Av → Prop := fun a v => ∀ u, fzv (E u) v = some (enc a)
/-- readable data -/
def pR [Enc α] (E : τ → Ev) : α → Av → Prop := fun a v => ∀ u, res (E u) v = some (enc a)
def pD [Enc α] : α → Rv → Prop := fun a r => r = .d (enc a)
def pL [Enc α] : List α → Rv → Prop := fun a r => r = .l (a.map enc)
def pX [Enc α] : α → Rv → Prop := fun a r => r = .d (enc a) ∨ ∃ xs, enc a = .list xs ∧ r = .l xs
def pB : Bool → Bool → Prop := fun a b => b = a
def pI [Enc α] : List α → List Dt → Prop := fun a ds => ds = a.map enc
abbrev JE [Enc α] (f : M Av) (E : τ → Ev) (m : T τ α) : Prop := J (pZ E) f E m
abbrev JR [Enc α] (f : M Av) (E : τ → Ev) (m : T τ α) : Prop := J (pR E) f E m
abbrev JD [Enc α] (f : M Rv) (E : τ → Ev) (m : T τ α) : Prop := J pD f E m
abbrev JL [Enc α] (f : M Rv) (E : τ → Ev) (m : T τ (List α)) : Prop := J pL f E m
abbrev JX [Enc α] (f : M Rv) (E : τ → Ev) (m : T τ α) : Prop := J pX f E m
abbrev JT (f : M Bool) (E : τ → Ev) (m : T τ Bool) : Prop := J pB f E m
abbrev JI [Enc α] (f : M (List Dt)) (E : τ → Ev) (m : T τ (List α)) : Prop := J pI f E m
theorem J.bind {A B : Type} {P : α → A → Prop} {Q : β → B → Prop} {f : M A} {g : A → M B} {E : τ → Ev} {m : T τ α} {q : α → T τ β} (h : J P f E m) (k : ∀ a v, P a v → J Q (g v) E (q a)) : J Q (bindM f g) E (bd m q) := fun t => by
  have h := h t
  rw [bindM_ap]
  unfold bd
  cases e : m t with
  | ok p =>
    rw [e] at h
    obtain ⟨v, h1, h2⟩ := h
    rw [h1]
    exact k p.1 v h2 p.2
  | er k =>
    rw [e] at h
    obtain ⟨u, h1⟩ := h
    rw [h1]
    exact ⟨u, rfl⟩
  | bad => trivial
theorem J.ret {A : Type} {P : α → A → Prop} {E : τ → Ev} {a : α} {v : A} (h : P a v) : J P (retM v) E (rt a) := fun t => ⟨v, rfl, h⟩
theorem J.opt {A : Type} {P : α → A → Prop} {E : τ → Ev} {g : Ev → Option A} {o : Option α} (h : ∀ a, o = some a → ∃ v, P a v ∧ ∀ u, g (E u) = some v) : J P (optM g) E (lo o) := fun t => by
  cases e : o with
  | none => trivial
  | some a =>
    obtain ⟨v, h1, h2⟩ := h a e
    refine ⟨v, ?_, h1⟩
    rw [optM_ap, h2]
theorem J.imp {A : Type} {P Q : α → A → Prop} {f : M A} {E : τ → Ev} {m : T τ α} (h : J P f E m) (k : ∀ a v, P a v → Q a v) : J Q f E m := fun t => by
  have h := h t
  unfold Sat at h ⊢
  split
  · rename_i p e
    rw [e] at h
    obtain ⟨v, h1, h2⟩ := h
    exact ⟨v, h1, k _ _ h2⟩
  · rename_i k e
    rw [e] at h
    exact h
  · trivial
theorem J.map {A : Type} {P : α → A → Prop} {Q : β → A → Prop} {f : M A} {E : τ → Ev} {m : T τ α} {g : α → β} (h : J P f E m) (k : ∀ a v, P a v → Q (g a) v) : J Q f E (bd m fun a => rt (g a)) := fun t => by
  have h := h t
  unfold bd Sat at *
  cases e : m t with
  | ok p =>
    rw [e] at h
    obtain ⟨v, h1, h2⟩ := h
    exact ⟨v, h1, k _ _ h2⟩
  | er k => rw [e] at h; exact h
  | bad => trivial
theorem J.mapo {A : Type} {P : α → A → Prop} {Q : β → A → Prop} {f : M A} {E : τ → Ev} {m : T τ α} {g : α → Option β} (h : J P f E m) (k : ∀ a b v, P a v → g a = some b → Q b v) : J Q f E (bd m fun a => lo (g a)) := fun t => by
  have h := h t
  unfold bd Sat lo at *
  cases e : m t with
  | ok p =>
    rw [e] at h
    obtain ⟨v, h1, h2⟩ := h
    dsimp only
    cases q : g p.1 with
    | none => trivial
    | some b => exact ⟨v, h1, k _ _ _ h2 q⟩
  | er k => rw [e] at h; exact h
  | bad => trivial
theorem fzv_res {ρ : Ev} {v : Av} {x : Dt} (h : fzv ρ v = some x) : res ρ v = some x := by
  cases v with
  | d y => exact h
  | s i =>
    have h : slotZ ρ[i]? = some x := h
    show slotD ρ[i]? = some x
    unfold slotZ at h
    split at h
    · rename_i y q
      rw [q]
      exact h
    · cases h
variable [Enc α] [Enc β] [Enc γ] {E : τ → Ev}
theorem JE.r {f : M Av} {m : T τ α} (h : JE f E m) : JR f E m := h.imp fun _ _ k u => fzv_res (k u)
/-! coercions -/
theorem j_some [NN α] {f : M Av} {m : T τ α} (h : JE f E m) : JE f E (bd m fun a => rt (some a)) := h.map fun _ _ k => k
theorem j_getO [NN α] {f : M Av} {m : T τ (Option α)} (h : JE f E m) : JE f E (bd m fun a => lo a) := h.mapo fun a b v k e => by subst e; exact k
theorem j_dt {f : M Av} {m : T τ α} (h : JE f E m) : JE f E (bd m fun a => rt (enc a)) := h.map fun _ _ k => k
theorem j_dec {f : M Av} {m : T τ Dt} (h : JE f E m) : JE f E (bd m fun a => lo (dec a : Option α)) := h.mapo fun a b v k e u => by
  rw [k u, ← Enc.ed a b e]
  rfl
theorem j_noneO [NN α] {f : M Av} {m : T τ Unit} (h : JE f E m) : JE f E (bd m fun _ => rt (none : Option α)) := h.map fun _ _ k => k
theorem jx_dt {f : M Rv} {m : T τ α} (h : JX f E m) : JX f E (bd m fun a => rt (enc a)) := h.map fun _ _ k => k
theorem jx_some [NN α] {f : M Rv} {m : T τ α} (h : JX f E m) : JX f E (bd m fun a => rt (some a)) := h.map fun _ _ k => k
theorem jx_none [NN α] {f : M Rv} {m : T τ Unit} (h : JX f E m) : JX f E (bd m fun _ => rt (none : Option α)) := h.map fun _ _ k => by
  rcases k with k | ⟨xs, k, _⟩
  · exact .inl k
  · cases k
theorem j_dx {f : M Rv} {m : T τ α} (h : JD f E m) : JX f E m := h.imp fun _ _ k => .inl k
theorem j_lx {f : M Rv} {m : T τ (List α)} (h : JL f E m) : JX f E m := h.imp fun _ _ k => .inr ⟨_, rfl, k⟩
theorem j_frzX {f : M Rv} {m : T τ α} (h : JX f E m) : JE (frzM f) E m := fun t => by
  have h := h t
  unfold Sat at *
  rw [frzM_ap]
  cases e : m t with
  | ok p =>
    rw [e] at h
    obtain ⟨v, h1, h2⟩ := h
    rw [h1]
    rcases h2 with h2 | ⟨xs, h2, h3⟩
    · exact ⟨.d (enc p.1), by rw [h2], fun u => rfl⟩
    · exact ⟨.d (enc p.1), by rw [h2, h3], fun u => rfl⟩
  | er k =>
    rw [e] at h
    obtain ⟨u, h1⟩ := h
    exact ⟨u, by rw [h1]⟩
  | bad => trivial
theorem j_frzD {f : M Rv} {m : T τ α} (h : JD f E m) : JE (frzM f) E m := j_frzX (j_dx h)
theorem j_frzL {f : M Rv} {m : T τ (List α)} (h : JL f E m) : JE (frzM f) E m := j_frzX (j_lx h)
theorem j_data {f : M Av} {m : T τ α} (h : JE f E m) : JD (dataM f) E m := fun t => by
  have h := h t
  unfold Sat at *
  rw [dataM_ap, bindM_ap]
  cases e : m t with
  | ok p =>
    rw [e] at h
    obtain ⟨v, h1, h2⟩ := h
    rw [h1]
    exact ⟨.d (enc p.1), by simp only [optM_ap, h2 p.2]; rfl, rfl⟩
  | er k =>
    rw [e] at h
    obtain ⟨u, h1⟩ := h
    exact ⟨u, by rw [h1]⟩
  | bad => trivial
/-! leaves -/
theorem j_c {x : Dt} {a : α} (h : x = enc a) : JE (retM (.d x)) E (rt a) := J.ret fun _ => by rw [← h]; rfl
theorem j_v (i : Nat) {a : α} (h : ∀ u, (E u)[i]? = some (some (.d (enc a)))) : JE (varM i) E (rt a) := fun t => ⟨.s i, by rw [varM_ap, h], fun u => by
  show slotZ (E u)[i]? = _
  rw [h]
  rfl⟩
theorem j_vl (i : Nat) {a : List α} {r : Bool} (h : ∀ u, (E u)[i]? = some (some (.ls r (a.map enc)))) : JR (varM i) E (rt a) := fun t => ⟨.s i, by rw [varM_ap, h], fun u => by
  show slotD (E u)[i]? = _
  rw [h]
  rfl⟩
def lsv (b : Bool) (xs : List Dt) : Sv := if b then .d (.list xs) else .ls false xs
theorem j_vx (i : Nat) {a : List α} {r : Bool} (h : ∀ u, (E u)[i]? = some (some (lsv r (a.map enc)))) : JR (varM i) E (rt a) := fun t => ⟨.s i, by rw [varM_ap, h], fun u => by
  show slotD (E u)[i]? = _
  rw [h]
  cases r <;> rfl⟩
/-! operators -/
theorem j_bin {P : γ → Rv → Prop} {g : Dt → Dt → Option Rv} {fa fb : M Av} {ma : T τ α} {mb : T τ β} {op : α → β → Option γ} (hop : ∀ a b c, op a b = some c → ∃ r, P c r ∧ g (enc a) (enc b) = some r) (ha : JR fa E ma) (hb : JR fb E mb) : J P (bin2 g fa fb) E (bd ma fun a => bd mb fun b => lo (op a b)) :=
  J.bind ha fun a v h1 => J.bind hb fun b w h2 => J.opt fun c e => by
    obtain ⟨r, q1, q2⟩ := hop a b c e
    exact ⟨r, q1, fun u => by rw [h1 u, h2 u]; exact q2⟩
theorem j_un {P : γ → Rv → Prop} {g : Dt → Option Rv} {fa : M Av} {ma : T τ α} {op : α → Option γ} (hop : ∀ a c, op a = some c → ∃ r, P c r ∧ g (enc a) = some r) (ha : JR fa E ma) : J P (un1 g fa) E (bd ma fun a => lo (op a)) :=
  J.bind ha fun a v h1 => J.opt fun c e => by
    obtain ⟨r, q1, q2⟩ := hop a c e
    exact ⟨r, q1, fun u => by rw [h1 u]; exact q2⟩
theorem j_cmp {g : Dt → Dt → Option Bool} {fa fb : M Av} {ma : T τ α} {mb : T τ β} {op : α → β → Option Bool} (hop : ∀ a b c, op a b = some c → g (enc a) (enc b) = some c) (ha : JR fa E ma) (hb : JR fb E mb) : JE (cmpM g fa fb) E (bd ma fun a => bd mb fun b => lo (op a b)) :=
  J.bind ha fun a v h1 => J.bind hb fun b w h2 => J.opt fun c e => ⟨.d (.bool c), fun u => rfl, fun u => by
    rw [h1 u, h2 u]
    show (g (enc a) (enc b)).map _ = _
    rw [hop a b c e]
    rfl⟩
theorem j_cmpT {g : Dt → Dt → Option Bool} {fa fb : M Av} {ma : T τ α} {mb : T τ β} {op : α → β → Option Bool} (hop : ∀ a b c, op a b = some c → g (enc a) (enc b) = some c) (ha : JR fa E ma) (hb : JR fb E mb) : JT (cmpT g fa fb) E (bd ma fun a => bd mb fun b => lo (op a b)) :=
  J.bind ha fun a v h1 => J.bind hb fun b w h2 => J.opt fun c e => ⟨c, rfl, fun u => by
    rw [h1 u, h2 u]
    exact hop a b c e⟩
end
end G8
namespace G8
open PySem L2
open Enc (enc dec)
structure Tu (α : Type) where
  l : List α
def decTu {α : Type} [Enc α] : Dt → Option (Tu α)
  | .tuple xs => (decAll xs).map Tu.mk
  | _ => none
instance {α : Type} [Enc α] : Enc (Tu α) := ⟨fun as => .tuple (as.l.map enc), decTu, fun as => by
  show (decAll (as.l.map enc)).map Tu.mk = some as
  rw [decAll_de]
  rfl, fun x a h => by
  cases x with
  | tuple xs =>
    cases q : (decAll xs : Option (List α)) with
    | none => rw [decTu, q] at h; cases h
    | some bs =>
      rw [decTu, q] at h
      cases h
      rw [decAll_ed xs bs q]
  | _ => cases h⟩
/-! operators on data -/
section
variable {α β γ : Type} [Enc α] [Enc β] [Enc γ]
theorem q_addI : ∀ (a b c : Int), some (a + b) = some c → ∃ r, pD c r ∧ addD (enc a) (enc b) = some r := fun a b c h => by cases h; exact ⟨_, rfl, rfl⟩
def addL (a b : List α) : Option (List α) := if a.length + b.length ≤ 1000000 then some (a ++ b) else none
theorem q_addL : ∀ (a b c : List α), addL a b = some c → ∃ r, pL c r ∧ addD (enc a) (enc b) = some r := fun a b c h => by
  unfold addL at h
  split at h
  · rename_i hl
    cases h
    refine ⟨_, rfl, ?_⟩
    show (if (a.map enc).length + (b.map enc).length ≤ 1000000 then some (Rv.l (a.map enc ++ b.map enc)) else none) = _
    rw [List.length_map, List.length_map, if_pos hl, List.map_append]
  · cases h
def addS (a b : Str) : Option Str := if a.length + b.length ≤ 1000000 then some (a ++ b) else none
theorem q_addS : ∀ (a b c : Str), addS a b = some c → ∃ r, pD c r ∧ addD (enc a) (enc b) = some r := fun a b c h => by
  unfold addS at h
  split at h
  · rename_i hl
    cases h
    refine ⟨_, rfl, ?_⟩
    show (if a.length + b.length ≤ 1000000 then some (Rv.d (.str (a ++ b))) else none) = _
    rw [if_pos hl]
    rfl
  · cases h
theorem q_subI : ∀ (a b c : Int), some (a - b) = some c → ∃ r, pD c r ∧ subD (enc a) (enc b) = some r := fun a b c h => by cases h; exact ⟨_, rfl, rfl⟩
def mulI (a b : Int) : Option Int := if small64 a || small64 b then some (a * b) else none
theorem q_mulI : ∀ (a b c : Int), mulI a b = some c → ∃ r, pD c r ∧ mulD (enc a) (enc b) = some r := fun a b c h => by
  unfold mulI at h
  split at h
  · rename_i hl
    cases h
    refine ⟨_, rfl, ?_⟩
    show (if small64 a || small64 b then some (Rv.d (.int (a * b))) else none) = _
    rw [if_pos hl]
    rfl
  · cases h
def mulL (a : List α) (k : Int) : Option (List α) := if k ≤ 1000 ∧ -1000 ≤ k ∧ a.length ≤ 1000 then some (List.replicate k.toNat a).flatten else none
theorem q_mulL : ∀ (a : List α) (k : Int) (c : List α), mulL a k = some c → ∃ r, pL c r ∧ mulD (enc a) (enc k) = some r := fun a k c h => by
  unfold mulL at h
  split at h
  · rename_i hl
    cases h
    refine ⟨_, rfl, ?_⟩
    have hm : mid k = true := by
      unfold mid
      exact Nat.blt_eq.mpr (by omega)
    show (if mid k && decide (k ≤ 1000) && decide ((a.map enc).length ≤ 1000) then some (Rv.l (List.replicate k.toNat (a.map enc)).flatten) else none) = _
    rw [if_pos (by simp [hm, hl.1, hl.2.2])]
    rw [List.map_flatten, List.map_replicate]
  · cases h
def fdivI (a b : Int) : Option Int := if 0 < b ∧ b.natAbs < 1073741824 then some (a / b) else none
theorem q_fdivI : ∀ (a b c : Int), fdivI a b = some c → ∃ r, pD c r ∧ fdivD (enc a) (enc b) = some r := fun a b c h => by
  unfold fdivI at h
  split at h
  · rename_i hl
    cases h
    refine ⟨_, rfl, ?_⟩
    show (if 0 < b ∧ b.natAbs < 1073741824 then some (Rv.d (.int (a / b))) else none) = _
    rw [if_pos hl]
    rfl
  · cases h
def modI (a b : Int) : Option Int := if 0 < b then some (a % b) else none
theorem q_modI : ∀ (a b c : Int), modI a b = some c → ∃ r, pD c r ∧ modD (enc a) (enc b) = some r := fun a b c h => by
  unfold modI at h
  split at h
  · rename_i hl
    cases h
    refine ⟨_, rfl, ?_⟩
    show (if 0 < b then some (Rv.d (.int (a % b))) else none) = _
    rw [if_pos hl]
    rfl
  · cases h
theorem q_negI : ∀ (a c : Int), some (-a) = some c → ∃ r, pD c r ∧ negD (enc a) = some r := fun a c h => by cases h; exact ⟨_, rfl, rfl⟩
theorem atI_map {δ ε : Type} (f : δ → ε) (xs : List δ) (i : Int) : atI (xs.map f) i = (atI xs i).map f := by
  unfold atI
  rw [List.length_map]
  cases ixN xs.length i with
  | none => rfl
  | some j =>
    show (xs.map f)[j]? = (xs[j]?).map f
    rw [List.getElem?_map]
theorem q_ixL : ∀ (a : List α) (i : Int) (c : α), atI a i = some c → ∃ r, pD c r ∧ ixD (enc a) (enc i) = some r := fun a i c h => by
  refine ⟨_, rfl, ?_⟩
  show (atI (a.map enc) i).map Rv.d = _
  rw [atI_map, h]
  rfl
def ixSt (s : Str) (i : Int) : Option Str := if s.length ≤ 1000000 then (atI s.cps.toList i).map fun c => ⟨#[c]⟩ else none
theorem q_ixS : ∀ (a : Str) (i : Int) (c : Str), ixSt a i = some c → ∃ r, pD c r ∧ ixD (enc a) (enc i) = some r := fun a i c h => by
  unfold ixSt at h
  split at h
  · rename_i hl
    refine ⟨_, rfl, ?_⟩
    show (if a.length ≤ 1000000 then (atI a.cps.toList i).map fun c => Rv.d (.str ⟨#[c]⟩) else none) = _
    rw [if_pos hl]
    cases q : atI a.cps.toList i with
    | none => rw [q] at h; cases h
    | some x =>
      rw [q] at h
      cases h
      rfl
  · cases h
/-! comparisons -/
theorem q_lt : ∀ (a b : Int) (c : Bool), some (decide (a < b)) = some c → ltI (enc a) (enc b) = some c := fun a b c h => h
theorem q_le : ∀ (a b : Int) (c : Bool), some (decide (a ≤ b)) = some c → leI (enc a) (enc b) = some c := fun a b c h => h
theorem q_gt : ∀ (a b : Int) (c : Bool), some (decide (b < a)) = some c → gtI (enc a) (enc b) = some c := fun a b c h => h
theorem q_ge : ∀ (a b : Int) (c : Bool), some (decide (b ≤ a)) = some c → geI (enc a) (enc b) = some c := fun a b c h => h
theorem q_ltT : ∀ (a b : Int × Int) (c : Bool), some (lt2 a b) = some c → ltT (enc a) (enc b) = some c := fun a b c h => h
theorem shal_enc {α : Type} [EncQ α] (h : EncQ.dp α ≤ 59) (a : α) : shal (enc a) = true := shal_nice (nice_up (EncQ.nc a) (by omega))
def eqT {α : Type} [h : EncQ α] (a b : α) : Bool := @decide (a = b) (h.dq a b)
theorem eqT_iff {α : Type} [h : EncQ α] (a b : α) : eqT a b = true ↔ a = b := @decide_eq_true_iff (a = b) (h.dq a b)
theorem eqT_eq {α : Type} [h : EncQ α] (a b : α) [Decidable (a = b)] : eqT a b = decide (a = b) := by
  rw [Bool.eq_iff_iff, eqT_iff, decide_eq_true_iff]
def inL {α : Type} [EncQ α] (a : α) (xs : List α) : Bool := xs.any fun x => eqT x a
theorem inL_iff {α : Type} [EncQ α] (a : α) (xs : List α) : inL a xs = true ↔ a ∈ xs := by
  unfold inL
  rw [List.any_eq_true]
  constructor
  · rintro ⟨x, h1, h2⟩
    rw [eqT_iff] at h2
    exact h2 ▸ h1
  · exact fun h => ⟨a, h, (eqT_iff a a).mpr rfl⟩
theorem inL_eq {α : Type} [EncQ α] (a : α) (xs : List α) [Decidable (a ∈ xs)] : inL a xs = decide (a ∈ xs) := by
  rw [Bool.eq_iff_iff, inL_iff, decide_eq_true_iff]
theorem q_eq {α : Type} [EncQ α] (h : EncQ.dp α ≤ 59) : ∀ (a b : α) (c : Bool), some (eqT a b) = some c → eqD (enc a) (enc b) = some c := fun a b c e => by
  unfold eqD
  rw [shal_enc h, shal_enc h, EncQ.eq]
  exact e
theorem q_ne {α : Type} [EncQ α] (h : EncQ.dp α ≤ 59) : ∀ (a b : α) (c : Bool), some (!eqT a b) = some c → neD (enc a) (enc b) = some c := fun a b c e => by
  unfold neD
  rw [shal_enc h, shal_enc h, EncQ.eq]
  exact e
theorem q_eqX : ∀ (a : α) (b : β) (c : Bool), eqD (enc a) (enc b) = some c → eqD (enc a) (enc b) = some c := fun _ _ _ h => h
theorem q_neX : ∀ (a : α) (b : β) (c : Bool), neD (enc a) (enc b) = some c → neD (enc a) (enc b) = some c := fun _ _ _ h => h
theorem any_enc {α : Type} [EncQ α] (a : α) : ∀ xs : List α, ((xs.map enc).any fun z => PyData.eqv z (enc a)) = inL a xs
  | [] => by simp [inL]
  | x :: xs => by
    have ih := any_enc a xs
    unfold inL at ih ⊢
    rw [List.map_cons, List.any_cons, List.any_cons, ih, EncQ.eq]
    rfl
theorem shalL_enc {α : Type} [EncQ α] (h : EncQ.dp α ≤ 59) (xs : List α) : shalL (xs.map enc) = true := shalL_nice fun x hx => by
  obtain ⟨a, _, rfl⟩ := List.mem_map.mp hx
  exact nice_up (EncQ.nc a) (by omega)
theorem q_in {α : Type} [EncQ α] (h : EncQ.dp α ≤ 59) : ∀ (a : α) (b : List α) (c : Bool), some (inL a b) = some c → inD (enc a) (enc b) = some c := fun a b c e => by
  show (if shal (enc a) && shalL (b.map enc) then some ((b.map enc).any fun z => PyData.eqv z (enc a)) else none) = _
  rw [shal_enc h, shalL_enc h, any_enc]
  exact e
theorem q_nin {α : Type} [EncQ α] (h : EncQ.dp α ≤ 59) : ∀ (a : α) (b : List α) (c : Bool), some (!inL a b) = some c → ninD (enc a) (enc b) = some c := fun a b c e => by
  unfold ninD
  rw [q_in h a b _ rfl]
  exact e
theorem q_inU {α : Type} [EncQ α] (h : EncQ.dp α ≤ 59) : ∀ (a : α) (b : Tu α) (c : Bool), some (inL a b.l) = some c → inD (enc a) (enc b) = some c := fun a b c e => q_in h a b.l c e
theorem q_ninU {α : Type} [EncQ α] (h : EncQ.dp α ≤ 59) : ∀ (a : α) (b : Tu α) (c : Bool), some (!inL a b.l) = some c → ninD (enc a) (enc b) = some c := fun a b c e => q_nin h a b.l c e
end
/-! tests, and, or, not, if -/
section
variable {τ α β γ : Type} {E : τ → Ev}
theorem bindM_ret {A B : Type} (a : A) (g : A → M B) : bindM (retM a) g = g a := rfl
class Tr (α : Type) extends Enc α where
  tr : α → Bool
  ok : ∀ a, truth (enc a) = some (tr a)
instance : Tr Bool := ⟨id, fun _ => rfl⟩
instance : Tr Int := ⟨fun i => decide (i ≠ 0), fun i => by
  show some (i != 0) = _
  congr 1
  by_cases h : i = 0 <;> simp [h]⟩
instance {α : Type} [Enc α] : Tr (List α) := ⟨fun a => !a.isEmpty, fun a => by
  show some (!(a.map enc).isEmpty) = _
  cases a <;> rfl⟩
theorem tru_is {ρ : Ev} {v : Av} {x : Dt} {b : Bool} (h : res ρ v = some x) (k : truth x = some b) : tru ρ v = some b := by
  cases v with
  | d y => cases h; exact k
  | s i =>
    have h : slotD ρ[i]? = some x := h
    show slotT ρ[i]? = some b
    unfold slotD at h
    split at h
    · rename_i y q
      cases h
      rw [q]
      exact k
    · rename_i r xs q
      cases h
      rw [q]
      exact k
    · cases h
theorem j_test [Tr α] {f : M Av} {m : T τ α} (h : JR f E m) : JT (testM f) E (bd m fun a => rt (Tr.tr a)) :=
  J.bind h fun a v k => (J.opt fun c e => by cases e; exact ⟨_, rfl, fun u => tru_is (k u) (Tr.ok a)⟩ : J pB _ E (lo (some (Tr.tr a))))
theorem j_testB {f : M Av} {m : T τ Bool} (h : JR f E m) : JT (testM f) E m := fun t => by
  have := j_test h t
  unfold bd rt at this
  cases e : m t with
  | ok p => rw [e] at this; exact this
  | er k => rw [e] at this; exact this
  | bad => trivial
/-- script is not empty -/
theorem j_not {f : M Bool} {m : T τ Bool} (h : JT f E m) : JT (notM f) E (bd m fun a => rt (!a)) := J.bind h fun a v k => J.ret (by cases k; rfl)
theorem j_and {f g : M Bool} {m q : T τ Bool} (h : JT f E m) (k : JT g E q) : JT (andM f g) E (bd m fun a => if a then q else rt false) := J.bind h fun a v e => by
  cases e
  cases a
  · exact J.ret rfl
  · exact k
theorem j_or {f g : M Bool} {m q : T τ Bool} (h : JT f E m) (k : JT g E q) : JT (orM f g) E (bd m fun a => if a then rt true else q) := J.bind h fun a v e => by
  cases e
  cases a
  · exact k
  · exact J.ret rfl
theorem j_if {A : Type} {P : γ → A → Prop} {f : M Bool} {g h : M A} {m : T τ Bool} {q r : T τ γ} (h1 : JT f E m) (h2 : J P g E q) (h3 : J P h E r) : J P (ifM f g h) E (bd m fun a => if a then q else r) := J.bind h1 fun a v e => by
  cases e
  cases a
  · exact h3
  · exact h2
theorem j_notV {f : M Av} {m : T τ Bool} (h : JT (testM f) E m) : JE (notV f) E (bd m fun a => rt (!a)) := J.bind h fun a v k => J.ret (by cases k; exact fun u => rfl)
theorem j_andV {f g : M Av} {m q : T τ Bool} (h : JE f E m) (k : JE g E q) : JE (andV f g) E (bd m fun a => if a then q else rt false) := J.bind h fun a v e => fun t => by
  have ht : tru (E t) v = some a := tru_is (fzv_res (e t)) rfl
  rw [bindM_ap, optM_ap, ht]
  cases a with
  | true => exact k t
  | false => exact ⟨v, rfl, e⟩
theorem j_orV {f g : M Av} {m q : T τ Bool} (h : JE f E m) (k : JE g E q) : JE (orV f g) E (bd m fun a => if a then rt true else q) := J.bind h fun a v e => fun t => by
  have ht : tru (E t) v = some a := tru_is (fzv_res (e t)) rfl
  rw [bindM_ap, optM_ap, ht]
  cases a with
  | true => exact ⟨v, rfl, e⟩
  | false => exact k t
/-! is None -/
theorem non_of {ρ : Ev} {v : Av} {x : Dt} (h : res ρ v = some x) : nonA ρ v = some (isNone x) := by
  cases v with
  | d y => cases h; rfl
  | s i =>
    have h : slotD ρ[i]? = some x := h
    rw [nonA_s]
    unfold slotD at h
    split at h
    · rename_i y q
      cases h
      rw [q]
    · rename_i r xs q
      cases h
      rw [q]
      rfl
    · cases h
def isNoneT [Enc α] (a : α) : Bool := isNone (enc a)
@[simp] theorem isNoneT_n [Enc α] [NN α] : isNoneT (none : Option α) = true := rfl
@[simp] theorem isNoneT_s [Enc α] [NN α] (a : α) : isNoneT (some a) = false := NN.nn a
theorem j_isN [Enc α] {f : M Av} {m : T τ α} (h : JR f E m) : JE (isN false f) E (bd m fun a => rt (isNoneT a)) :=
  J.bind h fun a v k => (J.opt fun c e => by cases e; exact ⟨.d (.bool (isNoneT a)), fun u => rfl, fun u => by rw [non_of (k u)]; rfl⟩ : J (pZ E) _ E (lo (some (isNoneT a))))
theorem j_ntN [Enc α] {f : M Av} {m : T τ α} (h : JR f E m) : JE (isN true f) E (bd m fun a => rt (!isNoneT a)) :=
  J.bind h fun a v k => (J.opt fun c e => by cases e; exact ⟨.d (.bool (!isNoneT a)), fun u => rfl, fun u => by rw [non_of (k u)]; rfl⟩ : J (pZ E) _ E (lo (some (!isNoneT a))))
theorem j_isNT [Enc α] {f : M Av} {m : T τ α} (h : JR f E m) : JT (isNT false f) E (bd m fun a => rt (isNoneT a)) :=
  J.bind h fun a v k => (J.opt fun c e => by cases e; exact ⟨isNoneT a, rfl, fun u => by rw [non_of (k u)]; rfl⟩ : J pB _ E (lo (some (isNoneT a))))
theorem j_ntNT [Enc α] {f : M Av} {m : T τ α} (h : JR f E m) : JT (isNT true f) E (bd m fun a => rt (!isNoneT a)) :=
  J.bind h fun a v k => (J.opt fun c e => by cases e; exact ⟨!isNoneT a, rfl, fun u => by rw [non_of (k u)]; rfl⟩ : J pB _ E (lo (some (!isNoneT a))))
/-! chains -/
theorem chainT_eq (g g' : Dt → Dt → Option Bool) (fa fb fc : M Av) : chainT g g' fa fb fc = bindM fa (fun a => bindM fb fun b => bindM (optM fun ρ => (res ρ a).bind fun x => (res ρ b).bind fun y => g x y) fun k =>
    if k then bindM fc (fun z => optM fun ρ => (res ρ b).bind fun y => (res ρ z).bind fun w => g' y w) else retM false) := funext fun ρ => chainT_ap g g' fa fb fc ρ
theorem chainM_eq (g g' : Dt → Dt → Option Bool) (fa fb fc : M Av) : chainM g g' fa fb fc = bindM fa (fun a => bindM fb fun b => bindM (optM fun ρ => (res ρ a).bind fun x => (res ρ b).bind fun y => g x y) fun k =>
    if k then bindM fc (fun z => optM fun ρ => (res ρ b).bind fun y => (res ρ z).bind fun w => (g' y w).map fun t => .d (.bool t)) else retM (.d (.bool false))) := funext fun ρ => chainM_ap g g' fa fb fc ρ
theorem j_chT {g g' : Dt → Dt → Option Bool} {op op' : Int → Int → Bool} (hg : ∀ a b : Int, g (enc a) (enc b) = some (op a b)) (hg' : ∀ a b : Int, g' (enc a) (enc b) = some (op' a b)) {fa fb fc : M Av} {ma mb mc : T τ Int} (ha : JR fa E ma) (hb : JR fb E mb) (hc : JR fc E mc) :
    JT (chainT g g' fa fb fc) E (bd ma fun a => bd mb fun b => if op a b then bd mc fun c => rt (op' b c) else rt false) := by
  rw [chainT_eq]
  refine J.bind ha fun a v h1 => J.bind hb fun b w h2 => fun t => ?_
  have hh : ((res (E t) v).bind fun x => (res (E t) w).bind fun y => g x y) = some (op a b) := by
    rw [h1 t, h2 t]
    exact hg a b
  rw [bindM_ap, optM_ap]
  simp only [hh]
  cases op a b with
  | false => exact ⟨false, rfl, rfl⟩
  | true =>
    have := (J.bind hc fun c x h3 => (J.opt fun r e => by
        cases e
        exact ⟨op' b c, rfl, fun u => by rw [h2 u, h3 u]; exact hg' b c⟩ : J pB (optM fun ρ => (res ρ w).bind fun y => (res ρ x).bind fun w => g' y w) E (lo (some (op' b c))))) t
    exact this
theorem j_ch {g g' : Dt → Dt → Option Bool} {op op' : Int → Int → Bool} (hg : ∀ a b : Int, g (enc a) (enc b) = some (op a b)) (hg' : ∀ a b : Int, g' (enc a) (enc b) = some (op' a b)) {fa fb fc : M Av} {ma mb mc : T τ Int} (ha : JR fa E ma) (hb : JR fb E mb) (hc : JR fc E mc) :
    JE (chainM g g' fa fb fc) E (bd ma fun a => bd mb fun b => if op a b then bd mc fun c => rt (op' b c) else rt false) := by
  rw [chainM_eq]
  refine J.bind ha fun a v h1 => J.bind hb fun b w h2 => fun t => ?_
  have hh : ((res (E t) v).bind fun x => (res (E t) w).bind fun y => g x y) = some (op a b) := by
    rw [h1 t, h2 t]
    exact hg a b
  rw [bindM_ap, optM_ap]
  simp only [hh]
  cases op a b with
  | false => exact ⟨_, rfl, fun u => rfl⟩
  | true =>
    have := (J.bind hc fun c x h3 => (J.opt fun r e => by
        cases e
        refine ⟨.d (.bool (op' b c)), fun u => rfl, fun u => ?_⟩
        rw [h2 u, h3 u]
        show (g' (enc b) (enc c)).map _ = _
        rw [hg']
        rfl : J (pZ E) (optM fun ρ => (res ρ w).bind fun y => (res ρ x).bind fun w => (g' y w).map fun t => .d (.bool t)) E (lo (some (op' b c))))) t
    exact this
theorem hg_lt (a b : Int) : ltI (enc a) (enc b) = some (decide (a < b)) := rfl
theorem hg_le (a b : Int) : leI (enc a) (enc b) = some (decide (a ≤ b)) := rfl
end
end G8
namespace G8
open PySem L2
open Enc (enc dec)
section
variable {τ α β γ : Type} {E : τ → Ev}
/-! lists and tuples of parts -/
theorem bindM_cons {B : Type} (f : M Av) (fs : M (List Av)) (g : List Av → M B) : bindM (consM f fs) g = bindM f fun a => bindM fs fun as => g (a :: as) := by
  funext ρ
  simp only [consM_ap, bindM_ap]
  cases f ρ with
  | ok a ρ1 =>
    dsimp only
    cases fs ρ1 <;> rfl
  | err k ρ1 => rfl
  | bad => rfl
/-- all parts of one kind -/
def pZs [Enc α] (E : τ → Ev) : List α → List Av → Prop := fun as vs => vs.length = as.length ∧ ∀ u, fzs (E u) vs = some (as.map enc)
abbrev JLs [Enc α] (f : M (List Av)) (E : τ → Ev) (m : T τ (List α)) : Prop := J (pZs E) f E m
theorem j_nil [Enc α] : JLs (α := α) (retM []) E (rt []) := J.ret ⟨rfl, fun _ => rfl⟩
theorem j_cons [Enc α] {f : M Av} {fs : M (List Av)} {m : T τ α} {ms : T τ (List α)} (h : JE f E m) (k : JLs fs E ms) : JLs (consM f fs) E (bd m fun a => bd ms fun as => rt (a :: as)) :=
  J.bind h fun a v h1 => J.bind k fun as vs h2 => J.ret ⟨by simp [h2.1], fun u => by
    rw [fzs_cons, h1 u, h2.2 u]
    rfl⟩
theorem j_lst [Enc α] {f : M (List Av)} {m : T τ (List α)} (h : JLs f E m) : JL (lstM f) E (bd m fun as => lo (if as.length ≤ 1000 then some as else none)) :=
  J.bind h fun as vs k => J.opt fun c e => by
    split at e
    · rename_i hl
      cases e
      exact ⟨_, rfl, fun u => by rw [if_pos (by rw [k.1]; exact hl), k.2 u]; rfl⟩
    · cases e
theorem tupM_eq (fl : M (List Av)) : tupM fl = bindM fl (fun as => bindM (optM fun ρ => if as.length ≤ 1000 then fzs ρ as else none) fun xs => retM (.d (.tuple xs))) := rfl
theorem j_tupU [Enc α] {f : M (List Av)} {m : T τ (List α)} (h : JLs f E m) : JE (tupM f) E (bd m fun as => lo (if as.length ≤ 1000 then some (Tu.mk as) else none)) :=
  J.bind h fun as vs k => fun t => by
    by_cases hl : as.length ≤ 1000
    · rw [if_pos hl]
      refine ⟨.d (.tuple (as.map enc)), ?_, fun u => rfl⟩
      rw [bindM_ap, optM_ap, if_pos (by rw [k.1]; exact hl), k.2 t]
      rfl
    · rw [if_neg hl]
      trivial
theorem j_tup2 [Enc α] [Enc β] {f g : M Av} {m : T τ α} {q : T τ β} (h : JE f E m) (k : JE g E q) : JE (tupM (consM f (consM g (retM [])))) E (bd m fun a => bd q fun b => rt (a, b)) := by
  rw [tupM_eq, bindM_cons]
  refine J.bind h fun a v h1 => ?_
  rw [bindM_cons]
  refine J.bind k fun b w h2 => fun t => ⟨.d (enc (a, b)), ?_, fun u => rfl⟩
  rw [bindM_ret, bindM_ap, optM_ap, if_pos (by simp), fzs_cons, fzs_cons, fzs_nil, h1 t, h2 t]
  rfl
theorem j_tup3 [Enc α] [Enc β] [Enc γ] {f g h : M Av} {m : T τ α} {q : T τ β} {r : T τ γ} (h1 : JE f E m) (h2 : JE g E q) (h3 : JE h E r) : JE (tupM (consM f (consM g (consM h (retM []))))) E (bd m fun a => bd q fun b => bd r fun c => rt (⟨a, b, c⟩ : T3 α β γ)) := by
  rw [tupM_eq, bindM_cons]
  refine J.bind h1 fun a v h1 => ?_
  rw [bindM_cons]
  refine J.bind h2 fun b w h2 => ?_
  rw [bindM_cons]
  refine J.bind h3 fun c x h3 => fun t => ⟨.d (enc (⟨a, b, c⟩ : T3 α β γ)), ?_, fun u => rfl⟩
  rw [bindM_ret, bindM_ap, optM_ap, if_pos (by simp), fzs_cons, fzs_cons, fzs_cons, fzs_nil, h1 t, h2 t, h3 t]
  rfl
/-! parts of tuples -/
theorem j_fst [Enc α] [Enc β] {f : M Av} {m : T τ (α × β)} (h : JR f E m) : JD (bin2 ixD f (retM (.d (.int 0)))) E (bd m fun p => rt p.1) :=
  J.bind h fun p v k => fun t => ⟨.d (enc p.1), by simp only [bindM_ret, optM_ap, k t]; rfl, rfl⟩
theorem j_snd [Enc α] [Enc β] {f : M Av} {m : T τ (α × β)} (h : JR f E m) : JD (bin2 ixD f (retM (.d (.int 1)))) E (bd m fun p => rt p.2) :=
  J.bind h fun p v k => fun t => ⟨.d (enc p.2), by simp only [bindM_ret, optM_ap, k t]; rfl, rfl⟩
theorem j_p3a [Enc α] [Enc β] [Enc γ] {f : M Av} {m : T τ (T3 α β γ)} (h : JR f E m) : JD (bin2 ixD f (retM (.d (.int 0)))) E (bd m fun p => rt p.a) :=
  J.bind h fun p v k => fun t => ⟨.d (enc p.a), by simp only [bindM_ret, optM_ap, k t]; rfl, rfl⟩
theorem j_p3b [Enc α] [Enc β] [Enc γ] {f : M Av} {m : T τ (T3 α β γ)} (h : JR f E m) : JD (bin2 ixD f (retM (.d (.int 1)))) E (bd m fun p => rt p.b) :=
  J.bind h fun p v k => fun t => ⟨.d (enc p.b), by simp only [bindM_ret, optM_ap, k t]; rfl, rfl⟩
theorem j_p3c [Enc α] [Enc β] [Enc γ] {f : M Av} {m : T τ (T3 α β γ)} (h : JR f E m) : JD (bin2 ixD f (retM (.d (.int 2)))) E (bd m fun p => rt p.c) :=
  J.bind h fun p v k => fun t => ⟨.d (enc p.c), by simp only [bindM_ret, optM_ap, k t]; rfl, rfl⟩
/-! ranges, iteration -/
@[irreducible] def rng (lo hi : Int) : List Int := (List.range (hi - lo).toNat).map fun (i : Nat) => lo + (i : Int)
theorem rng_enc (lo hi : Int) : rangeD lo (hi - lo).toNat = (rng lo hi).map enc := by
  unfold rangeD rng
  rw [List.map_map]
  rfl
theorem j_rg1 {f : M Av} {m : T τ Int} (h : JE f E m) : JI (rg1 (consM f (retM []))) E (bd m fun j => lo (if mid j then some (rng 0 j) else none)) := by
  unfold rg1
  rw [bindM_cons]
  refine J.bind h fun j v k => ?_
  rw [bindM_ret]
  refine J.opt fun c e => ?_
  split at e
  · rename_i hl
    cases e
    refine ⟨_, rfl, fun u => ?_⟩
    rw [fzs_cons, k u, fzs_nil]
    show (if mid j then some (rangeD 0 j.toNat) else none) = _
    have := rng_enc 0 j
    rw [show (j - 0) = j by omega] at this
    rw [if_pos hl, this]
  · cases e
theorem j_rg2 {f g : M Av} {m q : T τ Int} (h : JE f E m) (h' : JE g E q) : JI (rg2 (consM f (consM g (retM [])))) E (bd m fun i => bd q fun j => lo (if mid i && mid j then some (rng i j) else none)) := by
  unfold rg2
  rw [bindM_cons]
  refine J.bind h fun i v k => ?_
  rw [bindM_cons]
  refine J.bind h' fun j v' k' => ?_
  rw [bindM_ret]
  refine J.opt fun c e => ?_
  split at e
  · rename_i hl
    cases e
    refine ⟨_, rfl, fun u => ?_⟩
    rw [fzs_cons, k u, fzs_cons, k' u, fzs_nil]
    show (if mid i && mid j then some (rangeD i (j - i).toNat) else none) = _
    rw [if_pos hl, rng_enc]
  · cases e
/-- from i down to j + 1 -/
@[irreducible] def dwn (i j : Int) : List Int := (List.range (i - j).toNat).map fun (k : Nat) => i - (k : Int)
theorem j_rg3 {f g h : M Av} {m q r : T τ Int} (h1 : JE f E m) (h2 : JE g E q) (h3 : JE h E r) : JI (rg3 (consM f (consM g (consM h (retM []))))) E (bd m fun i => bd q fun j => bd r fun s => lo (if mid i && mid j && decide (s = -1) then some (dwn i j) else none)) := by
  unfold rg3
  rw [bindM_cons]
  refine J.bind h1 fun i v k => ?_
  rw [bindM_cons]
  refine J.bind h2 fun j v' k' => ?_
  rw [bindM_cons]
  refine J.bind h3 fun s v'' k'' => ?_
  rw [bindM_ret]
  refine J.opt fun c e => ?_
  split at e
  · rename_i hl
    cases e
    refine ⟨_, rfl, fun u => ?_⟩
    rw [fzs_cons, k u, fzs_cons, k' u, fzs_cons, k'' u, fzs_nil]
    show (if mid i && mid j && decide (s = -1) then some (rangeC i (-1) (i - j).toNat) else none) = _
    rw [if_pos hl]
    unfold rangeC dwn
    rw [List.map_map]
    congr 1
    apply List.map_congr_left
    intro x _
    show PyData.int (i + (x : Int) * -1) = PyData.int (i - (x : Int))
    congr 1
    omega
  · cases e
theorem j_it [Enc α] {f : M Av} {m : T τ (List α)} (h : JE f E m) : JI (itM f) E m := fun t => by
  have h := h t
  unfold Sat at *
  rw [itM_ap, bindM_ap]
  cases e : m t with
  | ok p =>
    rw [e] at h
    obtain ⟨v, h1, h2⟩ := h
    rw [h1]
    exact ⟨_, by simp only [optM_ap, h2 p.2]; rfl, rfl⟩
  | er k =>
    rw [e] at h
    obtain ⟨u, h1⟩ := h
    exact ⟨u, by rw [h1]⟩
  | bad => trivial
theorem j_itU [Enc α] {f : M Av} {m : T τ (Tu α)} (h : JE f E m) : JI (itT f) E (bd m fun a => rt a.l) := by
  refine J.bind h fun a v k => (J.opt fun c e => ?_ : J _ _ E (lo (some a.l)))
  cases e
  exact ⟨_, rfl, fun u => by rw [k u]; rfl⟩
theorem j_itP [Enc α] {f : M Av} {m : T τ (α × α)} (h : JE f E m) : JI (itT f) E (bd m fun a => rt [a.1, a.2]) := by
  refine J.bind h fun a v k => (J.opt fun c e => ?_ : J _ _ E (lo (some [a.1, a.2])))
  cases e
  exact ⟨_, rfl, fun u => by rw [k u]; rfl⟩
theorem j_lrg1 {f : M Av} {m : T τ Int} (h : JR f E m) : JL (lrg1 f) E (bd m fun j => lo (if mid j && Nat.ble j.toNat 1000000 then some (rng 0 j) else none)) :=
  J.bind h fun j v k => J.opt fun c e => by
    split at e
    · rename_i hl
      cases e
      refine ⟨_, rfl, fun u => ?_⟩
      rw [k u]
      show (if mid j && Nat.ble j.toNat 1000000 then some (Rv.l (rangeD 0 j.toNat)) else none) = _
      have := rng_enc 0 j
      rw [show (j - 0) = j by omega] at this
      rw [if_pos hl, this]
    · cases e
theorem j_lrg2 {f g : M Av} {m q : T τ Int} (h : JR f E m) (h' : JR g E q) : JL (lrg2 f g) E (bd m fun i => bd q fun j => lo (if mid i && mid j && Nat.ble (j - i).toNat 1000000 then some (rng i j) else none)) :=
  J.bind h fun i v k => J.bind h' fun j v' k' => J.opt fun c e => by
    split at e
    · rename_i hl
      cases e
      refine ⟨_, rfl, fun u => ?_⟩
      rw [k u, k' u]
      show (if mid i && mid j && Nat.ble (j - i).toNat 1000000 then some (Rv.l (rangeD i (j - i).toNat)) else none) = _
      rw [if_pos hl, rng_enc]
    · cases e
/-! comprehensions -/
def cmp (f : α → T τ (Option β)) : List α → T τ (List β)
  | [] => rt []
  | x :: xs => bd (noEr (f x)) fun o => bd (cmp f xs) fun ys => rt (match o with
    | some y => y :: ys
    | none => ys)
@[irreducible] def cmpG (xs : List α) (f : α → T τ (Option β)) : T τ (List β) := if xs.length ≤ 1000000 then cmp f xs else fun _ => .bad
def Sat1 {A : Type} (o : Out A) (r : Rs (α × τ)) (E : τ → Ev) (P : α → A → Prop) : Prop := match r with
  | .ok p => ∃ v, o = .ok v (E p.2) ∧ P p.1 v
  | _ => True
theorem comp_run [Enc α] [Enc β] {tg : Tgt} {ft : M Bool} {fe : M Av} {f : α → T τ (Option β)} (hs : ∀ x t, Sat1 (stepL tg ft fe (enc x) (E t)) (f x t) E (fun o d => d = o.map enc)) : ∀ (xs : List α) (acc : List Dt) (t : τ), acc.length + xs.length ≤ 1000000 → Sat1 (compL tg ft fe (xs.map enc) acc (E t)) (cmp f xs t) E (fun ys ds => ds = acc ++ ys.map enc)
  | [], acc, t, _ => ⟨acc, rfl, by simp⟩
  | x :: xs, acc, t, hl => by
    have h := hs x t
    rw [List.map_cons, compL_cons]
    show Sat1 _ (bd (noEr (f x)) _ t) E _
    unfold bd noEr
    cases e : f x t with
    | er k => trivial
    | bad => trivial
    | ok p =>
      rw [e] at h
      obtain ⟨v, h1, h2⟩ := h
      subst h2
      rw [h1]
      obtain ⟨o, t'⟩ := p
      cases o with
      | none =>
        have ih := comp_run hs xs acc t' (by simp at hl; omega)
        dsimp only [Option.map_none]
        unfold Sat1 at ih ⊢
        cases e2 : cmp f xs t' with
        | ok q => rw [e2] at ih; exact ih
        | er k => trivial
        | bad => trivial
      | some y =>
        have ih := comp_run hs xs (acc ++ [enc y]) t' (by simp at hl ⊢; omega)
        dsimp only [Option.map_some]
        rw [if_pos (by simp at hl; omega)]
        unfold Sat1 at ih ⊢
        cases e2 : cmp f xs t' with
        | ok q =>
          rw [e2] at ih
          obtain ⟨ds, h3, h4⟩ := ih
          exact ⟨ds, h3, by rw [h4]; simp⟩
        | er k => trivial
        | bad => trivial
theorem j_lc [Enc α] [Enc β] {fi : M (List Dt)} {tg : Tgt} {ft : M Bool} {fe : M Av} {mi : T τ (List α)} {Ei : α → τ → Ev} {mt : α → T τ Bool} {me : α → T τ β} (hi : JI fi E mi) (ho : ∀ t, anyOwn (E t) tg.slots = false)
    (hp : ∀ x t, putT tg (enc x) (wipeE (E t) tg.slots) = .ok () (Ei x t)) (hb : ∀ x t t', backE (E t) (Ei x t') tg.slots = E t')
    (ht : ∀ x, JT ft (Ei x) (mt x)) (he : ∀ x, JE fe (Ei x) (me x)) : JL (lcM fi tg ft fe) E (bd mi fun xs => cmpG xs fun x => bd (mt x) fun b => if b then bd (me x) fun y => rt (some y) else rt none) := by
  refine J.bind hi fun xs ds hx => fun t => ?_
  subst hx
  unfold cmpG
  split
  · rename_i hl
    have r := comp_run (E := E) (tg := tg) (ft := ft) (fe := fe) (f := fun x => bd (mt x) fun b => if b then bd (me x) fun y => rt (some y) else rt none) (fun x t => by
      have h1 := ht x t
      unfold bd Sat1
      unfold Sat at h1
      cases e1 : mt x t with
      | er k => trivial
      | bad => trivial
      | ok p =>
        rw [e1] at h1
        obtain ⟨b, q1, q2⟩ := h1
        cases q2
        obtain ⟨b, t1⟩ := p
        dsimp only at q1 ⊢
        cases b with
        | false => exact ⟨none, by simp [stepL_ap, ho t, hp x t, q1, hb x t t1], rfl⟩
        | true =>
          have h2 := he x t1
          unfold Sat at h2
          rw [if_pos rfl]
          cases e2 : me x t1 with
          | er k => simp only
          | bad => simp only
          | ok q =>
            rw [e2] at h2
            obtain ⟨v, q3, q4⟩ := h2
            obtain ⟨y, t2⟩ := q
            dsimp only at q3 q4 ⊢
            refine ⟨some (enc y), ?_, rfl⟩
            simp [stepL_ap, ho t, hp x t, q1, q3, q4 t2, hb x t t2, rt]) xs [] t (by simpa using hl)
    unfold Sat1 at r
    unfold Sat
    rw [bindM_ap]
    have noer : ∀ (f : α → T τ (Option β)) (xs : List α) (t : τ) (k : Nat), cmp f xs t ≠ .er k := by
      intro f xs
      induction xs with
      | nil => intro t k h; cases h
      | cons x xs ih =>
        intro t k h
        unfold cmp bd noEr at h
        cases e : f x t with
        | er k => rw [e] at h; cases h
        | bad => rw [e] at h; cases h
        | ok p =>
          rw [e] at h
          dsimp only at h
          cases e2 : cmp f xs p.2 with
          | er k => exact ih p.2 k e2
          | bad => rw [e2] at h; cases h
          | ok q => rw [e2] at h; cases h
    split at r
    · rename_i p e
      rw [e]
      obtain ⟨v, h1, h2⟩ := r
      dsimp only
      rw [h1]
      exact ⟨_, rfl, by rw [h2]; rfl⟩
    · rename_i r' e
      split
      · rename_i p' e'
        exact absurd e' (e p')
      · rename_i k e'
        exact absurd e' (noer _ _ _ _)
      · trivial
  · trivial
end
end G8
namespace G8
open PySem L2
open Enc (enc dec)
section
variable {τ α β γ δ ε ζ : Type} {E : τ → Ev}
/-! calls -/
def CF (P : β → Rv → Prop) (o : Out Rv) (n : Nat) (r : Rs β) : Prop := match r with
  | .ok b => ∃ rv, o = .ok rv (List.replicate n none) ∧ P b rv
  | .er k => o = .err k (List.replicate n none)
  | .bad => True
theorem fzs_args {ρ : Ev} : ∀ {vs : List Av} {ds : List Dt}, fzs ρ vs = some ds → okArgs ρ vs = true ∧ resolve ρ vs = some (ds.map Sv.d) ∧ ∀ i s, ρ[i]? = some (some s) → s.own = true → posOf i vs = none
  | [], ds, h => by cases h; exact ⟨rfl, rfl, fun _ _ _ _ => rfl⟩
  | v :: vs, ds, h => by
    rw [fzs_cons] at h
    cases e1 : fzv ρ v with
    | none => rw [e1] at h; cases h
    | some x =>
      cases e2 : fzs ρ vs with
      | none => rw [e1, e2] at h; cases h
      | some xs =>
        rw [e1, e2] at h
        cases h
        obtain ⟨h1, h2, h3⟩ := fzs_args e2
        cases v with
        | d y =>
          cases e1
          exact ⟨h1, by rw [resolve_d, h2]; rfl, fun i s hs ho => by rw [posOf_d, h3 i s hs ho]; rfl⟩
        | s j =>
          have e1 : slotZ ρ[j]? = some x := e1
          unfold slotZ at e1
          split at e1
          · rename_i y q
            cases e1
            refine ⟨?_, ?_, fun i s hs ho => ?_⟩
            · rw [okArgs_s, q, h1]; rfl
            · rw [resolve_s, q]
              dsimp only
              rw [h2]
              rfl
            · have hne : j ≠ i := fun z => by
                subst z
                rw [q] at hs
                cases hs
                cases ho
              rw [posOf_s, if_neg hne, h3 i s hs ho]
              rfl
          · cases e1
theorem wb_same {ρ : Ev} {vs : List Av} {outs : Ev} (h : ∀ i s, ρ[i]? = some (some s) → s.own = true → posOf i vs = none) : writeBack ρ vs outs = ρ := by
  apply List.ext_getElem?
  intro i
  unfold writeBack
  rw [List.getElem?_mapIdx]
  cases e : ρ[i]? with
  | none => rfl
  | some o =>
    cases o with
    | none => rfl
    | some s =>
      show some (wb1 vs outs i (some s)) = _
      unfold wb1
      by_cases ho : s.own = true
      · simp only [if_pos ho, h i s e ho]
      · simp only [if_neg ho]
theorem call_leaf {F : Fn} {n : Nat} {vs : List Av} {ds : List Dt} {P : β → Rv → Prop} {r : Rs β} (hz : ∀ u, fzs (E u) vs = some ds) (hn : vs.length = n) (c : CF P (F (ds.map Sv.d)) n r) : J P (callF n F vs) E (up r) := fun t => by
  obtain ⟨h1, h2, h3⟩ := fzs_args (hz t)
  rw [callF_ap, if_pos ⟨hn, h1⟩, h2]
  dsimp only
  unfold CF at c
  cases r with
  | ok b =>
    obtain ⟨rv, e, p⟩ := c
    rw [e]
    exact ⟨rv, by dsimp only; rw [wb_same h3], p⟩
  | er k =>
    rw [show F (ds.map Sv.d) = _ from c]
    exact ⟨t, by dsimp only; rw [wb_same h3]⟩
  | bad => trivial
theorem j_call0 {F : Fn} {P : β → Rv → Prop} {Pf : Rs β} (c : CF P (F []) 0 Pf) : J P (callM 0 F (retM [])) E (up Pf) := by
  show J P (bindM (retM []) _) E _
  rw [bindM_ret]
  exact call_leaf (ds := []) (fun _ => rfl) rfl c
theorem j_call1 [Enc α] {F : Fn} {P : β → Rv → Prop} {Pf : α → Rs β} (c : ∀ a, CF P (F [.d (enc a)]) 1 (Pf a)) {f : M Av} {m : T τ α} (h : JE f E m) : J P (callM 1 F (consM f (retM []))) E (bd m fun a => up (Pf a)) := by
  show J P (bindM (consM f (retM [])) _) E _
  rw [bindM_cons]
  exact J.bind h fun a v k => call_leaf (ds := [enc a]) (fun u => by rw [fzs_cons, k u]; rfl) rfl (c a)
theorem j_call2 [Enc α] [Enc γ] {F : Fn} {P : β → Rv → Prop} {Pf : α → γ → Rs β} (c : ∀ a b, CF P (F [.d (enc a), .d (enc b)]) 2 (Pf a b)) {f g : M Av} {m : T τ α} {q : T τ γ} (h : JE f E m) (h' : JE g E q) : J P (callM 2 F (consM f (consM g (retM [])))) E (bd m fun a => bd q fun b => up (Pf a b)) := by
  show J P (bindM (consM f (consM g (retM []))) _) E _
  rw [bindM_cons]
  refine J.bind h fun a v k => ?_
  rw [bindM_cons]
  exact J.bind h' fun b v' k' => call_leaf (ds := [enc a, enc b]) (fun u => by rw [fzs_cons, k u, fzs_cons, k' u]; rfl) rfl (c a b)
theorem j_call3 [Enc α] [Enc γ] [Enc δ] {F : Fn} {P : β → Rv → Prop} {Pf : α → γ → δ → Rs β} (c : ∀ a b d, CF P (F [.d (enc a), .d (enc b), .d (enc d)]) 3 (Pf a b d)) {f g h : M Av} {m : T τ α} {q : T τ γ} {r : T τ δ} (h1 : JE f E m) (h2 : JE g E q) (h3 : JE h E r) :
    J P (callM 3 F (consM f (consM g (consM h (retM []))))) E (bd m fun a => bd q fun b => bd r fun d => up (Pf a b d)) := by
  show J P (bindM (consM f (consM g (consM h (retM [])))) _) E _
  rw [bindM_cons]
  refine J.bind h1 fun a v k => ?_
  rw [bindM_cons]
  refine J.bind h2 fun b v' k' => ?_
  rw [bindM_cons]
  exact J.bind h3 fun d v'' k'' => call_leaf (ds := [enc a, enc b, enc d]) (fun u => by rw [fzs_cons, k u, fzs_cons, k' u, fzs_cons, k'' u]; rfl) rfl (c a b d)
theorem j_call4 [Enc α] [Enc γ] [Enc δ] [Enc ε] {F : Fn} {P : β → Rv → Prop} {Pf : α → γ → δ → ε → Rs β} (c : ∀ a b d e, CF P (F [.d (enc a), .d (enc b), .d (enc d), .d (enc e)]) 4 (Pf a b d e)) {f g h i : M Av} {m : T τ α} {q : T τ γ} {r : T τ δ} {s : T τ ε} (h1 : JE f E m) (h2 : JE g E q) (h3 : JE h E r) (h4 : JE i E s) :
    J P (callM 4 F (consM f (consM g (consM h (consM i (retM [])))))) E (bd m fun a => bd q fun b => bd r fun d => bd s fun e => up (Pf a b d e)) := by
  show J P (bindM (consM f (consM g (consM h (consM i (retM []))))) _) E _
  rw [bindM_cons]
  refine J.bind h1 fun a v k => ?_
  rw [bindM_cons]
  refine J.bind h2 fun b v' k' => ?_
  rw [bindM_cons]
  refine J.bind h3 fun d v'' k'' => ?_
  rw [bindM_cons]
  exact J.bind h4 fun e v3 k3 => call_leaf (ds := [enc a, enc b, enc d, enc e]) (fun u => by rw [fzs_cons, k u, fzs_cons, k' u, fzs_cons, k'' u, fzs_cons, k3 u]; rfl) rfl (c a b d e)
theorem j_call5 [Enc α] [Enc γ] [Enc δ] [Enc ε] [Enc ζ] {F : Fn} {P : β → Rv → Prop} {Pf : α → γ → δ → ε → ζ → Rs β} (c : ∀ a b d e z, CF P (F [.d (enc a), .d (enc b), .d (enc d), .d (enc e), .d (enc z)]) 5 (Pf a b d e z)) {f g h i j : M Av} {m : T τ α} {q : T τ γ} {r : T τ δ} {s : T τ ε} {w : T τ ζ} (h1 : JE f E m) (h2 : JE g E q) (h3 : JE h E r) (h4 : JE i E s) (h5 : JE j E w) :
    J P (callM 5 F (consM f (consM g (consM h (consM i (consM j (retM []))))))) E (bd m fun a => bd q fun b => bd r fun d => bd s fun e => bd w fun z => up (Pf a b d e z)) := by
  show J P (bindM (consM f (consM g (consM h (consM i (consM j (retM [])))))) _) E _
  rw [bindM_cons]
  refine J.bind h1 fun a v k => ?_
  rw [bindM_cons]
  refine J.bind h2 fun b v' k' => ?_
  rw [bindM_cons]
  refine J.bind h3 fun d v'' k'' => ?_
  rw [bindM_cons]
  refine J.bind h4 fun e v3 k3 => ?_
  rw [bindM_cons]
  exact J.bind h5 fun z v4 k4 => call_leaf (ds := [enc a, enc b, enc d, enc e, enc z]) (fun u => by rw [fzs_cons, k u, fzs_cons, k' u, fzs_cons, k'' u, fzs_cons, k3 u, fzs_cons, k4 u]; rfl) rfl (c a b d e z)
/-! calls that draw: script at 0, town at 1 -/
def zr (n : Nat) : List Dt := List.replicate n (.int 0)
def CD (P : β → Rv → Prop) (F : Fn) (ns : List Int) (ds : List Dt) (m : T Nat β) : Prop := ∀ t, match m t with
  | .ok p => ∃ rv, F (.scr ns :: .ls true (zr t) :: ds.map Sv.d) = .ok rv (none :: some (.ls true (zr p.2)) :: List.replicate ds.length none) ∧ P p.1 rv
  | .er _ => False
  | .bad => True
structure Twn (E : Nat → Ev) (ns : List Int) (r : Bool) : Prop where
  s : ∀ u, (E u)[0]? = some (some (.scr ns))
  t : ∀ u, (E u)[1]? = some (some (.ls r (zr u)))
  w : ∀ u u', (E u).set 1 (some (.ls r (zr u'))) = E u'
theorem posOf_town {ρ : Ev} {vs : List Av} (i : Nat) : posOf i (.s 0 :: .s 1 :: vs) = if i = 0 then some 0 else if i = 1 then some 1 else (posOf i vs).map (· + 2) := by
  rw [posOf_s, posOf_s]
  by_cases h0 : i = 0
  · subst h0; rfl
  · rw [if_neg (fun z => h0 z.symm), if_neg h0]
    by_cases h1 : i = 1
    · subst h1; rfl
    · rw [if_neg (fun z => h1 z.symm), if_neg h1]
      cases posOf i vs <;> rfl
theorem draw_leaf {E : Nat → Ev} {ns : List Int} {r : Bool} (W : Twn E ns r) {F : Fn} {n : Nat} {vs : List Av} {ds : List Dt} {P : β → Rv → Prop} {m : T Nat β} (hz : ∀ u, fzs (E u) vs = some ds) (hn : vs.length + 2 = n) (c : CD P F ns ds m) : J P (callF n F (.s 0 :: .s 1 :: vs)) E m := fun t => by
  obtain ⟨h1, h2, h3⟩ := fzs_args (hz t)
  have hp1 : posOf 1 vs = none := h3 1 _ (W.t t) rfl
  have hs1 : hasS 1 vs = false := by
    clear hz hn c h1 h2 h3
    induction vs with
    | nil => rfl
    | cons v vs ih =>
      cases v with
      | d x =>
        rw [posOf_d] at hp1
        rw [hasS_d]
        exact ih (by cases q : posOf 1 vs with
          | none => rfl
          | some j => rw [q] at hp1; cases hp1)
      | s k =>
        rw [posOf_s] at hp1
        by_cases hk : k = 1
        · rw [if_pos hk] at hp1; cases hp1
        · rw [if_neg hk] at hp1
          rw [hasS_s, ih (by cases q : posOf 1 vs with
            | none => rfl
            | some j => rw [q] at hp1; cases hp1)]
          simp [hk]
  have ok : okArgs (E t) (.s 0 :: .s 1 :: vs) = true := by
    rw [okArgs_s, okArgs_s, W.s t, W.t t, h1, hs1]
    rfl
  have rs : resolve (E t) (.s 0 :: .s 1 :: vs) = some (.scr ns :: .ls true (zr t) :: ds.map Sv.d) := by
    rw [resolve_s, W.s t]
    dsimp only
    rw [resolve_s, W.t t]
    dsimp only
    rw [h2]
    rfl
  rw [callF_ap, if_pos ⟨by simp; omega, ok⟩, rs]
  dsimp only
  have c := c t
  unfold Sat
  cases e : m t with
  | bad => trivial
  | er k => rw [e] at c; exact c.elim
  | ok p =>
    rw [e] at c
    obtain ⟨rv, c1, c2⟩ := c
    rw [c1]
    refine ⟨rv, ?_, c2⟩
    dsimp only
    congr 1
    rw [← W.w t p.2]
    apply List.ext_getElem?
    intro i
    unfold writeBack
    rw [List.getElem?_mapIdx, List.getElem?_set]
    by_cases hi : i = 1
    · subst hi
      have hl : 1 < (E t).length := (List.getElem?_eq_some_iff.mp (W.t t)).1
      rw [if_pos rfl, if_pos hl, W.t t]
      show some (wb1 _ _ 1 _) = _
      unfold wb1
      simp only [posOf_town (ρ := [])]
      rfl
    · rw [if_neg (fun z => hi z.symm)]
      cases q : (E t)[i]? with
      | none => rfl
      | some o =>
        cases o with
        | none => rfl
        | some s =>
          show some (wb1 _ _ i _) = _
          unfold wb1
          by_cases ho : s.own = true
          · have h0 : i ≠ 0 := fun z => by
              subst z
              rw [W.s t] at q
              cases q
              cases ho
            simp only [if_pos ho, posOf_town (ρ := []), if_neg h0, if_neg hi, h3 i s q ho, Option.map_none]
          · simp only [if_neg ho]
theorem j_varS {E : Nat → Ev} {ns : List Int} {r : Bool} (W : Twn E ns r) {B : Type} (g : Av → M B) {m : T Nat β} {P : β → B → Prop} (h : J P (g (.s 0)) E m) : J P (bindM (varM 0) g) E m := fun t => by
  rw [bindM_ap, varM_ap, W.s t]
  exact h t
theorem j_varT {E : Nat → Ev} {ns : List Int} {r : Bool} (W : Twn E ns r) {B : Type} (g : Av → M B) {m : T Nat β} {P : β → B → Prop} (h : J P (g (.s 1)) E m) : J P (bindM (varM 1) g) E m := fun t => by
  rw [bindM_ap, varM_ap, W.t t]
  exact h t
theorem j_draw0 {E : Nat → Ev} {ns : List Int} {r : Bool} (W : Twn E ns r) {F : Fn} {P : β → Rv → Prop} {Pf : T Nat β} (c : CD P F ns [] Pf) : J P (callM 2 F (consM (varM 0) (consM (varM 1) (retM [])))) E Pf := by
  show J P (bindM (consM _ _) _) E _
  rw [bindM_cons]
  refine j_varS W _ ?_
  rw [bindM_cons]
  refine j_varT W _ ?_
  exact draw_leaf W (ds := []) (fun _ => rfl) rfl c
theorem j_draw1 [Enc α] {E : Nat → Ev} {ns : List Int} {r : Bool} (W : Twn E ns r) {F : Fn} {P : β → Rv → Prop} {Pf : α → T Nat β} (c : ∀ a, CD P F ns [enc a] (Pf a)) {f : M Av} {m : T Nat α} (h : JE f E m) : J P (callM 3 F (consM (varM 0) (consM (varM 1) (consM f (retM []))))) E (bd m Pf) := by
  show J P (bindM (consM _ _) _) E _
  rw [bindM_cons]
  refine j_varS W _ ?_
  rw [bindM_cons]
  refine j_varT W _ ?_
  rw [bindM_cons]
  exact J.bind h fun a v k => draw_leaf W (ds := [enc a]) (fun u => by rw [fzs_cons, k u]; rfl) rfl (c a)
theorem j_draw2 [Enc α] [Enc γ] {E : Nat → Ev} {ns : List Int} {r : Bool} (W : Twn E ns r) {F : Fn} {P : β → Rv → Prop} {Pf : α → γ → T Nat β} (c : ∀ a b, CD P F ns [enc a, enc b] (Pf a b)) {f g : M Av} {m : T Nat α} {q : T Nat γ} (h : JE f E m) (h' : JE g E q) : J P (callM 4 F (consM (varM 0) (consM (varM 1) (consM f (consM g (retM [])))))) E (bd m fun a => bd q fun b => Pf a b) := by
  show J P (bindM (consM _ _) _) E _
  rw [bindM_cons]
  refine j_varS W _ ?_
  rw [bindM_cons]
  refine j_varT W _ ?_
  rw [bindM_cons]
  refine J.bind h fun a v k => ?_
  rw [bindM_cons]
  exact J.bind h' fun b v' k' => draw_leaf W (ds := [enc a, enc b]) (fun u => by rw [fzs_cons, k u, fzs_cons, k' u]; rfl) rfl (c a b)
theorem j_draw3 [Enc α] [Enc γ] [Enc δ] {E : Nat → Ev} {ns : List Int} {r : Bool} (W : Twn E ns r) {F : Fn} {P : β → Rv → Prop} {Pf : α → γ → δ → T Nat β} (c : ∀ a b d, CD P F ns [enc a, enc b, enc d] (Pf a b d)) {f g h : M Av} {m : T Nat α} {q : T Nat γ} {s : T Nat δ} (h1 : JE f E m) (h2 : JE g E q) (h3 : JE h E s) : J P (callM 5 F (consM (varM 0) (consM (varM 1) (consM f (consM g (consM h (retM []))))))) E (bd m fun a => bd q fun b => bd s fun d => Pf a b d) := by
  show J P (bindM (consM _ _) _) E _
  rw [bindM_cons]
  refine j_varS W _ ?_
  rw [bindM_cons]
  refine j_varT W _ ?_
  rw [bindM_cons]
  refine J.bind h1 fun a v k => ?_
  rw [bindM_cons]
  refine J.bind h2 fun b v' k' => ?_
  rw [bindM_cons]
  exact J.bind h3 fun d v'' k'' => draw_leaf W (ds := [enc a, enc b, enc d]) (fun u => by rw [fzs_cons, k u, fzs_cons, k' u, fzs_cons, k'' u]; rfl) rfl (c a b d)
/-! builtins -/
theorem j_bi1 [Enc α] {P : γ → Rv → Prop} {g : List Dt → Option Rv} {f : M Av} {m : T τ α} {op : α → Option γ} (hop : ∀ a c, op a = some c → ∃ r, P c r ∧ g [enc a] = some r) (h : JR f E m) : J P (biM g (consM f (retM []))) E (bd m fun a => lo (op a)) := by
  show J P (bindM (consM f (retM [])) _) E _
  rw [bindM_cons]
  refine J.bind h fun a v k => J.opt fun c e => ?_
  obtain ⟨r, q1, q2⟩ := hop a c e
  exact ⟨r, q1, fun u => by rw [ress_cons, k u]; exact q2⟩
theorem j_bi2 [Enc α] [Enc β] {P : γ → Rv → Prop} {g : List Dt → Option Rv} {f f' : M Av} {m : T τ α} {m' : T τ β} {op : α → β → Option γ} (hop : ∀ a b c, op a b = some c → ∃ r, P c r ∧ g [enc a, enc b] = some r) (h : JR f E m) (h' : JR f' E m') : J P (biM g (consM f (consM f' (retM [])))) E (bd m fun a => bd m' fun b => lo (op a b)) := by
  show J P (bindM (consM f (consM f' (retM []))) _) E _
  rw [bindM_cons]
  refine J.bind h fun a v k => ?_
  rw [bindM_cons]
  refine J.bind h' fun b v' k' => J.opt fun c e => ?_
  obtain ⟨r, q1, q2⟩ := hop a b c e
  exact ⟨r, q1, fun u => by rw [ress_cons, k u, ress_cons, k' u]; exact q2⟩
def maxL : List Int → Option Int
  | [] => none
  | x :: xs => some (xs.foldl max x)
def minL : List Int → Option Int
  | [] => none
  | x :: xs => some (xs.foldl min x)
theorem enc_ints (xs : List Int) : enc xs = .list (xs.map PyData.int) := rfl
theorem q_maxL : ∀ (a : List Int) (c : Int), maxL a = some c → ∃ r, pD c r ∧ bestD PySem.W.maxD [enc a] = some r := fun a c h => by
  cases a with
  | nil => cases h
  | cons x xs => cases h; exact ⟨_, rfl, max_ints x xs⟩
theorem q_minL : ∀ (a : List Int) (c : Int), minL a = some c → ∃ r, pD c r ∧ bestD PySem.W.minD [enc a] = some r := fun a c h => by
  cases a with
  | nil => cases h
  | cons x xs => cases h; exact ⟨_, rfl, min_ints x xs⟩
theorem q_max2 : ∀ (a b c : Int), some (if b > a then b else a) = some c → ∃ r, pD c r ∧ two2 (fun i j => if j > i then j else i) [enc a, enc b] = some r := fun a b c h => by cases h; exact ⟨_, rfl, rfl⟩
theorem q_min2 : ∀ (a b c : Int), some (if b < a then b else a) = some c → ∃ r, pD c r ∧ two2 (fun i j => if j < i then j else i) [enc a, enc b] = some r := fun a b c h => by cases h; exact ⟨_, rfl, rfl⟩
theorem intsOf_enc : ∀ xs : List Int, intsOf (xs.map enc) = some xs
  | [] => rfl
  | x :: xs => by
    show (intsOf (xs.map enc)).map _ = _
    rw [intsOf_enc xs]
    rfl
theorem boolsOf_enc : ∀ xs : List Bool, boolsOf (xs.map enc) = some xs
  | [] => rfl
  | x :: xs => by
    show (boolsOf (xs.map enc)).map _ = _
    rw [boolsOf_enc xs]
    rfl
theorem q_sum : ∀ (a : List Int) (c : Int), some a.sum = some c → ∃ r, pD c r ∧ sumD [enc a] = some r := fun a c h => by
  cases h
  refine ⟨_, rfl, ?_⟩
  show (intsOf (a.map enc)).map _ = _
  rw [intsOf_enc]
  rfl
theorem q_any : ∀ (a : List Bool) (c : Bool), some (a.any id) = some c → ∃ r, pD c r ∧ anyD [enc a] = some r := fun a c h => by
  cases h
  refine ⟨_, rfl, ?_⟩
  show (boolsOf (a.map enc)).map _ = _
  rw [boolsOf_enc]
  rfl
theorem q_all : ∀ (a : List Bool) (c : Bool), some (a.all id) = some c → ∃ r, pD c r ∧ allD [enc a] = some r := fun a c h => by
  cases h
  refine ⟨_, rfl, ?_⟩
  show (boolsOf (a.map enc)).map _ = _
  rw [boolsOf_enc]
  rfl
theorem q_list [Enc α] : ∀ (a c : List α), some a = some c → ∃ r, pL c r ∧ listD [enc a] = some r := fun a c h => by cases h; exact ⟨_, rfl, rfl⟩
theorem q_tup [Enc α] : ∀ (a : List α) (c : Tu α), some (Tu.mk a) = some c → ∃ r, pD c r ∧ tupD [enc a] = some r := fun a c h => by cases h; exact ⟨_, rfl, rfl⟩
theorem q_intB : ∀ (a : Bool) (c : Int), some (if a then 1 else 0) = some c → ∃ r, pD c r ∧ intD [enc a] = some r := fun a c h => by cases h; exact ⟨_, rfl, rfl⟩
theorem q_sortI : ∀ (a c : List Int), some (srt a) = some c → ∃ r, pL c r ∧ sortD [enc a] = some r := fun a c h => by cases h; exact ⟨_, rfl, sortD_ints a⟩
theorem q_rev [Enc α] : ∀ (a c : List α), some a.reverse = some c → ∃ r, pL c r ∧ revD (enc a) = some r := fun a c h => by
  cases h
  refine ⟨_, rfl, ?_⟩
  show some (Rv.l (a.map enc).reverse) = _
  rw [← List.map_reverse]
/-! len -/
theorem lenA_of {ρ : Ev} {v : Av} {x : Dt} {n : Nat} (h : res ρ v = some x) (k : lenD x = some n) : lenA ρ v = some n := by
  cases v with
  | d y => cases h; exact k
  | s i =>
    have h : slotD ρ[i]? = some x := h
    rw [lenA_s]
    unfold slotD at h
    split at h
    · rename_i y q
      cases h
      rw [q]
      exact k
    · rename_i r xs q
      cases h
      rw [q]
      exact k
    · cases h
theorem j_len [Enc α] {f : M Av} {m : T τ (List α)} (h : JR f E m) : JE (lenM f) E (bd m fun a => rt (a.length : Int)) :=
  J.bind h fun a v k => (J.opt fun c e => by
    cases e
    refine ⟨.d (.int a.length), fun u => rfl, fun u => ?_⟩
    rw [lenA_of (k u) (show lenD (.list (a.map enc)) = some (a.map enc).length from rfl), List.length_map]
    rfl : J (pZ E) _ E (lo (some (a.length : Int))))
theorem j_lenS {f : M Av} {m : T τ Str} (h : JR f E m) : JE (lenM f) E (bd m fun a => lo (if a.length ≤ 1000000 then some (a.length : Int) else none)) :=
  J.bind h fun a v k => J.opt fun c e => by
    split at e
    · rename_i hl
      cases e
      refine ⟨.d (.int a.length), fun u => rfl, fun u => ?_⟩
      rw [lenA_of (k u) (show lenD (.str a) = some a.length by rw [lenD, if_pos hl])]
      rfl
    · cases e
/-! count, index -/
theorem j_look [Enc α] [Enc β] {g : List Dt → Dt → Option Int} {op : List α → β → Option Int} (hop : ∀ a b c, op a b = some c → shal (enc b) = true ∧ g (a.map enc) (enc b) = some c) {f f' : M Av} {m : T τ (List α)} {q : T τ β} (h : JR f E m) (h' : JR f' E q) : JE (meM (lookD g) f (consM f' (retM []))) E (bd m fun a => bd q fun b => lo (op a b)) :=
  J.bind h fun a v k => fun t => by
    have hh := J.bind h' fun b v' k' => (J.opt fun c e => by
      obtain ⟨e1, e2⟩ := hop a b c e
      refine ⟨.d (.int c), fun u => rfl, fun u => ?_⟩
      rw [k u, ress_cons, k' u, ress_nil]
      show (lookD g (.list (a.map enc)) [enc b]).map Av.d = _
      show (if shal (enc b) then (g (a.map enc) (enc b)).map fun z => PyData.int z else none).map Av.d = _
      rw [if_pos e1, e2]
      rfl : J (pZ E) (optM fun ρ => (res ρ v).bind fun x => (ress ρ [v']).bind fun ds => (lookD g x ds).map Av.d) E (lo (op a b)))
    rw [bindM_ap, optM_ap, k t]
    show Sat (bindM (consM f' (retM [])) _ (E t)) _ E _
    rw [bindM_cons]
    exact hh t
def cnt {α : Type} [EncQ α] (a : List α) (b : α) : Int := ((a.countP fun x => eqT x b : Nat) : Int)
theorem q_count {α : Type} [EncQ α] (h : EncQ.dp α ≤ 59) : ∀ (a : List α) (b : α) (c : Int), some (cnt a b) = some c → shal (enc b) = true ∧ countD (a.map enc) (enc b) = some c := fun a b c e => by
  cases e
  refine ⟨shal_enc h b, ?_⟩
  unfold countD cnt
  rw [List.countP_map]
  congr 3
  funext y
  show PyData.eqv (enc y) (enc b) = _
  rw [EncQ.eq]
  rfl
theorem cnt_eq {α : Type} [EncQ α] [BEq α] [LawfulBEq α] (a : List α) (b : α) : cnt a b = ((a.count b : Nat) : Int) := by
  unfold cnt List.count
  congr 2
  funext y
  rw [Bool.eq_iff_iff, eqT_iff, beq_iff_eq]
def idxT {α : Type} [EncQ α] (a : List α) (b : α) : Option Int := (a.findIdx? fun x => eqT x b).map fun (j : Nat) => (j : Int)
theorem idxT_eq {α : Type} [EncQ α] [BEq α] [LawfulBEq α] {a : List α} {b : α} (h : b ∈ a) : idxT a b = some ((a.idxOf b : Nat) : Int) := by
  unfold idxT
  have e : (fun x => eqT x b) = fun (y : α) => y == b := by
    funext y
    rw [Bool.eq_iff_iff, eqT_iff, beq_iff_eq]
  rw [e, List.findIdx?_eq_some_of_exists ⟨b, h, by simp⟩]
  rfl
theorem place_enc {α : Type} [EncQ α] (a : List α) (b : α) : SeqAt.dataPlace (a.map enc) (enc b) = a.findIdx? fun x => eqT x b := by
  unfold SeqAt.dataPlace
  rw [List.findIdx?_map]
  congr 1
  funext y
  rw [Function.comp_apply, EncQ.eq]
  rfl
theorem q_index {α : Type} [EncQ α] (h : EncQ.dp α ≤ 59) : ∀ (a : List α) (b : α) (c : Int), idxT a b = some c → shal (enc b) = true ∧ indexD (a.map enc) (enc b) = some c := fun a b c e => by
  refine ⟨shal_enc h b, ?_⟩
  unfold indexD
  rw [place_enc]
  exact e
/-! slices -/
def cut (xs : List α) (a b : Option Int) : List α := (xs.drop (HT.sIx xs.length 0 a)).take (HT.sIx xs.length xs.length b - HT.sIx xs.length 0 a)
theorem cut_map (f : α → Dt) (xs : List α) (a b : Option Int) : cutD (xs.map f) a b = (cut xs a b).map f := by
  unfold cutD cut
  rw [List.length_map, List.map_take, List.map_drop]
theorem cut_0 (xs : List α) (k : Nat) : cut xs none (some (k : Int)) = xs.take k := by
  unfold cut
  rw [HT.sIx_none, HT.sIx_nat]
  simp [List.take_eq_take_iff]
theorem cut_1 (xs : List α) (k : Nat) : cut xs (some (k : Int)) none = xs.drop k := by
  unfold cut
  rw [HT.sIx_none, HT.sIx_nat]
  by_cases h : k ≤ xs.length
  · rw [Nat.min_eq_left h, List.take_of_length_le (by simp)]
  · rw [Nat.min_eq_right (by omega), List.drop_eq_nil_of_le (Nat.le_refl _), List.drop_eq_nil_of_le (by omega)]
    simp
abbrev JO (f : M (Option Int)) (E : τ → Ev) (m : T τ (Option Int)) : Prop := J (fun (a b : Option Int) => b = a) f E m
theorem j_pN : JO partN E (rt none) := J.ret rfl
theorem j_pS {f : M Av} {m : T τ Int} (h : JR f E m) : JO (partS f) E (bd m fun i => rt (some i)) := J.bind h fun a v k => (J.opt fun c e => by
  cases e
  exact ⟨_, rfl, fun u => by rw [k u]; rfl⟩ : J _ _ E (lo (some (some a))))
theorem j_slice [Enc α] {f : M Av} {fl fh : M (Option Int)} {m : T τ (List α)} {l h : T τ (Option Int)} (h1 : JR f E m) (h2 : JO fl E l) (h3 : JO fh E h) : JL (sliceM f fl fh) E (bd m fun a => bd l fun i => bd h fun j => rt (cut a i j)) :=
  J.bind h1 fun a v k => J.bind h2 fun i vi ki => J.bind h3 fun j vj kj => (J.opt fun c e => by
    cases e
    refine ⟨_, rfl, fun u => ?_⟩
    cases ki
    cases kj
    rw [k u]
    show some (Rv.l (cutD (a.map enc) i j)) = _
    rw [cut_map] : J _ _ E (lo (some (cut a i j))))
theorem j_sliceS {f : M Av} {fl fh : M (Option Int)} {m : T τ Str} {l h : T τ (Option Int)} (h1 : JR f E m) (h2 : JO fl E l) (h3 : JO fh E h) : JD (sliceM f fl fh) E (bd m fun a => bd l fun i => bd h fun j => lo (if a.length ≤ 1000000 then some (cutS a i j) else none)) :=
  J.bind h1 fun a v k => J.bind h2 fun i vi ki => J.bind h3 fun j vj kj => J.opt fun c e => by
    split at e
    · rename_i hl
      cases e
      refine ⟨_, rfl, fun u => ?_⟩
      cases ki
      cases kj
      rw [k u]
      show (if a.length ≤ 1000000 then some (Rv.d (.str (cutS a i j))) else none) = _
      rw [if_pos hl]
      rfl
    · cases e
end
end G8
namespace G8
open PySem L2
open Enc (enc dec)
section
variable {τ α β γ δ σ ω Jt : Type} {E : τ → Ev}
def JS (f : M Fl) (E : τ → Ev) (m : T τ ω) (Q : ω → τ → Fl → Ev → Prop) (X : Ev → Prop) : Prop := ∀ t, match m t with
  | .ok p => ∃ fl ρ, f (E t) = .ok fl ρ ∧ Q p.1 p.2 fl ρ
  | .er k => ∃ ρ, f (E t) = .err k ρ ∧ X ρ
  | .bad => True
variable {Q : ω → τ → Fl → Ev → Prop} {X : Ev → Prop}
theorem JS.bindJ {A : Type} {P : α → A → Prop} {f : M A} {g : A → M Fl} {m : T τ α} {q : α → T τ ω} (h : J P f E m) (hx : ∀ u, X (E u)) (k : ∀ a v, P a v → JS (g v) E (q a) Q X) : JS (bindM f g) E (bd m q) Q X := fun t => by
  have h := h t
  unfold Sat at h
  unfold bd
  rw [bindM_ap]
  cases e : m t with
  | ok p =>
    rw [e] at h
    obtain ⟨v, h1, h2⟩ := h
    rw [h1]
    exact k p.1 v h2 p.2
  | er k =>
    rw [e] at h
    obtain ⟨u, h1⟩ := h
    rw [h1]
    exact ⟨E u, rfl, hx u⟩
  | bad => trivial
theorem seqM_bind {A : Type} (f : M A) (g : A → M Fl) (r : M Fl) : seqM (bindM f g) r = bindM f fun a => seqM (g a) r := by
  funext ρ
  rw [seqM_ap, bindM_ap, bindM_ap]
  cases f ρ <;> rfl
theorem seqM_ret (r : M Fl) : seqM (retM .nx) r = r := rfl
theorem seqM_nil (f : M Fl) : seqM f (retM .nx) = f := by
  funext ρ
  rw [seqM_ap]
  cases f ρ with
  | ok a ρ' => cases a <;> rfl
  | err k ρ' => rfl
  | bad => rfl
theorem z_last {f : M Fl} {m : T τ ω} (h : JS (seqM f (retM .nx)) E m Q X) : JS f E m Q X := by rwa [seqM_nil] at h
theorem z_nil {o : ω} (h : ∀ t, Q o t .nx (E t)) : JS (retM .nx) E (rt o) Q X := fun t => ⟨.nx, E t, rfl, h t⟩
theorem z_ct {o : ω} {r : M Fl} (h : ∀ t, Q o t .ct (E t)) : JS (seqM (retM .ct) r) E (rt o) Q X := fun t => ⟨.ct, E t, rfl, h t⟩
theorem z_bk {o : ω} {r : M Fl} (h : ∀ t, Q o t .bk (E t)) : JS (seqM (retM .bk) r) E (rt o) Q X := fun t => ⟨.bk, E t, rfl, h t⟩
theorem z_raise {k : Nat} {r : M Fl} (h : ∀ t, X (E t)) : JS (seqM (raiseM k) r) E (erT k : T τ ω) Q X := fun t => ⟨E t, rfl, h t⟩
theorem z_pass {r : M Fl} {m : T τ ω} (h : JS r E m Q X) : JS (seqM (retM .nx) r) E m Q X := h
/-! stores -/
theorem putM_ok {ρ ρ' : Ev} {i : Nat} {s : Option Sv} (h1 : refAt ρ[i]? = false) (h2 : ρ.set i s = ρ') : putM i s ρ = .ok () ρ' := by
  rw [putM_ap, h1, h2]
  rfl
theorem z_setP {P : α → Rv → Prop} (i : Nat) {f : M Rv} {r : M Fl} {m : T τ α} {q : α → T τ ω} (h : J P f E m) (hx : ∀ u, X (E u)) (hr : ∀ t, refAt (E t)[i]? = false)
    (k : ∀ a v, P a v → JS r (fun t => (E t).set i (some v.sv)) (q a) Q X) : JS (seqM (setM i f) r) E (bd m q) Q X := by
  show JS (seqM (bindM f _) r) E _ Q X
  rw [seqM_bind]
  refine JS.bindJ h hx fun a v p => fun t => ?_
  have h2 := k a v p t
  have e : seqM (bindM (putM i (some v.sv)) fun _ => retM .nx) r (E t) = r ((E t).set i (some v.sv)) := by
    rw [seqM_ap, bindM_ap, putM_ok (hr t) rfl]
    rfl
  rw [e]
  exact h2
theorem z_setD [Enc α] (i : Nat) {E' : α → τ → Ev} {f : M Rv} {r : M Fl} {m : T τ α} {q : α → T τ ω} (h : JD f E m) (hx : ∀ u, X (E u)) (hr : ∀ t, refAt (E t)[i]? = false) (hs : ∀ a t, (E t).set i (some (.d (enc a))) = E' a t)
    (k : ∀ a, JS r (E' a) (q a) Q X) : JS (seqM (setM i f) r) E (bd m q) Q X := z_setP i h hx hr fun a v p => by
  cases p
  rw [show (fun t => (E t).set i (some (Rv.d (enc a)).sv)) = E' a from funext fun t => hs a t]
  exact k a
theorem z_setL [Enc α] (i : Nat) {E' : List α → τ → Ev} {f : M Rv} {r : M Fl} {m : T τ (List α)} {q : List α → T τ ω} (h : JL f E m) (hx : ∀ u, X (E u)) (hr : ∀ t, refAt (E t)[i]? = false) (hs : ∀ a t, (E t).set i (some (.ls false (a.map enc))) = E' a t)
    (k : ∀ a, JS r (E' a) (q a) Q X) : JS (seqM (setM i f) r) E (bd m q) Q X := z_setP i h hx hr fun a v p => by
  cases p
  rw [show (fun t => (E t).set i (some (Rv.l (a.map enc)).sv)) = E' a from funext fun t => hs a t]
  exact k a
/-- data, or a list of one's own -/
def lsx : Bool → Dt → Sv
  | false, .list xs => .ls false xs
  | _, x => .d x
@[simp] theorem lsx_t (x : Dt) : lsx true x = .d x := by cases x <;> rfl
@[simp] theorem lsx_l (xs : List Dt) : lsx false (.list xs) = .ls false xs := rfl
theorem lsx_ref (b : Bool) (x : Dt) : (lsx b x).isRef = false := by cases b <;> cases x <;> rfl
theorem lsx_slot (b : Bool) (x : Dt) : slotD (some (some (lsx b x))) = some x := by cases b <;> cases x <;> rfl
theorem z_setX [Enc α] (i : Nat) {E' : α → Bool → τ → Ev} {f : M Rv} {r : M Fl} {m : T τ α} {q : α → T τ ω} (h : JX f E m) (hx : ∀ u, X (E u)) (hr : ∀ t, refAt (E t)[i]? = false) (hs : ∀ a b t, (E t).set i (some (lsx b (enc a))) = E' a b t)
    (k : ∀ a b, JS r (E' a b) (q a) Q X) : JS (seqM (setM i f) r) E (bd m q) Q X := z_setP i h hx hr fun a v p => by
  rcases p with p | ⟨xs, e, p⟩
  · have := k a true
    rw [← show (fun t => (E t).set i (some (lsx true (enc a)))) = E' a true from funext fun t => hs a true t, lsx_t] at this
    rw [p]
    exact this
  · have := k a false
    rw [← show (fun t => (E t).set i (some (lsx false (enc a)))) = E' a false from funext fun t => hs a false t, e] at this
    rw [p]
    exact this
theorem j_vX [Enc α] (i : Nat) {a : α} {b : Bool} (h : ∀ u, (E u)[i]? = some (some (lsx b (enc a)))) : JR (varM i) E (rt a) := fun t => ⟨.s i, by rw [varM_ap, h], fun u => by
  show slotD (E u)[i]? = _
  rw [h]
  exact lsx_slot b _⟩
theorem z_expr {P : α → Rv → Prop} {f : M Rv} {r : M Fl} {m : T τ α} {q : α → T τ ω} (h : J P f E m) (hx : ∀ u, X (E u)) (k : ∀ a, JS r E (q a) Q X) : JS (seqM (exprS f) r) E (bd m q) Q X := by
  show JS (seqM (bindM f _) r) E _ Q X
  rw [seqM_bind]
  exact JS.bindJ h hx fun a v p => k a
theorem z_asg [Enc α] {tg : Tgt} {E' : α → τ → Ev} {f : M Av} {r : M Fl} {m : T τ α} {q : α → T τ ω} (h : JE f E m) (hx : ∀ u, X (E u)) (hp : ∀ a t, putT tg (enc a) (E t) = .ok () (E' a t)) (k : ∀ a, JS r (E' a) (q a) Q X) : JS (seqM (asgM f tg) r) E (bd m q) Q X := by
  show JS (seqM (bindM f _) r) E _ Q X
  rw [seqM_bind]
  refine JS.bindJ h hx fun a v p => fun t => ?_
  have h2 := k a t
  have e : seqM (bindM (optM fun ρ => fzv ρ v) fun d => bindM (putT tg d) fun _ => retM .nx) r (E t) = r (E' a t) := by
    rw [seqM_ap, bindM_ap, optM_ap, p t]
    dsimp only
    rw [bindM_ap, hp a t]
    rfl
  rw [e]
  exact h2
/-! share -/
theorem z_share (i : Nat) {E' : τ → Ev} {f r : M Fl} {m : T τ ω} (hs : ∀ t, shareM i (E t) = .ok () (E' t)) (h : JS (seqM f r) E' m Q X) : JS (seqM (withS i f) r) E m Q X := fun t => by
  have h := h t
  have e : seqM (withS i f) r (E t) = seqM f r (E' t) := by
    rw [seqM_ap, withS_ap, bindM_ap, hs t]
    rfl
  rw [e]
  exact h
theorem sh_x (i : Nat) {ρ ρ' : Ev} {b : Bool} {x : Dt} (h1 : ρ[i]? = some (some (lsx b x))) (h2 : ρ.set i (some (.d x)) = ρ') : shareM i ρ = .ok () ρ' := by
  have self : lsx b x = .d x → ρ = ρ' := fun q => by
    rw [← h2]
    rw [q] at h1
    apply List.ext_getElem?
    intro j
    rw [List.getElem?_set]
    split
    · rename_i z
      subst z
      rw [if_pos (List.getElem?_eq_some_iff.mp h1).1]
      exact h1
    · rfl
  rw [shareM_ap, h1]
  cases b with
  | true =>
    rw [lsx_t]
    dsimp only
    rw [self (lsx_t x)]
  | false =>
    cases x <;> first | (dsimp only [lsx]; rw [h2]; done) | (dsimp only [lsx]; rw [self rfl])
/-! changes of one's own list -/
/-- f changes E to E', and gives no value that is used -/
def JU (f : M Rv) (E : τ → Ev) (E' : σ → τ → Ev) (m : T τ σ) : Prop := ∀ t, match m t with
  | .ok p => ∃ rv, f (E t) = .ok rv (E' p.1 p.2)
  | .er k => ∃ u, f (E t) = .err k (E u)
  | .bad => True
/-- f changes E to E', and gives a value -/
def JM (P : γ → Rv → Prop) (f : M Rv) (E : τ → Ev) (E' : σ → τ → Ev) (m : T τ (γ × σ)) : Prop := ∀ t, match m t with
  | .ok p => ∃ rv, f (E t) = .ok rv (E' p.1.2 p.2) ∧ P p.1.1 rv
  | .er k => ∃ u, f (E t) = .err k (E u)
  | .bad => True
theorem mut_at {i : Nat} {b : Bool} {xs : List Dt} {g : List Dt → List Dt → Option (Dt × List Dt)} {fl : M (List Av)} {ρ ρ' : Ev} {vs : List Av} {ds : List Dt} {z : Dt} {ys : List Dt} (h1 : ρ[i]? = some (some (.ls b xs))) (h2 : fl ρ = .ok vs ρ') (h3 : ρ'[i]? = some (some (.ls b xs))) (h4 : fzs ρ' vs = some ds) (h5 : g xs ds = some (z, ys)) :
    mutM i g fl ρ = .ok (.d z) (ρ'.set i (some (.ls b ys))) := by
  rw [mutM_ap, bindM_ap, optM_ap, h1]
  show bindM fl _ ρ = _
  rw [bindM_ap, h2]
  dsimp only
  rw [h3, h4]
  dsimp only [slotL_l]
  rw [h5]
theorem mut_er {i : Nat} {b : Bool} {xs : List Dt} {g : List Dt → List Dt → Option (Dt × List Dt)} {fl : M (List Av)} {ρ ρ' : Ev} {k : Nat} (h1 : ρ[i]? = some (some (.ls b xs))) (h2 : fl ρ = .err k ρ') : mutM i g fl ρ = .err k ρ' := by
  rw [mutM_ap, bindM_ap, optM_ap, h1]
  show bindM fl _ ρ = _
  rw [bindM_ap, h2]
def pAs (E : τ → Ev) (ds : β → List Dt) : β → List Av → Prop := fun y vs => ∀ u, fzs (E u) vs = some (ds y)
theorem a_0 : J (pAs E fun (_ : Unit) => []) (retM []) E (rt ()) := J.ret fun _ => rfl
theorem a_1 [Enc β] {f : M Av} {m : T τ β} (h : JE f E m) : J (pAs E fun y => [enc y]) (consM f (retM [])) E m := fun t => by
  have h := h t
  unfold Sat at *
  rw [consM_ap, bindM_ap]
  cases e : m t with
  | ok p =>
    rw [e] at h
    obtain ⟨v, h1, h2⟩ := h
    rw [h1]
    exact ⟨[v], rfl, fun u => by rw [fzs_cons, h2 u]; rfl⟩
  | er k =>
    rw [e] at h
    obtain ⟨u, h1⟩ := h
    exact ⟨u, by rw [h1]⟩
  | bad => trivial
theorem a_2 [Enc β] [Enc γ] {f f' : M Av} {m : T τ β} {m' : T τ γ} (h : JE f E m) (h' : JE f' E m') : J (pAs E fun (y : β × γ) => [enc y.1, enc y.2]) (consM f (consM f' (retM []))) E (bd m fun a => bd m' fun b => rt (a, b)) :=
  J.bind h fun a v k => J.bind (a_1 h') fun b vs k' => J.ret fun u => by
    rw [fzs_cons, k u, k' u]
    rfl
theorem m_U [Enc α] (i : Nat) {b : Bool} {xs : List α} {ds : β → List Dt} {E' : List α → τ → Ev} {g : List Dt → List Dt → Option (Dt × List Dt)} {op : List α → β → Option (List α)} {fl : M (List Av)} {m : T τ β}
    (hop : ∀ xs y ys, op xs y = some ys → ∃ z, g (xs.map enc) (ds y) = some (z, ys.map enc)) (hs : ∀ t, (E t)[i]? = some (some (.ls b (xs.map enc)))) (h : J (pAs E ds) fl E m) (hw : ∀ ys t, (E t).set i (some (.ls b (ys.map enc))) = E' ys t) : JU (mutM i g fl) E E' (bd m fun y => lo (op xs y)) := fun t => by
  have h := h t
  unfold Sat at h
  unfold bd lo
  cases e : m t with
  | ok p =>
    rw [e] at h
    obtain ⟨vs, h1, h2⟩ := h
    dsimp only
    cases q : op xs p.1 with
    | none => trivial
    | some ys =>
      obtain ⟨z, hz⟩ := hop xs p.1 ys q
      exact ⟨_, by rw [mut_at (hs t) h1 (hs p.2) (h2 p.2) hz, hw]⟩
  | er k =>
    rw [e] at h
    obtain ⟨u, h1⟩ := h
    exact ⟨u, mut_er (hs t) h1⟩
  | bad => trivial
theorem m_M [Enc α] [Enc γ] (i : Nat) {b : Bool} {xs : List α} {ds : β → List Dt} {E' : List α → τ → Ev} {g : List Dt → List Dt → Option (Dt × List Dt)} {op : List α → β → Option (γ × List α)} {fl : M (List Av)} {m : T τ β}
    (hop : ∀ xs y z ys, op xs y = some (z, ys) → g (xs.map enc) (ds y) = some (enc z, ys.map enc)) (hs : ∀ t, (E t)[i]? = some (some (.ls b (xs.map enc)))) (h : J (pAs E ds) fl E m) (hw : ∀ ys t, (E t).set i (some (.ls b (ys.map enc))) = E' ys t) : JM pD (mutM i g fl) E E' (bd m fun y => lo (op xs y)) := fun t => by
  have h := h t
  unfold Sat at h
  unfold bd lo
  cases e : m t with
  | ok p =>
    rw [e] at h
    obtain ⟨vs, h1, h2⟩ := h
    dsimp only
    cases q : op xs p.1 with
    | none => trivial
    | some ys => exact ⟨_, by rw [mut_at (hs t) h1 (hs p.2) (h2 p.2) (hop xs p.1 ys.1 ys.2 q), hw], rfl⟩
  | er k =>
    rw [e] at h
    obtain ⟨u, h1⟩ := h
    exact ⟨u, mut_er (hs t) h1⟩
  | bad => trivial
theorem z_exprU {E' : σ → τ → Ev} {f : M Rv} {r : M Fl} {m : T τ σ} {q : σ → T τ ω} (h : JU f E E' m) (hx : ∀ u, X (E u)) (k : ∀ s, JS r (E' s) (q s) Q X) : JS (seqM (exprS f) r) E (bd m q) Q X := fun t => by
  have h := h t
  unfold bd
  rw [show exprS f = bindM f (fun _ => retM .nx) from rfl, seqM_bind, bindM_ap]
  cases e : m t with
  | ok p =>
    rw [e] at h
    obtain ⟨rv, h1⟩ := h
    rw [h1]
    exact k p.1 p.2
  | er n =>
    rw [e] at h
    obtain ⟨u, h1⟩ := h
    rw [h1]
    exact ⟨E u, rfl, hx u⟩
  | bad => trivial
theorem z_exprM {P : γ → Rv → Prop} {E' : σ → τ → Ev} {f : M Rv} {r : M Fl} {m : T τ (γ × σ)} {q : γ × σ → T τ ω} (h : JM P f E E' m) (hx : ∀ u, X (E u)) (k : ∀ z s, JS r (E' s) (q (z, s)) Q X) : JS (seqM (exprS f) r) E (bd m q) Q X := fun t => by
  have h := h t
  unfold bd
  rw [show exprS f = bindM f (fun _ => retM .nx) from rfl, seqM_bind, bindM_ap]
  cases e : m t with
  | ok p =>
    rw [e] at h
    obtain ⟨rv, h1, _⟩ := h
    rw [h1]
    exact k p.1.1 p.1.2 p.2
  | er n =>
    rw [e] at h
    obtain ⟨u, h1⟩ := h
    rw [h1]
    exact ⟨E u, rfl, hx u⟩
  | bad => trivial
theorem z_setM [Enc γ] (i : Nat) {E' : σ → τ → Ev} {E2 : γ → σ → τ → Ev} {f : M Rv} {r : M Fl} {m : T τ (γ × σ)} {q : γ × σ → T τ ω} (h : JM pD f E E' m) (hx : ∀ u, X (E u)) (hr : ∀ s t, refAt (E' s t)[i]? = false) (hs : ∀ z s t, (E' s t).set i (some (.d (enc z))) = E2 z s t) (k : ∀ z s, JS r (E2 z s) (q (z, s)) Q X) : JS (seqM (setM i f) r) E (bd m q) Q X := fun t => by
  have h := h t
  unfold bd
  rw [show setM i f = bindM f (fun r => bindM (putM i (some r.sv)) fun _ => retM .nx) from rfl, seqM_bind, bindM_ap]
  cases e : m t with
  | ok p =>
    rw [e] at h
    obtain ⟨rv, h1, h2⟩ := h
    rw [h1]
    dsimp only
    rw [seqM_bind, bindM_ap, h2, sv_d, putM_ok (hr p.1.2 p.2) (hs p.1.1 p.1.2 p.2)]
    exact k p.1.1 p.1.2 p.2
  | er n =>
    rw [e] at h
    obtain ⟨u, h1⟩ := h
    rw [h1]
    exact ⟨E u, rfl, hx u⟩
  | bad => trivial
def appT (xs : List α) (y : α) : Option (List α) := if xs.length < 1000000 then some (xs ++ [y]) else none
theorem k_appT [Enc α] : ∀ (xs : List α) (y : α) (ys : List α), appT xs y = some ys → ∃ z, appD (xs.map enc) [enc y] = some (z, ys.map enc) := fun xs y ys h => by
  unfold appT at h
  split at h
  · rename_i hl
    cases h
    refine ⟨.none, ?_⟩
    show (if (xs.map enc).length < 1000000 then some (PyData.none, xs.map enc ++ [enc y]) else none) = _
    rw [List.length_map, if_pos hl]
    simp
  · cases h
def extT (xs ys : List α) : Option (List α) := if xs.length + ys.length ≤ 1000000 then some (xs ++ ys) else none
theorem k_extT [Enc α] : ∀ (xs y ys : List α), extT xs y = some ys → ∃ z, extD (xs.map enc) [enc y] = some (z, ys.map enc) := fun xs y ys h => by
  unfold extT at h
  split at h
  · rename_i hl
    cases h
    refine ⟨.none, ?_⟩
    show (if (xs.map enc).length + (y.map enc).length ≤ 1000000 then some (PyData.none, xs.map enc ++ y.map enc) else none) = _
    rw [List.length_map, List.length_map, if_pos hl]
    simp
  · cases h
def remT {α : Type} [EncQ α] (xs : List α) (y : α) : Option (List α) := if xs.length ≤ 1000000 then (xs.findIdx? fun x => eqT x y).map fun j => xs.eraseIdx j else none
theorem remT_eq {α : Type} [EncQ α] [BEq α] [LawfulBEq α] {xs : List α} {y : α} (h : y ∈ xs) (hl : xs.length ≤ 1000000) : remT xs y = some (xs.erase y) := by
  unfold remT
  have e : (fun x => eqT x y) = fun (z : α) => z == y := by
    funext z
    rw [Bool.eq_iff_iff, eqT_iff, beq_iff_eq]
  rw [if_pos hl, e, List.findIdx?_eq_some_of_exists ⟨y, h, by simp⟩, Option.map_some, List.erase_eq_eraseIdx_of_idxOf rfl]
  rfl
theorem k_remT {α : Type} [EncQ α] (hd : EncQ.dp α ≤ 59) : ∀ (xs : List α) (y : α) (ys : List α), remT xs y = some ys → ∃ z, remD (xs.map enc) [enc y] = some (z, ys.map enc) := fun xs y ys h => by
  unfold remT at h
  split at h
  · rename_i hl
    refine ⟨.none, ?_⟩
    show (if shal (enc y) && decide ((xs.map enc).length ≤ 1000000) then (SeqAt.dataPlace (xs.map enc) (enc y)).map fun j => (PyData.none, (xs.map enc).eraseIdx j) else none) = _
    rw [shal_enc hd, List.length_map, place_enc, if_pos (by simp [hl])]
    cases q : xs.findIdx? fun x => eqT x y with
    | none => rw [q] at h; cases h
    | some j =>
      rw [q] at h
      cases h
      rw [Option.map_some, map_eraseN]
  · cases h
def insT (xs : List α) (y : Int × α) : Option (List α) := if xs.length < 1000000 ∧ 0 ≤ y.1 ∧ y.1 < 4611686018427387904 then some (xs.take y.1.toNat ++ [y.2] ++ xs.drop y.1.toNat) else none
theorem k_insT [Enc α] : ∀ (xs : List α) (y : Int × α) (ys : List α), insT xs y = some ys → ∃ z, insD (xs.map enc) [enc y.1, enc y.2] = some (z, ys.map enc) := fun xs y ys h => by
  unfold insT at h
  split at h
  · rename_i hl
    cases h
    refine ⟨.none, ?_⟩
    have hm : mid y.1 = true := by
      unfold mid
      exact Nat.blt_eq.mpr (by omega)
    show (if (xs.map enc).length < 1000000 ∧ 0 ≤ y.1 ∧ mid y.1 = true then some (PyData.none, (xs.map enc).take y.1.toNat ++ [enc y.2] ++ (xs.map enc).drop y.1.toNat) else none) = _
    rw [List.length_map, if_pos ⟨hl.1, hl.2.1, hm⟩]
    simp
  · cases h
def popT (xs : List α) (_ : Unit) : Option (α × List α) := (xs[xs.length - 1]?).map fun y => (y, xs.dropLast)
theorem k_popT [Enc α] : ∀ (xs : List α) (y : Unit) (z : α) (ys : List α), popT xs y = some (z, ys) → popD (xs.map enc) [] = some (enc z, ys.map enc) := fun xs y z ys h => by
  unfold popT at h
  show ((xs.map enc)[(xs.map enc).length - 1]?).map (fun y => (y, (xs.map enc).dropLast)) = _
  rw [List.length_map, List.getElem?_map]
  cases q : xs[xs.length - 1]? with
  | none => rw [q] at h; cases h
  | some w =>
    rw [q] at h
    cases h
    rw [Option.map_some, Option.map_some, List.map_dropLast]
def popAtT (xs : List α) (i : Int) : Option (α × List α) := if 0 ≤ i ∧ i < xs.length ∧ i < 4611686018427387904 then (xs[i.toNat]?).map fun y => (y, xs.eraseIdx i.toNat) else none
theorem k_popAtT [Enc α] : ∀ (xs : List α) (i : Int) (z : α) (ys : List α), popAtT xs i = some (z, ys) → popAtD (xs.map enc) [enc i] = some (enc z, ys.map enc) := fun xs i z ys h => by
  unfold popAtT at h
  split at h
  · rename_i hl
    have hm : mid i = true := by
      unfold mid
      exact Nat.blt_eq.mpr (by omega)
    show (if 0 ≤ i ∧ i < (xs.map enc).length ∧ mid i = true then ((xs.map enc)[i.toNat]?).map fun y => (y, (xs.map enc).eraseIdx i.toNat) else none) = _
    rw [List.length_map, if_pos ⟨hl.1, hl.2.1, hm⟩, List.getElem?_map]
    cases q : xs[i.toNat]? with
    | none => rw [q] at h; cases h
    | some w =>
      rw [q] at h
      cases h
      rw [Option.map_some, Option.map_some, map_eraseN]
  · cases h
end
end G8
namespace G8
open PySem L2
open Enc (enc dec)
section
variable {τ α β γ δ σ ω Jt : Type} {E : τ → Ev} {Q : ω → τ → Fl → Ev → Prop} {X : Ev → Prop}
/-! an item is stored -/
theorem JS.at_congr {o o' : Out Fl} (h : o = o') {r : Rs (ω × τ)} : (match r with
  | .ok p => ∃ fl ρ, o' = .ok fl ρ ∧ Q p.1 p.2 fl ρ
  | .er k => ∃ ρ, o' = .err k ρ ∧ X ρ
  | .bad => True) → match r with
  | .ok p => ∃ fl ρ, o = .ok fl ρ ∧ Q p.1 p.2 fl ρ
  | .er k => ∃ ρ, o = .err k ρ ∧ X ρ
  | .bad => True := by
  subst h
  exact id
def setT {α : Type} (xs : List α) (k : Int) (a : α) : Option (List α) := (ixN xs.length k).map fun j => xs.set j a
theorem z_setIt [Enc α] (i : Nat) {b : Bool} {xs : List α} {E' : List α → τ → Ev} {f g : M Av} {r : M Fl} {m : T τ α} {n : T τ Int} {q : List α → T τ ω} (hs : ∀ t, (E t)[i]? = some (some (.ls b (xs.map enc)))) (h : JE f E m) (h' : JR g E n) (hx : ∀ u, X (E u)) (hw : ∀ ys t, (E t).set i (some (.ls b (ys.map enc))) = E' ys t)
    (k : ∀ ys, JS r (E' ys) (q ys) Q X) : JS (seqM (setIt i f g) r) E (bd m fun a => bd n fun j => bd (lo (setT xs j a)) q) Q X := by
  show JS (seqM (bindM f _) r) E _ Q X
  rw [seqM_bind]
  refine JS.bindJ h hx fun a v p => ?_
  have h2 : JS (bindM g fun w => seqM (fun ρ => match slotL ρ[i]?, fzv ρ v, res ρ w with
  | some (r, xs), some d, some (.int n) => (match ixN xs.length n with
    | some j => .ok .nx (ρ.set i (some (.ls r (xs.set j d))))
    | none => .bad)
  | _, _, _ => .bad) r) E (bd n fun j => bd (lo (setT xs j a)) q) Q X := JS.bindJ h' hx fun j w p' => fun t => by
    unfold bd lo
    cases e : setT xs j a with
    | none => trivial
    | some ys =>
      unfold setT at e
      have h3 := k ys t
      have e3 : seqM (fun ρ => match slotL ρ[i]?, fzv ρ v, res ρ w with
  | some (r, xs), some d, some (.int n) => (match ixN xs.length n with
    | some j => .ok .nx (ρ.set i (some (.ls r (xs.set j d))))
    | none => .bad)
  | _, _, _ => .bad) r (E t) = r (E' ys t) := by
        rw [seqM_ap, hs t, p t, p' t]
        dsimp only [slotL_l, enc_i]
        rw [List.length_map]
        cases q : ixN xs.length j with
        | none => rw [q] at e; cases e
        | some l =>
          rw [q] at e
          cases e
          dsimp only
          rw [← hw, List.map_set]
      rw [e3]
      exact h3
  intro t
  have h2 := h2 t
  have e : seqM (bindM (optM fun ρ => slotL ρ[i]?) fun _ => bindM g fun k ρ => match slotL ρ[i]?, fzv ρ v, res ρ k with
  | some (r, xs), some d, some (.int n) => (match ixN xs.length n with
    | some j => .ok .nx (ρ.set i (some (.ls r (xs.set j d))))
    | none => .bad)
  | _, _, _ => .bad) r (E t) = (bindM g fun w => seqM (fun ρ => match slotL ρ[i]?, fzv ρ v, res ρ w with
  | some (r, xs), some d, some (.int n) => (match ixN xs.length n with
    | some j => .ok .nx (ρ.set i (some (.ls r (xs.set j d))))
    | none => .bad)
  | _, _, _ => .bad) r) (E t) := by
    rw [seqM_bind, bindM_ap, optM_ap, hs t]
    dsimp only [slotL_l]
    rw [seqM_bind]
  exact JS.at_congr e h2
/-! if -/
def QN (E' : σ → Jt → τ → Ev) : σ → τ → Fl → Ev → Prop := fun s t fl ρ => fl = .nx ∧ ∃ j, ρ = E' s j t
def QE (Q : ω → τ → Fl → Ev → Prop) : ω → τ → Fl → Ev → Prop := fun o t fl ρ => fl ≠ .nx ∧ Q o t fl ρ
def QM (E' : σ → Jt → τ → Ev) (Q : ω → τ → Fl → Ev → Prop) : σ ⊕ ω → τ → Fl → Ev → Prop := fun z t fl ρ => match z with
  | .inl s => fl = .nx ∧ ∃ j, ρ = E' s j t
  | .inr o => fl ≠ .nx ∧ Q o t fl ρ
def orK (q : σ → T τ ω) : σ ⊕ ω → T τ ω
  | .inl s => q s
  | .inr o => rt o
@[simp] theorem orK_l (q : σ → T τ ω) (s : σ) : orK q (.inl s) = q s := rfl
@[simp] theorem orK_r (q : σ → T τ ω) (o : ω) : orK q (.inr o) = rt o := rfl
theorem seqM_if (f : M Bool) (a b r : M Fl) : seqM (ifM f a b) r = bindM f fun k => match k with
    | true => seqM a r
    | false => seqM b r := by
  show seqM (bindM f _) r = _
  rw [seqM_bind]
  congr 1
  funext k
  cases k <;> rfl
/-- a part that goes on, then the rest -/
theorem JS.thenN {E' : σ → Jt → τ → Ev} {a r : M Fl} {m : T τ σ} {q : σ → T τ ω} (h : JS (seqM a (retM .nx)) E m (QN E') X) (k : ∀ s j, JS r (E' s j) (q s) Q X) : JS (seqM a r) E (bd m q) Q X := fun t => by
  rw [seqM_nil] at h
  have h := h t
  unfold bd
  rw [seqM_ap]
  cases e : m t with
  | ok p =>
    rw [e] at h
    obtain ⟨fl, ρ, h1, rfl, j, rfl⟩ := h
    rw [h1]
    exact k p.1 j p.2
  | er n =>
    rw [e] at h
    obtain ⟨ρ, h1, h2⟩ := h
    rw [h1]
    exact ⟨ρ, rfl, h2⟩
  | bad => trivial
theorem JS.thenE {a r : M Fl} {m : T τ ω} (h : JS (seqM a (retM .nx)) E m (QE Q) X) : JS (seqM a r) E m Q X := fun t => by
  rw [seqM_nil] at h
  have h := h t
  rw [seqM_ap]
  cases e : m t with
  | ok p =>
    rw [e] at h
    obtain ⟨fl, ρ, h1, h2, h3⟩ := h
    rw [h1]
    cases fl with
    | nx => exact absurd rfl h2
    | bk => exact ⟨_, _, rfl, h3⟩
    | ct => exact ⟨_, _, rfl, h3⟩
    | rt r => exact ⟨_, _, rfl, h3⟩
  | er n =>
    rw [e] at h
    obtain ⟨ρ, h1, h2⟩ := h
    rw [h1]
    exact ⟨ρ, rfl, h2⟩
  | bad => trivial
theorem JS.thenM {E' : σ → Jt → τ → Ev} {a r : M Fl} {m : T τ (σ ⊕ ω)} {q : σ → T τ ω} (h : JS (seqM a (retM .nx)) E m (QM E' Q) X) (k : ∀ s j, JS r (E' s j) (q s) Q X) : JS (seqM a r) E (bd m (orK q)) Q X := fun t => by
  rw [seqM_nil] at h
  have h := h t
  unfold bd
  rw [seqM_ap]
  cases e : m t with
  | ok p =>
    rw [e] at h
    obtain ⟨z, t'⟩ := p
    cases z with
    | inl s =>
      obtain ⟨fl, ρ, h1, rfl, j, rfl⟩ := h
      rw [h1]
      exact k s j t'
    | inr o =>
      obtain ⟨fl, ρ, h1, h2, h3⟩ := h
      rw [h1]
      cases fl with
      | nx => exact absurd rfl h2
      | bk => exact ⟨_, _, rfl, h3⟩
      | ct => exact ⟨_, _, rfl, h3⟩
      | rt r => exact ⟨_, _, rfl, h3⟩
  | er n =>
    rw [e] at h
    obtain ⟨ρ, h1, h2⟩ := h
    rw [h1]
    exact ⟨ρ, rfl, h2⟩
  | bad => trivial
theorem z_if {f : M Bool} {a b r : M Fl} {mt : T τ Bool} {ma mb : T τ ω} (ht : JT f E mt) (hx : ∀ u, X (E u)) (ha : JS (seqM a r) E ma Q X) (hb : JS (seqM b r) E mb Q X) : JS (seqM (ifM f a b) r) E (bd mt fun k => if k then ma else mb) Q X := by
  rw [seqM_if]
  refine JS.bindJ ht hx fun k v p => ?_
  cases p
  cases k
  · exact hb
  · exact ha
/-- the one branch leaves -/
theorem z_ifE {f : M Bool} {a r : M Fl} {mt : T τ Bool} {ma mr : T τ ω} (ht : JT f E mt) (hx : ∀ u, X (E u)) (ha : JS (seqM a (retM .nx)) E ma (QE Q) X) (hr : JS r E mr Q X) : JS (seqM (ifM f a (retM .nx)) r) E (bd mt fun k => if k then ma else mr) Q X := z_if ht hx (JS.thenE ha) hr
/-- both branches go on -/
theorem z_ifN {E' : σ → Jt → τ → Ev} {f : M Bool} {a b r : M Fl} {mt : T τ Bool} {ma mb : T τ σ} {q : σ → T τ ω} (ht : JT f E mt) (hx : ∀ u, X (E u)) (ha : JS (seqM a (retM .nx)) E ma (QN E') X) (hb : JS (seqM b (retM .nx)) E mb (QN E') X) (k : ∀ s j, JS r (E' s j) (q s) Q X) : JS (seqM (ifM f a b) r) E (bd (bd mt fun k => if k then ma else mb) q) Q X :=
  JS.thenN (z_if ht hx ha hb) k
theorem z_ifM {E' : σ → Jt → τ → Ev} {f : M Bool} {a b r : M Fl} {mt : T τ Bool} {ma mb : T τ (σ ⊕ ω)} {q : σ → T τ ω} (ht : JT f E mt) (hx : ∀ u, X (E u)) (ha : JS (seqM a (retM .nx)) E ma (QM E' Q) X) (hb : JS (seqM b (retM .nx)) E mb (QM E' Q) X) (k : ∀ s j, JS r (E' s j) (q s) Q X) : JS (seqM (ifM f a b) r) E (bd (bd mt fun k => if k then ma else mb) (orK q)) Q X :=
  JS.thenM (z_if ht hx ha hb) k
/-! loops -/
def lp (body : α → σ → T τ σ) : List α → σ → T τ σ
  | [], s => rt s
  | x :: xs, s => bd (body x s) (lp body xs)
inductive Lx (σ ω : Type) where
  | nx (s : σ)
  | bk (s : σ)
  | out (o : ω)
def lpx (body : α → σ → T τ (Lx σ ω)) : List α → σ → T τ (σ ⊕ ω)
  | [], s => rt (.inl s)
  | x :: xs, s => bd (body x s) fun z => match z with
    | .nx s' => lpx body xs s'
    | .bk s' => rt (.inl s')
    | .out o => rt (.inr o)
def QL (E' : σ → Jt → τ → Ev) : σ → τ → Fl → Ev → Prop := fun s t fl ρ => (fl = .nx ∨ fl = .ct) ∧ ∃ j, ρ = E' s j t
def QLx (E' : σ → Jt → τ → Ev) (Q : ω → τ → Fl → Ev → Prop) : Lx σ ω → τ → Fl → Ev → Prop := fun z t fl ρ => match z with
  | .nx s => (fl = .nx ∨ fl = .ct) ∧ ∃ j, ρ = E' s j t
  | .bk s => fl = .bk ∧ ∃ j, ρ = E' s j t
  | .out o => (∃ r, fl = .rt r) ∧ Q o t fl ρ
theorem loop_N [Enc α] {tg : Tgt} {body : M Fl} {EL : σ → Jt → τ → Ev} {EB : α → σ → Jt → τ → Ev} {mb : α → σ → T τ σ} (hp : ∀ x s j t, putT tg (enc x) (EL s j t) = .ok () (EB x s j t)) (hb : ∀ x s j, JS (seqM body (retM .nx)) (EB x s j) (mb x s) (QL EL) X) :
    ∀ (xs : List α) (s : σ) (j : Jt), JS (forL tg body (xs.map enc)) (EL s j) (lp mb xs s) (QN EL) X
  | [], s, j => fun t => ⟨.nx, _, rfl, rfl, j, rfl⟩
  | x :: xs, s, j => fun t => by
    have h := hb x s j
    rw [seqM_nil] at h
    have h := h t
    rw [List.map_cons, forL_cons, hp x s j t]
    dsimp only
    show match bd (mb x s) (lp mb xs) t with
      | .ok p => _
      | .er k => _
      | .bad => True
    unfold bd
    cases e : mb x s t with
    | ok p =>
      rw [e] at h
      obtain ⟨fl, ρ, h1, h2, j', rfl⟩ := h
      rw [h1]
      have ih := loop_N hp hb xs p.1 j' p.2
      rcases h2 with rfl | rfl <;> exact ih
    | er n =>
      rw [e] at h
      obtain ⟨ρ, h1, h2⟩ := h
      rw [h1]
      exact ⟨ρ, rfl, h2⟩
    | bad => trivial
theorem loop_X [Enc α] {tg : Tgt} {body : M Fl} {EL : σ → Jt → τ → Ev} {EB : α → σ → Jt → τ → Ev} {mb : α → σ → T τ (Lx σ ω)} (hp : ∀ x s j t, putT tg (enc x) (EL s j t) = .ok () (EB x s j t)) (hb : ∀ x s j, JS (seqM body (retM .nx)) (EB x s j) (mb x s) (QLx EL Q) X) :
    ∀ (xs : List α) (s : σ) (j : Jt), JS (forL tg body (xs.map enc)) (EL s j) (lpx mb xs s) (QM EL Q) X
  | [], s, j => fun t => ⟨.nx, _, rfl, rfl, j, rfl⟩
  | x :: xs, s, j => fun t => by
    have h := hb x s j
    rw [seqM_nil] at h
    have h := h t
    rw [List.map_cons, forL_cons, hp x s j t]
    dsimp only
    unfold lpx bd
    cases e : mb x s t with
    | ok p =>
      rw [e] at h
      obtain ⟨z, t'⟩ := p
      cases z with
      | nx s' =>
        obtain ⟨fl, ρ, h1, h2, j', rfl⟩ := h
        rw [h1]
        have ih := loop_X hp hb xs s' j' t'
        rcases h2 with rfl | rfl <;> exact ih
      | bk s' =>
        obtain ⟨fl, ρ, h1, rfl, j', rfl⟩ := h
        rw [h1]
        exact ⟨_, _, rfl, rfl, j', rfl⟩
      | out o =>
        obtain ⟨fl, ρ, h1, ⟨r, rfl⟩, h3⟩ := h
        rw [h1]
        exact ⟨_, _, rfl, (fun z => by cases z), h3⟩
    | er n =>
      rw [e] at h
      obtain ⟨ρ, h1, h2⟩ := h
      rw [h1]
      exact ⟨ρ, rfl, h2⟩
    | bad => trivial
theorem z_for [Enc α] {tg : Tgt} {fi : M (List Dt)} {body r : M Fl} {mi : T τ (List α)} {s0 : σ} {q : σ → T τ ω} (EL : σ → Jt → τ → Ev) {EB : α → σ → Jt → τ → Ev} {mb : α → σ → T τ σ} (hi : JI fi E mi) (hx : ∀ u, X (E u)) (j0 : Jt) (h0 : ∀ t, E t = EL s0 j0 t) (hp : ∀ x s j t, putT tg (enc x) (EL s j t) = .ok () (EB x s j t))
    (hb : ∀ x s j, JS (seqM body (retM .nx)) (EB x s j) (mb x s) (QL EL) X) (k : ∀ s j, JS r (EL s j) (q s) Q X) : JS (seqM (forM fi tg body) r) E (bd mi fun xs => bd (lp mb xs s0) q) Q X := by
  show JS (seqM (bindM fi _) r) E _ Q X
  rw [seqM_bind]
  refine JS.bindJ hi hx fun xs v p => ?_
  cases p
  refine JS.thenN ?_ k
  rw [seqM_nil]
  have := loop_N (X := X) hp hb xs s0 j0
  rw [← show E = EL s0 j0 from funext h0] at this
  exact this
theorem z_forX [Enc α] {tg : Tgt} {fi : M (List Dt)} {body r : M Fl} {mi : T τ (List α)} {s0 : σ} {q : σ → T τ ω} (EL : σ → Jt → τ → Ev) {EB : α → σ → Jt → τ → Ev} {mb : α → σ → T τ (Lx σ ω)} (hi : JI fi E mi) (hx : ∀ u, X (E u)) (j0 : Jt) (h0 : ∀ t, E t = EL s0 j0 t) (hp : ∀ x s j t, putT tg (enc x) (EL s j t) = .ok () (EB x s j t))
    (hb : ∀ x s j, JS (seqM body (retM .nx)) (EB x s j) (mb x s) (QLx EL Q) X) (k : ∀ s j, JS r (EL s j) (q s) Q X) : JS (seqM (forM fi tg body) r) E (bd mi fun xs => bd (lpx mb xs s0) (orK q)) Q X := by
  show JS (seqM (bindM fi _) r) E _ Q X
  rw [seqM_bind]
  refine JS.bindJ hi hx fun xs v p => ?_
  cases p
  refine JS.thenM ?_ k
  rw [seqM_nil]
  have := loop_X (X := X) (Q := Q) hp hb xs s0 j0
  rw [← show E = EL s0 j0 from funext h0] at this
  exact this
/-! returns -/
theorem z_ret {P : α → Rv → Prop} {f : M Rv} {r : M Fl} {m : T τ α} {o : α → ω} (h : J P f E m) (hx : ∀ u, X (E u)) (k : ∀ a v t, P a v → Q (o a) t (.rt v) (E t)) : JS (seqM (retS f) r) E (bd m fun a => rt (o a)) Q X := by
  show JS (seqM (bindM f _) r) E _ Q X
  rw [seqM_bind]
  exact JS.bindJ h hx fun a v p => fun t => ⟨_, _, rfl, k a v t p⟩
theorem z_retO (i : Nat) {v : Rv} {r : M Fl} {o : ω} (h : ∀ t, slotR (E t)[i]? = some v) (k : ∀ t, Q o t (.rt v) (E t)) : JS (seqM (retO i) r) E (rt o) Q X := fun t => ⟨.rt v, E t, by
  rw [seqM_ap, retO_ap, bindM_ap, optM_ap, h t]
  rfl, k t⟩
theorem z_retN {r : M Fl} {o : ω} (k : ∀ t, Q o t (.rt (.d .none)) (E t)) : JS (seqM (retM (.rt (.d .none))) r) E (rt o) Q X := fun t => ⟨.rt (.d .none), E t, rfl, k t⟩
def rvx : Bool → Dt → Rv
  | false, .list xs => .l xs
  | _, x => .d x
theorem slotR_x (b : Bool) (x : Dt) : slotR (some (some (lsx b x))) = some (rvx b x) := by cases b <;> cases x <;> rfl
theorem pX_rvx [Enc α] (b : Bool) (a : α) : pX a (rvx b (enc a)) := by
  cases b with
  | true => exact .inl (by cases enc a <;> rfl)
  | false =>
    cases e : enc a with
    | list xs => exact .inr ⟨xs, e, rfl⟩
    | _ => exact .inl (by rw [e]; rfl)
/-! try -/
def tryT (m : T Unit σ) (q1 : σ → T Unit ω) (q2 : Nat → T Unit ω) : T Unit ω := fun _ => match m () with
  | .ok p => q1 p.1 ()
  | .er k => q2 k ()
  | .bad => .bad
theorem z_try {E : Unit → Ev} {Q : ω → Unit → Fl → Ev → Prop} {E1 : σ → Jt → Unit → Ev} {E2 : Nat → Unit → Ev} {g : Nat → Bool} {i j : Nat} {f r : M Fl} {m : T Unit σ} {q1 : σ → T Unit ω} {q2 : Nat → T Unit ω} (hg : ∀ k, g k = true) (h : JS (seqM f (retM .nx)) E m (QN E1) (fun ρ => ρ = E ()))
    (h1 : ownAt (E ())[i]? = false) (h2 : refAt (E ())[j]? = false) (h3 : i ≠ j) (h4 : i < (E ()).length) (h5 : ∀ k, ((E ()).set i none).set j (some (.ex k)) = E2 k ())
    (k1 : ∀ s jj, JS r (E1 s jj) (q1 s) Q X) (k2 : ∀ k, JS r (E2 k) (q2 k) Q X) : JS (seqM (tryM g i j f) r) E (tryT m q1 q2) Q X := fun t => by
  cases t
  rw [seqM_nil] at h
  have h := h ()
  unfold tryT
  rw [seqM_ap, tryM_ap]
  cases e : m () with
  | ok p =>
    rw [e] at h
    obtain ⟨fl, ρ, h1, rfl, j, rfl⟩ := h
    rw [h1]
    exact k1 p.1 j ()
  | er n =>
    rw [e] at h
    obtain ⟨ρ, e1, rfl⟩ := h
    rw [e1]
    dsimp only
    rw [hg n, if_pos rfl, h1, h2, if_neg (by decide), if_neg (by omega), h5 n]
    exact k2 n ()
  | bad => trivial
def tryO' (g : Nat → Bool) (m : T Unit σ) (q1 : σ → T Unit ω) (q2 : T Unit ω) : T Unit ω := fun _ => match m () with
  | .ok p => q1 p.1 ()
  | .er k => if g k then q2 () else .er k
  | .bad => .bad
theorem z_tryO {E : Unit → Ev} {Q : ω → Unit → Fl → Ev → Prop} {E1 : σ → Jt → Unit → Ev} {g : Nat → Bool} {h f r : M Fl} {m : T Unit σ} {q1 : σ → T Unit ω} {q2 : T Unit ω} (hf : JS (seqM f (retM .nx)) E m (QN E1) (fun ρ => ρ = E ())) (hx : X (E ()))
    (k1 : ∀ s jj, JS r (E1 s jj) (q1 s) Q X) (k2 : JS (seqM h r) E q2 Q X) : JS (seqM (tryO g h f) r) E (tryO' g m q1 q2) Q X := fun t => by
  cases t
  rw [seqM_nil] at hf
  have hf := hf ()
  unfold tryO'
  rw [seqM_ap, tryO_ap]
  cases e : m () with
  | ok p =>
    rw [e] at hf
    obtain ⟨fl, ρ, h1, rfl, j, rfl⟩ := hf
    rw [h1]
    exact k1 p.1 j ()
  | er n =>
    rw [e] at hf
    obtain ⟨ρ, e1, rfl⟩ := hf
    rw [e1]
    dsimp only
    cases g n with
    | true =>
      rw [if_pos rfl, if_pos rfl]
      have := k2 ()
      rw [seqM_ap] at this
      exact this
    | false =>
      rw [if_neg (by decide), if_neg (by decide)]
      exact ⟨_, rfl, hx⟩
  | bad => trivial
theorem j_isNex {k : Nat} (i : Nat) (h : ∀ u, (E u)[i]? = some (some (.ex k))) : JT (isNT false (varM i)) E (rt false) := fun t => ⟨false, by
  rw [isNT_ap, bindM_ap, varM_ap, h]
  dsimp only
  rw [optM_ap, nonA_s, h]
  rfl, rfl⟩
theorem refusal_all (k : Nat) : F__law_refusal [.ex k] = .ok (.d (refD k)) [none] := by
  by_cases h : k < 8
  · exact refusal_eq k h
  · obtain ⟨n, rfl⟩ : ∃ n, k = n + 8 := ⟨k - 8, by omega⟩
    have e : ∀ j, is8 j (n + 8) = is8 j 7 := fun j => by
      unfold is8
      rw [show min (n + 8) 7 = 7 by omega, show min 7 7 = 7 from rfl]
    have h7 := refusal_eq 7 (by decide)
    have er : refD (n + 8) = refD 7 := rfl
    rw [er]
    simp only [F__law_refusal, f__law_refusal, bodyF_ap] at h7 ⊢
    simp [e, is8] at h7 ⊢
    exact h7
theorem j_refusal {k : Nat} (i : Nat) (h : ∀ u, (E u)[i]? = some (some (.ex k))) : JD (callM 1 F__law_refusal (consM (varM i) (retM []))) E (rt (refD k)) := fun t => ⟨.d (refD k), by
  rw [callM_ap, bindM_cons, bindM_ap, varM_ap, h]
  dsimp only
  rw [bindM_ret, callF_ap, if_pos ⟨rfl, by rw [okArgs_s, h]; rfl⟩, resolve_s, h]
  dsimp only
  rw [resolve_nil]
  show (match F__law_refusal [.ex k] with
    | .ok r outs => Out.ok r (writeBack (E t) [.s i] outs)
    | .err k outs => .err k (writeBack (E t) [.s i] outs)
    | .bad => .bad) = _
  rw [refusal_all]
  dsimp only
  rw [wb_same]
  intro l s hs ho
  rw [posOf_s, if_neg (fun z => by
    subst z
    rw [h] at hs
    cases hs
    cases ho)]
  rfl, rfl⟩
/-! ends of functions -/
def QF (P : β → Rv → Prop) : β → τ → Fl → Ev → Prop := fun b _ fl _ => (∃ r, fl = .rt r ∧ P b r) ∨ (fl = .nx ∧ P b (.d .none))
def XT : Ev → Prop := fun _ => True
theorem finE_d : ∀ (ds : List Dt) (ρ : Ev), finE (ds.map Sv.d) ρ = List.replicate ds.length none
  | [], ρ => rfl
  | d :: ds, ρ => by
    rw [List.map_cons, finE_cons, finE_d ds]
    rfl
theorem c_body {P : β → Rv → Prop} {n : Nat} {f : M Fl} {ds : List Dt} {E : Unit → Ev} {m : T Unit β} (hE : svsE (ds.map Sv.d) ++ List.replicate (n - (ds.map Sv.d).length) none = E ()) (h : JS (seqM f (retM .nx)) E m (QF P) XT) : CF P (bodyF n f (ds.map Sv.d)) ds.length (run1 m) := by
  rw [seqM_nil] at h
  have h := h ()
  rw [bodyF_ap, hE]
  unfold CF run1
  cases e : m () with
  | ok p =>
    rw [e] at h
    obtain ⟨fl, ρ, h1, h2⟩ := h
    rw [h1]
    rcases h2 with ⟨r, rfl, h2⟩ | ⟨rfl, h2⟩
    · exact ⟨r, by dsimp only; rw [finE_d], h2⟩
    · exact ⟨_, by dsimp only; rw [finE_d], h2⟩
  | er k =>
    rw [e] at h
    obtain ⟨ρ, h1, h2⟩ := h
    rw [h1]
    dsimp only
    rw [finE_d]
  | bad => trivial
def QD (P : β → Rv → Prop) : β → Nat → Fl → Ev → Prop := fun b t fl ρ => ((∃ r, fl = .rt r ∧ P b r) ∨ (fl = .nx ∧ P b (.d .none))) ∧ ρ[1]? = some (some (.ls true (zr t)))
theorem c_draw {P : β → Rv → Prop} {n : Nat} {f : M Fl} {ns : List Int} {ds : List Dt} {E : Nat → Ev} {m : T Nat β} (hE : ∀ t, svsE (.scr ns :: .ls true (zr t) :: ds.map Sv.d) ++ List.replicate (n - (ds.length + 2)) none = E t) (h : JS (seqM f (retM .nx)) E m (QD P) XT) : CD P (bodyF n f) ns ds (noEr m) := fun t => by
  rw [seqM_nil] at h
  have h := h t
  have hl : (Sv.scr ns :: .ls true (zr t) :: ds.map Sv.d).length = ds.length + 2 := by simp
  rw [bodyF_ap, hl, hE t]
  unfold noEr
  have fin : ∀ (ρ : Ev) (t' : Nat), ρ[1]? = some (some (.ls true (zr t'))) → finE (.scr ns :: .ls true (zr t) :: ds.map Sv.d) ρ = none :: some (.ls true (zr t')) :: List.replicate ds.length none := fun ρ t' h => by
    match ρ, h with
    | a :: b :: ρ, h =>
      simp at h
      rw [finE_cons, finE_cons]
      show _ :: _ :: finE (ds.map Sv.d) ρ = _
      rw [finE_d, h]
      rfl
  cases e : m t with
  | ok p =>
    rw [e] at h
    obtain ⟨fl, ρ, h1, h2, h3⟩ := h
    rw [h1]
    rcases h2 with ⟨r, rfl, h2⟩ | ⟨rfl, h2⟩
    · exact ⟨r, by dsimp only; rw [fin ρ _ h3], h2⟩
    · exact ⟨_, by dsimp only; rw [fin ρ _ h3], h2⟩
  | er k => trivial
  | bad => trivial
/-- the draw itself -/
def drawT (ns : List Int) (m : Int) : T Nat Int := fun t => if 0 < m ∧ t < 900000 then .ok (drw ns (t + 1) m, t + 1) else .bad
theorem c__law_draw (ns : List Int) (m : Int) : CD pD F__law_draw ns [enc m] (drawT ns m) := fun t => by
  unfold drawT
  by_cases h : 0 < m ∧ t < 900000
  · rw [if_pos h]
    refine ⟨_, ?_, rfl⟩
    have := draw_eq ns (zr t) m h.1 (by simp [zr]; omega)
    have hz : (zr t).length = t := by simp [zr]
    have hz2 : zr t ++ [PyData.int 0] = zr (t + 1) := by
      unfold zr
      rw [List.replicate_succ']
    rw [hz, hz2] at this
    exact this
  · rw [if_neg h]
    trivial
/-! the law -/
def QW : Bool → Nat → Fl → Ev → Prop := fun b _ fl _ => fl = .rt (.d (.bool b))
theorem keeps_of {n : Nat} {rest : M Fl} (hn : 2 ≤ n) {E : List Int → Nat → Ev} {m : List Int → T Nat Bool} (hE : ∀ ns t, E ns t = some (.scr ns) :: some (.ls false (zr t)) :: List.replicate (n - 2) none) (h : ∀ ns, JS rest (E ns) (m ns) QW XT)
    (k : ∀ ns : List Int, ns.length ≤ 63 → ∃ t, m ns 0 = .ok (true, t)) : Keeps (bodyF n (seqM (setM 1 (lstM (retM []))) rest)) := by
  intro ns hl
  obtain ⟨t, e⟩ := k ns hl
  have h := h ns 0
  rw [e] at h
  obtain ⟨fl, ρ, h1, h2⟩ := h
  have h2 : fl = .rt (.d (.bool true)) := h2
  subst h2
  refine ⟨_, bodyF_rt (ρ := ρ) ?_⟩
  rw [← h1, hE]
  obtain ⟨n, rfl⟩ : ∃ k, n = k + 2 := ⟨n - 2, by omega⟩
  rfl
end
end G8
namespace G8
open PySem L2
open Enc (enc dec)
abbrev Jk := {o : Option Sv // ownAt (some o) = false}
abbrev Jr := {o : Option Sv // refAt (some o) = false}
def jk0 : Jk := ⟨none, rfl⟩
def jkd (x : Dt) : Jk := ⟨some (.d x), rfl⟩
def jr0 : Jr := ⟨none, rfl⟩
def jrd (x : Dt) : Jr := ⟨some (.d x), rfl⟩
def jrl (x : List Dt) : Jr := ⟨some (.ls false x), rfl⟩
def jrx (b : Bool) (x : Dt) : Jr := ⟨some (lsx b x), lsx_ref b x⟩
theorem ref_of_own {o : Option (Option Sv)} (h : ownAt o = false) : refAt o = false := by
  match o, h with
  | none, _ => rfl
  | some none, _ => rfl
  | some (some s), h =>
    cases e : s.isRef with
    | false => exact e
    | true =>
      have := own_of_ref e
      rw [show ownAt (some (some s)) = s.own from rfl, this] at h
      cases h
def jkr (j : Jk) : Jr := ⟨j.1, ref_of_own j.2⟩
theorem put_1 {ρ ρ' : Ev} {i : Nat} {d : Dt} (h1 : ownAt ρ[i]? = false) (h2 : ρ.set i (some (.d d)) = ρ') : putT (.one i) d ρ = .ok () ρ' := by
  rw [putT_one, putD_ap, h1, h2]
  rfl
theorem put_2 {ρ ρ1 ρ2 : Ev} {i k : Nat} {d e : Dt} (h1 : ownAt ρ[i]? = false) (h2 : ρ.set i (some (.d d)) = ρ1) (h3 : ownAt ρ1[k]? = false) (h4 : ρ1.set k (some (.d e)) = ρ2) : putT (.tup [i, k]) (.tuple [d, e]) ρ = .ok () ρ2 := by
  rw [putT_tup, putDs_cons, bindM_ap, putD_ap, h1, h2]
  show putDs [k] [e] ρ1 = _
  rw [putDs_cons, bindM_ap, putD_ap, h3, h4]
  rfl
theorem put_3 {ρ ρ1 ρ2 ρ3 : Ev} {i k l : Nat} {d e f : Dt} (h1 : ownAt ρ[i]? = false) (h2 : ρ.set i (some (.d d)) = ρ1) (h3 : ownAt ρ1[k]? = false) (h4 : ρ1.set k (some (.d e)) = ρ2) (h5 : ownAt ρ2[l]? = false) (h6 : ρ2.set l (some (.d f)) = ρ3) : putT (.tup [i, k, l]) (.tuple [d, e, f]) ρ = .ok () ρ3 := by
  rw [putT_tup, putDs_cons, bindM_ap, putD_ap, h1, h2]
  show putDs [k, l] [e, f] ρ1 = _
  rw [putDs_cons, bindM_ap, putD_ap, h3, h4]
  show putDs [l] [f] ρ2 = _
  rw [putDs_cons, bindM_ap, putD_ap, h5, h6]
  rfl
theorem any_1 {ρ : Ev} {i : Nat} (h : ownAt ρ[i]? = false) : anyOwn ρ [i] = false := by
  rw [anyOwn_cons, h]
  rfl
theorem any_2 {ρ : Ev} {i k : Nat} (h : ownAt ρ[i]? = false) (h2 : ownAt ρ[k]? = false) : anyOwn ρ [i, k] = false := by
  rw [anyOwn_cons, h, anyOwn_cons, h2]
  rfl
section
variable {τ α β γ : Type} {E : τ → Ev} [Enc α]
theorem jr_some [NN α] {f : M Av} {m : T τ α} (h : JR f E m) : JR f E (bd m fun a => rt (some a)) := h.map fun _ _ k => k
theorem jr_getO [NN α] {f : M Av} {m : T τ (Option α)} (h : JR f E m) : JR f E (bd m fun a => lo a) := h.mapo fun a b v k e => by subst e; exact k
theorem jr_dt {f : M Av} {m : T τ α} (h : JR f E m) : JR f E (bd m fun a => rt (enc a)) := h.map fun _ _ k => k
theorem jr_dec {f : M Av} {m : T τ Dt} (h : JR f E m) : JR f E (bd m fun a => lo (dec a : Option α)) := h.mapo fun a b v k e u => by
  rw [k u, ← Enc.ed a b e]
  rfl
theorem jr_noneO [NN α] {f : M Av} {m : T τ Unit} (h : JR f E m) : JR f E (bd m fun _ => rt (none : Option α)) := h.map fun _ _ k => k
theorem jd_some [NN α] {f : M Rv} {m : T τ α} (h : JD f E m) : JD f E (bd m fun a => rt (some a)) := h.map fun _ _ k => k
theorem jd_getO [NN α] {f : M Rv} {m : T τ (Option α)} (h : JD f E m) : JD f E (bd m fun a => lo a) := h.mapo fun a b v k e => by subst e; exact k
theorem jd_dt {f : M Rv} {m : T τ α} (h : JD f E m) : JD f E (bd m fun a => rt (enc a)) := h.map fun _ _ k => k
theorem jd_dec {f : M Rv} {m : T τ Dt} (h : JD f E m) : JD f E (bd m fun a => lo (dec a : Option α)) := h.mapo fun a b v k e => by
  rw [show v = .d a from k, Enc.ed a b e]
  rfl
theorem jd_noneO [NN α] {f : M Rv} {m : T τ Unit} (h : JD f E m) : JD f E (bd m fun _ => rt (none : Option α)) := h.map fun _ _ k => k
theorem jx_dec {f : M Rv} {m : T τ Dt} (h : JX f E m) : JX f E (bd m fun a => lo (dec a : Option α)) := h.mapo fun a b v k e => by
  have := Enc.ed a b e
  rcases k with k | ⟨xs, k, k2⟩
  · exact .inl (by rw [k]; exact congrArg Rv.d this)
  · exact .inr ⟨xs, by rw [← this]; exact k, k2⟩
theorem jx_getO [NN α] {f : M Rv} {m : T τ (Option α)} (h : JX f E m) : JX f E (bd m fun a => lo a) := h.mapo fun a b v k e => by subst e; exact k
def allSome {α : Type} : List (Option α) → Option (List α)
  | [] => some []
  | none :: _ => none
  | some a :: xs => (allSome xs).map fun r => a :: r
theorem allSome_enc [NN α] : ∀ (xs : List (Option α)) (ys : List α), allSome xs = some ys → xs.map enc = ys.map enc
  | [], ys, h => by cases h; rfl
  | none :: _, ys, h => by cases h
  | some a :: xs, ys, h => by
    rw [allSome] at h
    cases e : allSome xs with
    | none => rw [e] at h; cases h
    | some zs =>
      rw [e] at h
      cases h
      rw [List.map_cons, List.map_cons, allSome_enc xs zs e]
      rfl
theorem map_some_enc [NN α] (xs : List α) : (xs.map some).map enc = xs.map enc := by
  rw [List.map_map]
  rfl
theorem j_lsome [NN α] {f : M Av} {m : T τ (List α)} (h : JE f E m) : JE f E (bd m fun a => rt (a.map some)) := h.map fun a v k u => by
  rw [k u, enc_l, enc_l, map_some_enc]
theorem jr_lsome [NN α] {f : M Av} {m : T τ (List α)} (h : JR f E m) : JR f E (bd m fun a => rt (a.map some)) := h.map fun a v k u => by
  rw [k u, enc_l, enc_l, map_some_enc]
theorem j_lget [NN α] {f : M Av} {m : T τ (List (Option α))} (h : JE f E m) : JE f E (bd m fun a => lo (allSome a)) := h.mapo fun a b v k e u => by
  rw [k u, enc_l, enc_l, allSome_enc a b e]
theorem jr_lget [NN α] {f : M Av} {m : T τ (List (Option α))} (h : JR f E m) : JR f E (bd m fun a => lo (allSome a)) := h.mapo fun a b v k e u => by
  rw [k u, enc_l, enc_l, allSome_enc a b e]
theorem j_p2 [Enc β] [NN β] {f : M Av} {m : T τ (α × Option β)} (h : JE f E m) : JE f E (bd m fun p => lo (p.2.map fun b => (p.1, b))) := h.mapo fun a b v k e => by
  obtain ⟨a1, a2⟩ := a
  cases a2 with
  | none => cases e
  | some c => cases e; exact k
theorem jr_p2 [Enc β] [NN β] {f : M Av} {m : T τ (α × Option β)} (h : JR f E m) : JR f E (bd m fun p => lo (p.2.map fun b => (p.1, b))) := h.mapo fun a b v k e => by
  obtain ⟨a1, a2⟩ := a
  cases a2 with
  | none => cases e
  | some c => cases e; exact k
theorem j_retL {xs : List α} {ys : List Dt} (h : ys = xs.map enc) : JL (retM (.l ys)) E (rt xs) := J.ret (by rw [h]; rfl)
end
end G8
namespace G8
open PySem L2
open Enc (enc dec)
/-! the pick -/
def pickT {α : Type} (ns : List Int) (some : List α) : T Nat α := fun t => match drawT ns some.length t with
  | .ok p => (match atI some p.1 with
    | .some a => .ok (a, p.2)
    | .none => .bad)
  | _ => .bad
theorem c__law_pick {α : Type} [Enc α] (ns : List Int) (some : List α) : CD pD F__law_pick ns [enc some] (pickT ns some) := fun t => by
  have h := c__law_draw ns some.length t
  unfold pickT
  cases e : drawT ns some.length t with
  | er k => trivial
  | bad => trivial
  | ok p =>
    rw [e] at h
    obtain ⟨rv, h1, h2⟩ := h
    cases h2
    dsimp only
    cases q : atI some p.1 with
    | none => trivial
    | some a =>
      refine ⟨_, ?_, rfl⟩
      have q2 : atI (some.map enc) p.1 = .some (enc a) := by rw [atI_map, q]; rfl
      simp at h1
      simp [F__law_pick, f__law_pick, bodyF_ap, enc_l, h1, q2]
end G8
namespace G8
open PySem L2
open Enc (enc dec)
/-! dicts with int keys, typed -/
section
variable {τ α β γ δ ε σ ω Jt : Type} {E : τ → Ev} {Q : ω → τ → Fl → Ev → Prop} {X : Ev → Prop}
def kvE [Enc α] (d : List (Int × α)) : List (Key × Dt) := d.map fun p => (Sum.inl p.1, enc p.2)
def dGet (d : List (Int × α)) (k : Int) : Option α := (d.find? fun p => decide (p.1 = k)).map (·.2)
def dPut (d : List (Int × α)) (k : Int) (v : α) : List (Int × α) := if (d.any fun p => decide (p.1 = k)) = true then d.map (fun p => if p.1 = k then (p.1, v) else p) else d ++ [(k, v)]
def dDrop (d : List (Int × α)) (k : Int) : List (Int × α) := d.filter fun p => decide (p.1 ≠ k)
theorem inl_eq (a b : Int) : decide ((Sum.inl a : Key) = Sum.inl b) = decide (a = b) := by
  by_cases h : a = b <;> simp [h]
theorem kGet_E [Enc α] (k : Int) : ∀ d : List (Int × α), kGet (kvE d) (.inl k) = (dGet d k).map enc
  | [] => rfl
  | p :: d => by
    have ih := kGet_E k d
    unfold kGet dGet kvE at *
    rw [List.map_cons, List.find?_cons, List.find?_cons]
    dsimp only
    rw [inl_eq]
    cases decide (p.1 = k) with
    | true => rfl
    | false => exact ih
theorem any_E [Enc α] (k : Int) : ∀ d : List (Int × α), ((kvE d).any fun kv => decide (kv.1 = Sum.inl k)) = d.any fun p => decide (p.1 = k)
  | [] => rfl
  | p :: d => by
    have ih := any_E k d
    unfold kvE at *
    rw [List.map_cons, List.any_cons, List.any_cons, ih]
    dsimp only
    rw [inl_eq]
theorem kPut_E [Enc α] (d : List (Int × α)) (k : Int) (v : α) : kPut (kvE d) (.inl k) (enc v) = kvE (dPut d k v) := by
  unfold kPut dPut
  rw [any_E]
  split
  · unfold kvE
    rw [List.map_map, List.map_map]
    refine List.map_congr_left fun p _ => ?_
    by_cases h : p.1 = k <;> simp [h]
  · unfold kvE
    rw [List.map_append]
    rfl
theorem kDrop_E [Enc α] (k : Int) : ∀ d : List (Int × α), kDrop (kvE d) (.inl k) = kvE (dDrop d k)
  | [] => rfl
  | p :: d => by
    have ih := kDrop_E k d
    unfold kDrop dDrop kvE at *
    rw [List.map_cons, List.filter_cons, List.filter_cons, ih]
    by_cases h : p.1 = k <;> simp [h]
theorem ksOf_E [Enc α] : ∀ d : List (Int × α), ksOf (kvE d) = some (d.map (·.1))
  | [] => rfl
  | p :: d => by
    show (ksOf (kvE d)).map _ = _
    rw [ksOf_E d]
    rfl
/-! expressions -/
theorem var_K {i : Nat} {kvs : List (Key × Dt)} (h : ∀ u, slotK (E u)[i]? = some kvs) : J (fun (_ : Unit) (_ : Av) => True) (varM i) E (rt ()) := fun t => by
  have h := h t
  unfold slotK at h
  split at h
  · rename_i r ks q
    exact ⟨.s i, by rw [varM_ap, q], trivial⟩
  · rename_i ks q
    exact ⟨.s i, by rw [varM_ap, q], trivial⟩
  · cases h
theorem j_inK [Enc α] (i : Nat) {d : List (Int × α)} {f : M Av} {m : T τ Int} (hs : ∀ u, slotK (E u)[i]? = some (kvE d)) (h : JR f E m) : JE (inK false i f) E (bd m fun k => rt (dGet d k).isSome) :=
  J.bind h fun k v p => (J.opt fun c e => by
    cases e
    refine ⟨.d (.bool (dGet d k).isSome), fun u => rfl, fun u => ?_⟩
    rw [hs u, p u]
    show some (Av.d (.bool (kGet (kvE d) (.inl k)).isSome)) = _
    rw [kGet_E, Option.isSome_map] : J (pZ E) _ E (lo (some (dGet d k).isSome)))
theorem j_ninK [Enc α] (i : Nat) {d : List (Int × α)} {f : M Av} {m : T τ Int} (hs : ∀ u, slotK (E u)[i]? = some (kvE d)) (h : JR f E m) : JE (inK true i f) E (bd m fun k => rt (!(dGet d k).isSome)) :=
  J.bind h fun k v p => (J.opt fun c e => by
    cases e
    refine ⟨.d (.bool (!(dGet d k).isSome)), fun u => rfl, fun u => ?_⟩
    rw [hs u, p u]
    show some (Av.d (.bool (!(kGet (kvE d) (.inl k)).isSome))) = _
    rw [kGet_E, Option.isSome_map] : J (pZ E) _ E (lo (some (!(dGet d k).isSome))))
theorem j_getK [Enc α] (i : Nat) {d : List (Int × α)} {f : M Av} {m : T τ Int} (hs : ∀ u, slotK (E u)[i]? = some (kvE d)) (h : JR f E m) : JE (getK i f) E (bd m fun k => lo (dGet d k)) := by
  have := J.bind (Q := pZ E) (g := fun _ => bindM f fun a => optM fun ρ => (slotK ρ[i]?).bind fun kvs => ((res ρ a).bind dkey).bind fun k => (kGet kvs k).map Av.d) (q := fun _ => bd m fun k => lo (dGet d k)) (var_K hs) fun _ _ _ => J.bind h fun k v p => J.opt fun c e => ⟨.d (enc c), fun u => rfl, fun u => by
    rw [hs u, p u]
    show (kGet (kvE d) (.inl k)).map Av.d = _
    rw [kGet_E, e]
    rfl⟩
  rw [bd_rt] at this
  exact this
theorem j_keysM [Enc α] (i : Nat) {d : List (Int × α)} (hs : ∀ u, (E u)[i]? = some (some (.fk (kvE d)))) : JI (keysM i) E (rt (d.map fun p => p.1)) := fun t => by
  refine ⟨(kvE d).map fun kv => keyD kv.1, ?_, ?_⟩
  · unfold keysM
    rw [optM_ap, hs t]
  · show (kvE d).map (fun kv => keyD kv.1) = (d.map fun p => p.1).map enc
    unfold kvE
    rw [List.map_map, List.map_map]
    rfl
theorem j_sortK [Enc α] (i : Nat) {d : List (Int × α)} (hs : ∀ u, slotK (E u)[i]? = some (kvE d)) : JL (sortK i) E (lo (if d.length ≤ 1000 then some (srt (d.map (·.1))) else none)) := J.opt fun c e => by
  split at e
  · rename_i hl
    cases e
    refine ⟨_, rfl, fun u => ?_⟩
    rw [hs u]
    show (ksOf (kvE d)).bind _ = _
    rw [ksOf_E]
    show (if (d.map (·.1)).length ≤ 1000 then _ else none) = _
    rw [List.length_map, if_pos hl]
    rfl
  · cases e
theorem j_lenK [Enc α] (i : Nat) {d : List (Int × α)} {r : Bool} (hs : ∀ u, (E u)[i]? = some (some (.dk r (kvE d)))) : JE (lenM (varM i)) E (rt (d.length : Int)) := fun t => ⟨.d (.int d.length), by
  rw [lenM_ap, bindM_ap, varM_ap, hs t]
  dsimp only
  rw [optM_ap, lenA_s, hs t]
  show Out.ok (Av.d (.int ((kvE d).length : Nat))) (E t) = _
  unfold kvE
  rw [List.length_map], fun u => rfl⟩
/-! statements -/
theorem z_newK [Enc α] (i : Nat) {E' : τ → Ev} {r : M Fl} {m : T τ ω} (hr : ∀ t, refAt (E t)[i]? = false) (hs : ∀ t, (E t).set i (some (.dk false (kvE ([] : List (Int × α))))) = E' t) (k : JS r E' m Q X) : JS (seqM (setM i (retM (.k []))) r) E m Q X := fun t => by
  have h2 := k t
  have e : seqM (setM i (retM (.k []))) r (E t) = r (E' t) := by
    rw [seqM_ap, setM_ap, bindM_ap, retM_ap]
    dsimp only
    rw [bindM_ap, show (Rv.k []).sv = .dk false (kvE ([] : List (Int × α))) from rfl, putM_ok (hr t) (hs t)]
    rfl
  exact JS.at_congr e h2
theorem z_putK [Enc α] (i : Nat) {d : List (Int × α)} {E' : List (Int × α) → τ → Ev} {f g : M Av} {r : M Fl} {m : T τ α} {n : T τ Int} {q : List (Int × α) → T τ ω} (hs : ∀ t, (E t)[i]? = some (some (.dk false (kvE d)))) (h : JE f E m) (h' : JR g E n) (hx : ∀ u, X (E u)) (hw : ∀ d' t, (E t).set i (some (.dk false (kvE d'))) = E' d' t)
    (k : ∀ d', JS r (E' d') (q d') Q X) : JS (seqM (putKM i f g) r) E (bd m fun a => bd n fun j => bd (lo (if d.length < 1000000 then some (dPut d j a) else none)) q) Q X := by
  show JS (seqM (bindM f _) r) E _ Q X
  rw [seqM_bind]
  refine JS.bindJ h hx fun a v p => ?_
  rw [seqM_bind]
  have := JS.bindJ (Q := Q) (X := X) (g := fun _ => seqM (bindM g fun k ρ => match ρ[i]?, fzv ρ v, (res ρ k).bind dkey with
    | some (some (.dk r kvs)), some d, some kk => if kvs.length < 1000000 then .ok .nx (ρ.set i (some (.dk r (kPut kvs kk d)))) else .bad
    | _, _, _ => .bad) r) (q := fun _ => bd n fun j => bd (lo (if d.length < 1000000 then some (dPut d j a) else none)) q) (var_K (E := E) (i := i) (kvs := kvE d) fun u => by rw [hs u]; rfl) hx fun _ _ _ => by
    rw [seqM_bind]
    refine JS.bindJ h' hx fun j w p' => fun t => ?_
    by_cases hl : d.length < 1000000
    · rw [if_pos hl, bd_lo]
      have e : seqM (fun ρ => match ρ[i]?, fzv ρ v, (res ρ w).bind dkey with
    | some (some (.dk r kvs)), some d, some kk => if kvs.length < 1000000 then .ok .nx (ρ.set i (some (.dk r (kPut kvs kk d)))) else .bad
    | _, _, _ => .bad) r (E t) = r (E' (dPut d j a) t) := by
        rw [seqM_ap, hs t, p t, p' t]
        dsimp only [enc_i, Option.bind_some, dkey]
        rw [show (kvE d).length = d.length by unfold kvE; rw [List.length_map], if_pos hl, kPut_E, hw]
      exact JS.at_congr e (k (dPut d j a) t)
    · rw [if_neg hl]
      unfold bd lo
      trivial
  rw [bd_rt] at this
  exact this
theorem m_popK' [Enc α] (i : Nat) {d : List (Int × α)} {E' : List (Int × α) → τ → Ev} {f : M Av} {m : T τ Int} (hs : ∀ t, (E t)[i]? = some (some (.dk false (kvE d)))) (h : JR f E m) (hw : ∀ d' t, (E t).set i (some (.dk false (kvE d'))) = E' d' t) :
    JU (popKM i f) E E' (bd m fun k => lo ((dGet d k).map fun _ => dDrop d k)) := fun t => by
  have h := h t
  unfold Sat at h
  have e0 : popKM i f (E t) = bindM f (fun a ρ => match ρ[i]?, (res ρ a).bind dkey with
    | some (some (.dk r kvs)), some k => (match kGet kvs k with
      | some d => .ok (.d d) (ρ.set i (some (.dk r (kDrop kvs k))))
      | none => .bad)
    | _, _ => .bad) (E t) := by
    show bindM _ _ (E t) = _
    rw [bindM_ap, optM_ap, hs t]
    rfl
  unfold bd lo
  cases e : m t with
  | ok p =>
    rw [e] at h
    obtain ⟨v, h1, h2⟩ := h
    dsimp only
    cases q : dGet d p.1 with
    | none => trivial
    | some a =>
      refine ⟨.d (enc a), ?_⟩
      rw [e0, bindM_ap, h1]
      dsimp only
      rw [hs p.2, h2 p.2]
      dsimp only [enc_i, Option.bind_some, dkey]
      rw [kGet_E, q]
      dsimp only [Option.map_some]
      rw [kDrop_E, hw]
  | er k =>
    rw [e] at h
    obtain ⟨u, h1⟩ := h
    exact ⟨u, by rw [e0, bindM_ap, h1]⟩
  | bad => trivial
/-- a dict is locked while an expression runs -/
theorem j_lock [Enc α] {P : β → Rv → Prop} (i : Nat) {d : List (Int × α)} {E1 : τ → Ev} {f : M Rv} {m : T τ β} (hs : ∀ t, (E t)[i]? = some (some (.dk false (kvE d)))) (h1 : ∀ t, (E t).set i (some (.fk (kvE d))) = E1 t) (h2 : ∀ t, (E1 t)[i]? = some (some (.fk (kvE d)))) (h3 : ∀ t, noFk (E1 t) i = true)
    (h4 : ∀ t, (E1 t).set i (some (.dk false (kvE d))) = E t) (h : J P f E1 m) : J P (lockE i f) E (noEr m) := fun t => by
  have h := h t
  unfold Sat at h ⊢
  unfold noEr
  have e0 : lockE i f (E t) = (match f (E1 t) with
    | .ok r ρ' => (match ρ'[i]? with
      | some (some (.fk kvs')) => if noFk ρ' i then .ok r (ρ'.set i (some (.dk false kvs'))) else .bad
      | _ => .bad)
    | _ => .bad) := by
    unfold lockE
    rw [hs t]
    dsimp only
    rw [h1 t] <;> rfl
  cases e : m t with
  | ok p =>
    rw [e] at h
    obtain ⟨v, q1, q2⟩ := h
    refine ⟨v, ?_, q2⟩
    rw [e0, q1]
    dsimp only
    rw [h2 p.2]
    dsimp only
    rw [h3 p.2, if_pos rfl, h4 p.2]
  | er k => trivial
  | bad => trivial
/-! calls with a locked dict as the last arg -/
def svA : List Dt → List (Key × Dt) → List Sv := fun ds kvs => ds.map Sv.d ++ [.fk kvs]
theorem fzs_argsK {ρ : Ev} {i : Nat} {kvs : List (Key × Dt)} (hi : ρ[i]? = some (some (.fk kvs))) : ∀ {vs : List Av} {ds : List Dt}, fzs ρ vs = some ds → okArgs ρ (vs ++ [.s i]) = true ∧ resolve ρ (vs ++ [.s i]) = some (svA ds kvs) ∧ ∀ j s, ρ[j]? = some (some s) → s.own = true → posOf j (vs ++ [.s i]) = none
  | [], ds, h => by
    cases h
    refine ⟨?_, ?_, fun j s hs ho => ?_⟩
    · show okArgs ρ [.s i] = true
      rw [okArgs_s, hi]
      rfl
    · show resolve ρ [.s i] = _
      rw [resolve_s, hi]
      rfl
    · show posOf j [.s i] = none
      rw [posOf_s, if_neg (fun z => by
        subst z
        rw [hi] at hs
        cases hs
        cases ho)]
      rfl
  | v :: vs, ds, h => by
    rw [fzs_cons] at h
    cases e1 : fzv ρ v with
    | none => rw [e1] at h; cases h
    | some x =>
      cases e2 : fzs ρ vs with
      | none => rw [e1, e2] at h; cases h
      | some xs =>
        rw [e1, e2] at h
        cases h
        obtain ⟨h1, h2, h3⟩ := fzs_argsK hi e2
        obtain ⟨g1, g2, g3⟩ := fzs_args (vs := [v]) (ds := [x]) (by rw [fzs_cons, e1]; rfl)
        rw [List.cons_append]
        cases v with
        | d y =>
          cases e1
          exact ⟨h1, by rw [resolve_d, h2]; rfl, fun j s hs ho => by rw [posOf_d, h3 j s hs ho]; rfl⟩
        | s j =>
          have e1 : slotZ ρ[j]? = some x := e1
          unfold slotZ at e1
          split at e1
          · rename_i y q
            cases e1
            refine ⟨?_, ?_, fun l s hs ho => ?_⟩
            · rw [okArgs_s, q, h1]; rfl
            · rw [resolve_s, q]
              dsimp only
              rw [h2]
              rfl
            · have hne : j ≠ l := fun z => by
                subst z
                rw [q] at hs
                cases hs
                cases ho
              rw [posOf_s, if_neg hne, h3 l s hs ho]
              rfl
          · cases e1
theorem call_leafK {F : Fn} {n i : Nat} {kvs : List (Key × Dt)} {vs : List Av} {ds : List Dt} {P : β → Rv → Prop} {r : Rs β} (hi : ∀ u, (E u)[i]? = some (some (.fk kvs))) (hz : ∀ u, fzs (E u) vs = some ds) (hn : vs.length + 1 = n) (c : CF P (F (svA ds kvs)) n r) : J P (callF n F (vs ++ [.s i])) E (up r) := fun t => by
  obtain ⟨h1, h2, h3⟩ := fzs_argsK (hi t) (hz t)
  rw [callF_ap, if_pos ⟨by simp; omega, h1⟩, h2]
  dsimp only
  unfold CF at c
  cases r with
  | ok b =>
    obtain ⟨rv, e, p⟩ := c
    rw [e]
    exact ⟨rv, by dsimp only; rw [wb_same h3], p⟩
  | er k =>
    rw [show F (svA ds kvs) = _ from c]
    exact ⟨t, by dsimp only; rw [wb_same h3]⟩
  | bad => trivial
theorem finE_A (kvs : List (Key × Dt)) : ∀ (ds : List Dt) (ρ : Ev), finE (svA ds kvs) ρ = List.replicate (ds.length + 1) none
  | [], ρ => rfl
  | d :: ds, ρ => by
    show _ :: finE (svA ds kvs) _ = _
    rw [finE_A kvs ds]
    rfl
theorem c_bodyK {P : β → Rv → Prop} {n : Nat} {f : M Fl} {ds : List Dt} {kvs : List (Key × Dt)} {E : Unit → Ev} {m : T Unit β} (hE : svsE (svA ds kvs) ++ List.replicate (n - (svA ds kvs).length) none = E ()) (h : JS (seqM f (retM .nx)) E m (QF P) XT) : CF P (bodyF n f (svA ds kvs)) (ds.length + 1) (run1 m) := by
  rw [seqM_nil] at h
  have h := h ()
  rw [bodyF_ap, hE]
  unfold CF run1
  cases e : m () with
  | ok p =>
    rw [e] at h
    obtain ⟨fl, ρ, h1, h2⟩ := h
    rw [h1]
    rcases h2 with ⟨r, rfl, h2⟩ | ⟨rfl, h2⟩
    · exact ⟨r, by dsimp only; rw [finE_A], h2⟩
    · exact ⟨_, by dsimp only; rw [finE_A], h2⟩
  | er k =>
    rw [e] at h
    obtain ⟨ρ, h1, h2⟩ := h
    rw [h1]
    dsimp only
    rw [finE_A]
  | bad => trivial
theorem j_call4K [Enc α] [Enc γ] [Enc δ] {F : Fn} {P : β → Rv → Prop} {Pf : α → γ → δ → Rs β} {kvs : List (Key × Dt)} (i : Nat) (hi : ∀ u, (E u)[i]? = some (some (.fk kvs))) (c : ∀ a b d, CF P (F (svA [enc a, enc b, enc d] kvs)) 4 (Pf a b d)) {f g h : M Av} {m : T τ α} {q : T τ γ} {r : T τ δ} (h1 : JE f E m) (h2 : JE g E q) (h3 : JE h E r) :
    J P (callM 4 F (consM f (consM g (consM h (consM (varM i) (retM [])))))) E (bd m fun a => bd q fun b => bd r fun d => up (Pf a b d)) := by
  show J P (bindM (consM _ _) _) E _
  rw [bindM_cons]
  refine J.bind h1 fun a v k => ?_
  rw [bindM_cons]
  refine J.bind h2 fun b v' k' => ?_
  rw [bindM_cons]
  refine J.bind h3 fun d v'' k'' => ?_
  rw [bindM_cons]
  have := J.bind (Q := P) (g := fun z => bindM (retM []) fun as => callF 4 F ([v, v', v''] ++ (z :: as))) (q := fun _ => up (Pf a b d)) (P := fun (_ : Unit) z => z = .s i) (m := rt ()) (f := varM i) (E := E) (fun t => ⟨.s i, by rw [varM_ap, hi t], rfl⟩) fun _ z hz => by
    subst hz
    exact call_leafK (ds := [enc a, enc b, enc d]) hi (fun u => by rw [fzs_cons, k u, fzs_cons, k' u, fzs_cons, k'' u]; rfl) rfl (c a b d)
  rw [bd_rt] at this
  exact this
theorem j_call5K [Enc α] [Enc γ] [Enc δ] [Enc ε] {F : Fn} {P : β → Rv → Prop} {Pf : α → γ → δ → ε → Rs β} {kvs : List (Key × Dt)} (i : Nat) (hi : ∀ u, (E u)[i]? = some (some (.fk kvs))) (c : ∀ a b d e, CF P (F (svA [enc a, enc b, enc d, enc e] kvs)) 5 (Pf a b d e)) {f g h l : M Av} {m : T τ α} {q : T τ γ} {r : T τ δ} {s : T τ ε} (h1 : JE f E m) (h2 : JE g E q) (h3 : JE h E r) (h4 : JE l E s) :
    J P (callM 5 F (consM f (consM g (consM h (consM l (consM (varM i) (retM []))))))) E (bd m fun a => bd q fun b => bd r fun d => bd s fun e => up (Pf a b d e)) := by
  show J P (bindM (consM _ _) _) E _
  rw [bindM_cons]
  refine J.bind h1 fun a v k => ?_
  rw [bindM_cons]
  refine J.bind h2 fun b v' k' => ?_
  rw [bindM_cons]
  refine J.bind h3 fun d v'' k'' => ?_
  rw [bindM_cons]
  refine J.bind h4 fun e v3 k3 => ?_
  rw [bindM_cons]
  have := J.bind (Q := P) (g := fun z => bindM (retM []) fun as => callF 5 F ([v, v', v'', v3] ++ (z :: as))) (q := fun _ => up (Pf a b d e)) (P := fun (_ : Unit) z => z = .s i) (m := rt ()) (f := varM i) (E := E) (fun t => ⟨.s i, by rw [varM_ap, hi t], rfl⟩) fun _ z hz => by
    subst hz
    exact call_leafK (ds := [enc a, enc b, enc d, enc e]) hi (fun u => by rw [fzs_cons, k u, fzs_cons, k' u, fzs_cons, k'' u, fzs_cons, k3 u]; rfl) rfl (c a b d e)
  rw [bd_rt] at this
  exact this
end
end G8
namespace G8
open PySem L2
open Enc (enc dec)
/-! min, max, sorted of alike data -/
class Alk (α : Type) [EncQ α] : Prop where
  al : ∀ a b : α, PySem.W.alike (enc a) (enc b) = true
  nn : ∀ a : α, isNone (enc a) = false
instance : Alk Int := ⟨fun a b => by show PySem.W.alike (.int a) (.int b) = true; rw [PySem.W.alike], fun _ => rfl⟩
instance : Alk Str := ⟨fun a b => by show PySem.W.alike (.str a) (.str b) = true; rw [PySem.W.alike], fun _ => rfl⟩
instance instAP {α β : Type} [EncQ α] [EncQ β] [Alk α] [Alk β] : Alk (α × β) := ⟨fun a b => by
  show PySem.W.alike (.tuple [enc a.1, enc a.2]) (.tuple [enc b.1, enc b.2]) = true
  rw [PySem.W.alike, PySem.W.alikeAll, PySem.W.alikeAll, PySem.W.alikeAll, Alk.al, Alk.al]
  rfl, fun _ => rfl⟩
instance instAT {α β γ : Type} [EncQ α] [EncQ β] [EncQ γ] [Alk α] [Alk β] [Alk γ] : Alk (T3 α β γ) := ⟨fun a b => by
  show PySem.W.alike (.tuple [enc a.a, enc a.b, enc a.c]) (.tuple [enc b.a, enc b.b, enc b.c]) = true
  rw [PySem.W.alike, PySem.W.alikeAll, PySem.W.alikeAll, PySem.W.alikeAll, PySem.W.alikeAll, Alk.al, Alk.al, Alk.al]
  rfl, fun _ => rfl⟩
theorem alikeAll_enc {α : Type} [EncQ α] [Alk α] : ∀ xs ys : List α, PySem.W.alikeAll (xs.map enc) (ys.map enc) = true
  | [], ys => by rw [List.map_nil, PySem.W.alikeAll]
  | x :: xs, [] => by rw [List.map_cons, List.map_nil, PySem.W.alikeAll]
  | x :: xs, y :: ys => by rw [List.map_cons, List.map_cons, PySem.W.alikeAll, Alk.al, alikeAll_enc xs ys]; rfl
instance instAL {α : Type} [EncQ α] [Alk α] : Alk (List α) := ⟨fun a b => by
  show PySem.W.alike (.list (a.map enc)) (.list (b.map enc)) = true
  rw [PySem.W.alike, alikeAll_enc], fun _ => rfl⟩
theorem alikeB_enc {α : Type} [EncQ α] [Alk α] (xs : List α) : alikeB (xs.map enc) = true := by
  unfold alikeB
  rw [Bool.and_eq_true, List.all_eq_true, List.all_eq_true]
  refine ⟨fun x hx => List.all_eq_true.mpr fun y hy => ?_, fun x hx => ?_⟩
  · obtain ⟨a, _, rfl⟩ := List.mem_map.mp hx
    obtain ⟨b, _, rfl⟩ := List.mem_map.mp hy
    exact Alk.al a b
  · obtain ⟨a, _, rfl⟩ := List.mem_map.mp hx
    rw [Alk.nn a]
    rfl
def ltE {α : Type} [Enc α] (a b : α) : Bool := PySem.W.dataLt (enc a) (enc b)
def minE {α : Type} [Enc α] : List α → Option α
  | [] => none
  | x :: xs => some (xs.foldl (fun a y => if ltE y a then y else a) x)
def maxE {α : Type} [Enc α] : List α → Option α
  | [] => none
  | x :: xs => some (xs.foldl (fun a y => if ltE a y then y else a) x)
theorem minD_enc {α : Type} [Enc α] : ∀ (xs : List α) (x : α), PySem.W.minD (enc x) (xs.map enc) = enc (xs.foldl (fun a y => if ltE y a then y else a) x)
  | [], x => rfl
  | y :: xs, x => by
    have ih := minD_enc xs (if ltE y x then y else x)
    unfold PySem.W.minD at ih ⊢
    rw [List.map_cons, List.foldl_cons, List.foldl_cons, ← ih]
    congr 1
    unfold ltE
    split <;> rfl
theorem maxD_enc {α : Type} [Enc α] : ∀ (xs : List α) (x : α), PySem.W.maxD (enc x) (xs.map enc) = enc (xs.foldl (fun a y => if ltE a y then y else a) x)
  | [], x => rfl
  | y :: xs, x => by
    have ih := maxD_enc xs (if ltE x y then y else x)
    unfold PySem.W.maxD at ih ⊢
    rw [List.map_cons, List.foldl_cons, List.foldl_cons, ← ih]
    congr 1
    unfold ltE
    split <;> rfl
theorem q_minE {α : Type} [EncQ α] [Alk α] (h : EncQ.dp α ≤ 59) : ∀ (a : List α) (c : α), minE a = some c → ∃ r, pD c r ∧ bestD PySem.W.minD [enc a] = some r := fun a c e => by
  cases a with
  | nil => cases e
  | cons x xs =>
    cases e
    refine ⟨_, rfl, ?_⟩
    show (if shalL ((x :: xs).map enc) && alikeB ((x :: xs).map enc) then some (Rv.d (PySem.W.minD (enc x) (xs.map enc))) else none) = _
    rw [shalL_enc h, alikeB_enc, minD_enc]
    rfl
theorem q_maxE {α : Type} [EncQ α] [Alk α] (h : EncQ.dp α ≤ 59) : ∀ (a : List α) (c : α), maxE a = some c → ∃ r, pD c r ∧ bestD PySem.W.maxD [enc a] = some r := fun a c e => by
  cases a with
  | nil => cases e
  | cons x xs =>
    cases e
    refine ⟨_, rfl, ?_⟩
    show (if shalL ((x :: xs).map enc) && alikeB ((x :: xs).map enc) then some (Rv.d (PySem.W.maxD (enc x) (xs.map enc))) else none) = _
    rw [shalL_enc h, alikeB_enc, maxD_enc]
    rfl
def srtE {α : Type} [Enc α] (xs : List α) : List α := xs.mergeSort fun x y => leD (enc x) (enc y)
theorem q_sortP {α β : Type} [EncQ α] [EncQ β] [Alk α] [Alk β] (h : EncQ.dp (α × β) ≤ 59) : ∀ (a c : List (α × β)), some (srtE a) = some c → ∃ r, pL c r ∧ sortD [enc a] = some r := fun a c e => by
  cases e
  refine ⟨_, rfl, ?_⟩
  have ha : alikeA (a.map enc) = true := by
    have := alikeB_enc a
    unfold alikeB at this
    rw [Bool.and_eq_true] at this
    exact this.1
  have hs : sortB (a.map enc) = true := by
    unfold sortB
    rw [Bool.or_eq_true]
    left
    rw [List.all_eq_true]
    intro x hx
    obtain ⟨p, _, rfl⟩ := List.mem_map.mp hx
    rfl
  show (if shalL (a.map enc) && alikeA (a.map enc) && sortB (a.map enc) then some (Rv.l ((a.map enc).mergeSort leD)) else none) = _
  rw [shalL_enc h, ha, hs]
  show some (Rv.l _) = _
  unfold srtE
  rw [← List.map_mergeSort (r := fun x y => leD (enc x) (enc y)) (s := leD) (f := enc) fun _ _ _ _ => rfl]
end G8
namespace G8
open PySem L2
open Enc (enc dec)
/-! defs whose meaning is shown already -/
theorem enc_oi (o : Option Int) : enc o = optI o := by cases o <;> rfl
theorem enc_ol (s : List (Option Int)) : enc s = ol s := by
  rw [enc_l]
  unfold ol
  rw [List.map_congr_left fun o _ => enc_oi o]
def P_can_be (s : List (Option Int)) : Rs Bool := .ok (canB s)
theorem c_can_be (s : List (Option Int)) : CF pD (F_can_be [.d (enc s)]) 1 (P_can_be s) := ⟨_, by rw [enc_ol]; exact can_be_eq s, rfl⟩
def P_row_of (s : List (Option Int)) : Rs (List Int) := if canB s then .ok (rowP s) else .er 4
theorem c_row_of (s : List (Option Int)) : CF pL (F_row_of [.d (enc s)]) 1 (P_row_of s) := by
  unfold P_row_of
  rw [enc_ol]
  cases h : canB s with
  | true => exact ⟨_, row_of_ok h, rfl⟩
  | false => exact row_of_bad h
def P_how_many (f a : Int) : Rs Int := if 0 ≤ a ∧ a ≤ 24 ∧ 0 ≤ f ∧ f ≤ a ∧ f ≤ 20 then .ok (stir a.toNat f.toNat : Nat) else .er 4
theorem c_how_many (f a : Int) : CF pD (F_how_many [.d (enc f), .d (enc a)]) 2 (P_how_many f a) := by
  unfold P_how_many
  by_cases h : 0 ≤ a ∧ a ≤ 24 ∧ 0 ≤ f ∧ f ≤ a ∧ f ≤ 20
  · rw [if_pos h]
    obtain ⟨n, rfl⟩ : ∃ n : Nat, a = n := ⟨a.toNat, by omega⟩
    obtain ⟨m, rfl⟩ : ∃ n : Nat, f = n := ⟨f.toNat, by omega⟩
    exact ⟨_, how_ok m n (by omega) (by omega) (by omega), rfl⟩
  · rw [if_neg h]
    exact how_bad f a h
def P__law_depth (row : List Int) (k : Int) : Rs (Option Int) := if 0 ≤ k ∧ k < row.length ∧ row.length ≤ 24 then .ok (depL row k.toNat) else .bad
theorem c__law_depth (row : List Int) (k : Int) : CF pD (F__law_depth [.d (enc row), .d (enc k)]) 2 (P__law_depth row k) := by
  unfold P__law_depth
  by_cases h : 0 ≤ k ∧ k < row.length ∧ row.length ≤ 24
  · rw [if_pos h]
    obtain ⟨n, rfl⟩ : ∃ n : Nat, k = n := ⟨k.toNat, by omega⟩
    refine ⟨_, law_depth_ok row n (by omega) h.2.2, ?_⟩
    rw [Int.toNat_natCast]
    show _ = Rv.d _
    rw [enc_oi]
  · rw [if_neg h]
    trivial
end G8
namespace G8
open PySem L2
/-! look_name -/
def P_look_name (v_name : Int) : Rs Unit :=
  run1 (bd (bd (bd (rt (0 : Int)) fun a => bd (rt v_name) fun b => if decide (a ≤ b) then bd (rt (19 : Int)) fun c => rt (decide (b ≤ c)) else rt false) fun a => rt (!a)) fun k => if k then (erT 0) else (rt ()))
theorem c_look_name (v_name : Int) : CF pD (F_look_name [.d (Enc.enc v_name)]) 1 (P_look_name v_name) := by
  refine c_body (ds := [Enc.enc v_name]) (E := (fun (t : Unit) => [some (.d (Enc.enc v_name))])) rfl ?_
  refine z_if ?_ ?_ ?_ ?_
  · exact (j_not (j_chT (op := fun a b => decide (a ≤ b)) (op' := fun a b => decide (a ≤ b)) hg_le hg_le (JE.r (j_c rfl)) (JE.r (j_v 0 fun _ => rfl)) (JE.r (j_c rfl))))
  · exact (fun _ => trivial)
  ·
    exact z_raise (fun _ => trivial)
  ·
    refine z_pass ?_
    exact z_nil (fun t => .inr ⟨rfl, by first | rfl | exact .inl rfl⟩)
/-! look_row -/
def B_look_row_1  (x1 : Int) (s2 : Unit) : T Unit (Unit) :=
  (bd (bd (rt x1) fun a => up (P_look_name a)) fun _u4 => (rt ()))
def P_look_row (v_row : (List Int)) : Rs Unit :=
  run1 (bd (bd (bd (rt v_row) fun a => rt (a.length : Int)) fun a => bd (rt (24 : Int)) fun b => lo (some (decide (b < a)))) fun k => if k then (erT 0) else (bd (rt v_row) fun xs => bd (lp (B_look_row_1) xs ()) fun (s2 : Unit) => (rt ())))
theorem c_look_row (v_row : (List Int)) : CF pD (F_look_row [.d (Enc.enc v_row)]) 1 (P_look_row v_row) := by
  refine c_body (ds := [Enc.enc v_row]) (E := (fun (t : Unit) => [some (.d (Enc.enc v_row)), none])) rfl ?_
  rw [seqM_nil]
  refine z_ifE ?_ ?_ ?_ ?_
  · exact (j_cmpT q_gt (JE.r (j_len (JE.r (j_v 0 fun _ => rfl)))) (JE.r (j_c rfl)))
  · exact (fun _ => trivial)
  ·
    exact z_raise (fun _ => trivial)
  refine z_last ?_
  refine z_for (tg := .one 1) (s0 := ()) (fun (s2 : Unit) (j3 : Jk) (t : Unit) => [some (.d (Enc.enc v_row)), j3.1]) (EB := (fun (x1 : Int) (s2 : Unit) (j3 : Jk) (t : Unit) => [some (.d (Enc.enc v_row)), some (.d (Enc.enc x1))])) ?_ ?_ jk0 ?_ ?_ ?_ ?_
  · exact (j_it (j_v 0 fun _ => rfl))
  · exact (fun _ => trivial)
  · exact (fun t => rfl)
  · exact (fun x1 s2 j3 t => put_1 j3.2 rfl)
  · intro x1 s2 j3
    unfold B_look_row_1
    refine z_expr (P := pD) ?_ ?_ ?_
    · exact (j_call1 c_look_name (j_v 1 fun _ => rfl))
    · exact (fun _ => trivial)
    intro _u4
    exact z_nil (fun t => ⟨.inl rfl, (jkd (Enc.enc x1)), rfl⟩)
  intro s2 j3
  exact z_nil (fun t => .inr ⟨rfl, by first | rfl | exact .inl rfl⟩)
/-! names -/
def B_names_1  (x6 : Int) (s7 : (List Int)) : T Unit ((List Int)) :=
  (bd (bd (rt x6) fun a => bd (rt s7) fun b => lo (some (!inL a b))) fun k => if k then (bd (bd (rt x6) fun y => lo (appT s7 y)) fun v_found9 => (rt v_found9)) else (rt s7))
def P_names (v_row : (List Int)) : Rs (List Int) :=
  run1 (bd (bd (rt v_row) fun a => up (P_look_row a)) fun _u10 => (bd (bd (rt ([] : List Int)) fun as => lo (if as.length ≤ 1000 then some as else none)) fun v_found5 => (bd (rt v_row) fun xs => bd (lp (B_names_1) xs v_found5) fun (s7 : (List Int)) => (rt s7))))
theorem c_names (v_row : (List Int)) : CF pL (F_names [.d (Enc.enc v_row)]) 1 (P_names v_row) := by
  refine c_body (ds := [Enc.enc v_row]) (E := (fun (t : Unit) => [some (.d (Enc.enc v_row)), none, none])) rfl ?_
  rw [seqM_nil]
  refine z_expr (P := pD) ?_ ?_ ?_
  · exact (j_call1 c_look_row (j_v 0 fun _ => rfl))
  · exact (fun _ => trivial)
  intro _u10
  refine z_setL 1 (E' := (fun (v_found5 : (List Int)) (t : Unit) => [some (.d (Enc.enc v_row)), some (.ls false (v_found5.map Enc.enc)), none])) ?_ ?_ ?_ ?_ ?_
  · exact (j_lst j_nil)
  · exact (fun _ => trivial)
  · exact (fun _ => rfl)
  · exact (fun _ _ => rfl)
  intro v_found5
  refine z_for (tg := .one 2) (s0 := v_found5) (fun (s7 : (List Int)) (j8 : Jk) (t : Unit) => [some (.d (Enc.enc v_row)), some (.ls false (s7.map Enc.enc)), j8.1]) (EB := (fun (x6 : Int) (s7 : (List Int)) (j8 : Jk) (t : Unit) => [some (.d (Enc.enc v_row)), some (.ls false (s7.map Enc.enc)), some (.d (Enc.enc x6))])) ?_ ?_ jk0 ?_ ?_ ?_ ?_
  · exact (j_it (j_v 0 fun _ => rfl))
  · exact (fun _ => trivial)
  · exact (fun t => rfl)
  · exact (fun x6 s7 j8 t => put_1 j8.2 rfl)
  · intro x6 s7 j8
    unfold B_names_1
    refine z_if ?_ ?_ ?_ ?_
    · exact (j_cmpT (q_nin (by decide)) (JE.r (j_v 2 fun _ => rfl)) (j_vl 1 fun _ => rfl))
    · exact (fun _ => trivial)
    ·
      refine z_exprU (E' := (fun (v_found9 : (List Int)) (t : Unit) => [some (.d (Enc.enc v_row)), some (.ls false (v_found9.map Enc.enc)), some (.d (Enc.enc x6))])) ?_ ?_ ?_
      · exact (m_U 1 (b := false) (xs := s7) (E' := (fun (v_found9 : (List Int)) (t : Unit) => [some (.d (Enc.enc v_row)), some (.ls false (v_found9.map Enc.enc)), some (.d (Enc.enc x6))])) k_appT (fun _ => rfl) (a_1 (j_v 2 fun _ => rfl)) (fun _ _ => rfl))
      · exact (fun _ => trivial)
      intro v_found9
      exact z_nil (fun t => ⟨.inl rfl, (jkd (Enc.enc x6)), rfl⟩)
    ·
      refine z_pass ?_
      exact z_nil (fun t => ⟨.inl rfl, (jkd (Enc.enc x6)), rfl⟩)
  intro s7 j8
  refine z_last ?_
  refine z_retO 1 (v := .l (s7.map Enc.enc)) ?_ ?_
  · exact (fun _ => rfl)
  · exact (fun t => .inl ⟨_, rfl, (by first | rfl | exact .inl rfl | exact .inr ⟨_, rfl, rfl⟩)⟩)
/-! later -/
def B_later_1 (v_row : (List Int)) (v_k : Int) (x11 : Int) (s12 : Unit) : T Unit (Lx (Unit) (Option Int)) :=
  (bd (bd (bd (rt v_row) fun a => bd (rt x11) fun b => lo (atI a b)) fun a => bd (bd (rt v_row) fun a => bd (rt v_k) fun b => lo (atI a b)) fun b => lo (some (eqT a b))) fun k => if k then (rt (Lx.out (some x11))) else (rt (Lx.nx ())))
def P_later (v_row : (List Int)) (v_k : Int) : Rs (Option Int) :=
  run1 (bd (bd (bd (rt v_k) fun a => bd (rt (1 : Int)) fun b => lo (some (a + b))) fun i => bd (bd (rt v_row) fun a => rt (a.length : Int)) fun j => lo (if mid i && mid j then some (rng i j) else none)) fun xs => bd (lpx (B_later_1 v_row v_k) xs ()) (orK fun (s12 : Unit) => (bd (bd (rt ()) fun _ => rt (none : (Option Int))) fun a => rt a)))
theorem c_later (v_row : (List Int)) (v_k : Int) : CF pD (F_later [.d (Enc.enc v_row), .d (Enc.enc v_k)]) 2 (P_later v_row v_k) := by
  refine c_body (ds := [Enc.enc v_row, Enc.enc v_k]) (E := (fun (t : Unit) => [some (.d (Enc.enc v_row)), some (.d (Enc.enc v_k)), none])) rfl ?_
  rw [seqM_nil]
  refine z_forX (tg := .one 2) (s0 := ()) (fun (s12 : Unit) (j13 : Jk) (t : Unit) => [some (.d (Enc.enc v_row)), some (.d (Enc.enc v_k)), j13.1]) (EB := (fun (x11 : Int) (s12 : Unit) (j13 : Jk) (t : Unit) => [some (.d (Enc.enc v_row)), some (.d (Enc.enc v_k)), some (.d (Enc.enc x11))])) ?_ ?_ jk0 ?_ ?_ ?_ ?_
  · exact (j_rg2 (j_frzD (j_bin q_addI (JE.r (j_v 1 fun _ => rfl)) (JE.r (j_c rfl)))) (j_len (JE.r (j_v 0 fun _ => rfl))))
  · exact (fun _ => trivial)
  · exact (fun t => rfl)
  · exact (fun x11 s12 j13 t => put_1 j13.2 rfl)
  · intro x11 s12 j13
    unfold B_later_1
    refine z_if ?_ ?_ ?_ ?_
    · exact (j_cmpT (q_eq (by decide)) (JE.r (j_frzD (j_bin q_ixL (JE.r (j_v 0 fun _ => rfl)) (JE.r (j_v 2 fun _ => rfl))))) (JE.r (j_frzD (j_bin q_ixL (JE.r (j_v 0 fun _ => rfl)) (JE.r (j_v 1 fun _ => rfl))))))
    · exact (fun _ => trivial)
    ·
      refine z_retO 2 (v := .d (Enc.enc x11)) ?_ ?_
      · exact (fun _ => rfl)
      · exact (fun t => ⟨⟨_, rfl⟩, .inl ⟨_, rfl, (by first | rfl | exact .inl rfl | exact .inr ⟨_, rfl, rfl⟩)⟩⟩)
    ·
      refine z_pass ?_
      exact z_nil (fun t => ⟨.inl rfl, (jkd (Enc.enc x11)), rfl⟩)
  intro s12 j13
  refine z_last ?_
  refine z_ret (P := pD) (o := fun a => a) ?_ ?_ ?_
  · exact (jd_noneO (α := Int) (j_data (j_c rfl)))
  · exact (fun _ => trivial)
  · exact (fun a v t p => .inl ⟨_, rfl, p⟩)
/-! holds -/
def P_holds (v_row : (List Int)) : Rs (List (Int × Int)) :=
  run1 (bd (bd (rt v_row) fun a => up (P_look_row a)) fun _u17 => (bd (bd (bd (bd (rt v_row) fun a => rt (a.length : Int)) fun j => lo (if mid j then some (rng 0 j) else none)) fun xs => cmpG xs fun (x14 : Int) => bd (rt true) fun b => if b then bd (bd (rt x14) fun a => bd (bd (rt v_row) fun a => (bd (rt x14) fun b => up (P_later a b))) fun b => rt (a, b)) fun y => rt (some y) else rt none) fun v_some15 => (bd (bd (rt v_some15) fun xs => cmpG xs fun (x16 : (Int × (Option Int))) => bd (bd (bd (rt x16) fun p => rt p.2) fun a => rt (!isNoneT a)) fun b => if b then bd (bd (rt x16) fun p => lo (p.2.map fun b => (p.1, b))) fun y => rt (some y) else rt none) fun a => rt a)))
theorem c_holds (v_row : (List Int)) : CF pL (F_holds [.d (Enc.enc v_row)]) 1 (P_holds v_row) := by
  refine c_body (ds := [Enc.enc v_row]) (E := (fun (t : Unit) => [some (.d (Enc.enc v_row)), none, none, none])) rfl ?_
  rw [seqM_nil]
  refine z_expr (P := pD) ?_ ?_ ?_
  · exact (j_call1 c_look_row (j_v 0 fun _ => rfl))
  · exact (fun _ => trivial)
  intro _u17
  refine z_setL 1 (E' := (fun (v_some15 : (List (Int × (Option Int)))) (t : Unit) => [some (.d (Enc.enc v_row)), some (.ls false (v_some15.map Enc.enc)), none, none])) ?_ ?_ ?_ ?_ ?_
  · exact (j_lc (Ei := fun (x14 : Int) => (fun (t : Unit) => [some (.d (Enc.enc v_row)), none, some (.d (Enc.enc x14)), none])) (j_rg1 (j_len (JE.r (j_v 0 fun _ => rfl)))) (fun t => any_1 rfl) (fun _ _ => rfl) (fun _ _ _ => rfl) (fun x14 => (J.ret rfl)) (fun x14 => (j_tup2 (j_v 2 fun _ => rfl) (j_frzD (j_call2 c_later (j_v 0 fun _ => rfl) (j_v 2 fun _ => rfl))))))
  · exact (fun _ => trivial)
  · exact (fun _ => rfl)
  · exact (fun _ _ => rfl)
  intro v_some15
  refine z_last ?_
  refine z_share 1 (E' := (fun (t : Unit) => [some (.d (Enc.enc v_row)), some (.d (Enc.enc v_some15)), none, none])) ?_ ?_
  · exact (fun _ => rfl)
  refine z_ret (P := pL) (o := fun a => a) ?_ ?_ ?_
  · exact (j_lc (Ei := fun (x16 : (Int × (Option Int))) => (fun (t : Unit) => [some (.d (Enc.enc v_row)), some (.d (Enc.enc v_some15)), none, some (.d (Enc.enc x16))])) (j_it (j_v 1 fun _ => rfl)) (fun t => any_1 rfl) (fun _ _ => rfl) (fun _ _ _ => rfl) (fun x16 => (j_ntNT (JE.r (j_frzD (j_snd (JE.r (j_v 3 fun _ => rfl))))))) (fun x16 => (j_p2 (j_v 3 fun _ => rfl))))
  · exact (fun _ => trivial)
  · exact (fun a v t p => .inl ⟨_, rfl, p⟩)
/-! renamed -/
def P_renamed (v_row : (List Int)) : Rs (List Int) :=
  run1 (bd (bd (rt v_row) fun a => up (P_names a)) fun v_order18 => (bd (bd (rt v_row) fun xs => cmpG xs fun (x19 : Int) => bd (rt true) fun b => if b then bd (bd (rt v_order18) fun a => bd (rt x19) fun b => lo (idxT a b)) fun y => rt (some y) else rt none) fun a => rt a))
theorem c_renamed (v_row : (List Int)) : CF pL (F_renamed [.d (Enc.enc v_row)]) 1 (P_renamed v_row) := by
  refine c_body (ds := [Enc.enc v_row]) (E := (fun (t : Unit) => [some (.d (Enc.enc v_row)), none, none])) rfl ?_
  rw [seqM_nil]
  refine z_setL 1 (E' := (fun (v_order18 : (List Int)) (t : Unit) => [some (.d (Enc.enc v_row)), some (.ls false (v_order18.map Enc.enc)), none])) ?_ ?_ ?_ ?_ ?_
  · exact (j_call1 c_names (j_v 0 fun _ => rfl))
  · exact (fun _ => trivial)
  · exact (fun _ => rfl)
  · exact (fun _ _ => rfl)
  intro v_order18
  refine z_last ?_
  refine z_ret (P := pL) (o := fun a => a) ?_ ?_ ?_
  · exact (j_lc (Ei := fun (x19 : Int) => (fun (t : Unit) => [some (.d (Enc.enc v_row)), some (.ls false (v_order18.map Enc.enc)), some (.d (Enc.enc x19))])) (j_it (j_v 0 fun _ => rfl)) (fun t => any_1 rfl) (fun _ _ => rfl) (fun _ _ _ => rfl) (fun x19 => (J.ret rfl)) (fun x19 => (j_look (q_index (by decide)) (j_vl 1 fun _ => rfl) (JE.r (j_v 2 fun _ => rfl)))))
  · exact (fun _ => trivial)
  · exact (fun a v t p => .inl ⟨_, rfl, p⟩)
/-! are_alike -/
def P_are_alike (v_one : (List Int)) (v_other : (List Int)) : Rs Bool :=
  run1 (bd (bd (bd (rt v_one) fun a => up (P_renamed a)) fun a => bd (bd (rt v_other) fun a => up (P_renamed a)) fun b => lo (some (eqT a b))) fun a => rt a)
theorem c_are_alike (v_one : (List Int)) (v_other : (List Int)) : CF pD (F_are_alike [.d (Enc.enc v_one), .d (Enc.enc v_other)]) 2 (P_are_alike v_one v_other) := by
  refine c_body (ds := [Enc.enc v_one, Enc.enc v_other]) (E := (fun (t : Unit) => [some (.d (Enc.enc v_one)), some (.d (Enc.enc v_other))])) rfl ?_
  refine z_ret (P := pD) (o := fun a => a) ?_ ?_ ?_
  · exact (j_data (j_cmp (q_eq (by decide)) (JE.r (j_frzL (j_call1 c_renamed (j_v 0 fun _ => rfl)))) (JE.r (j_frzL (j_call1 c_renamed (j_v 1 fun _ => rfl))))))
  · exact (fun _ => trivial)
  · exact (fun a v t p => .inl ⟨_, rfl, p⟩)
/-! squeezed -/
def P_squeezed (v_row : (List Int)) : Rs (List Int) :=
  run1 (bd (bd (rt v_row) fun a => up (P_look_row a)) fun _u21 => (bd (bd (bd (bd (rt v_row) fun a => rt (a.length : Int)) fun j => lo (if mid j then some (rng 0 j) else none)) fun xs => cmpG xs fun (x20 : Int) => bd (bd (bd (rt x20) fun a => bd (rt (0 : Int)) fun b => lo (some (eqT a b))) fun a => if a then rt true else (bd (bd (rt v_row) fun a => bd (rt x20) fun b => lo (atI a b)) fun a => bd (bd (rt v_row) fun a => bd (bd (rt x20) fun a => bd (rt (1 : Int)) fun b => lo (some (a - b))) fun b => lo (atI a b)) fun b => lo (some (!eqT a b)))) fun b => if b then bd (bd (rt v_row) fun a => bd (rt x20) fun b => lo (atI a b)) fun y => rt (some y) else rt none) fun a => rt a))
theorem c_squeezed (v_row : (List Int)) : CF pL (F_squeezed [.d (Enc.enc v_row)]) 1 (P_squeezed v_row) := by
  refine c_body (ds := [Enc.enc v_row]) (E := (fun (t : Unit) => [some (.d (Enc.enc v_row)), none])) rfl ?_
  rw [seqM_nil]
  refine z_expr (P := pD) ?_ ?_ ?_
  · exact (j_call1 c_look_row (j_v 0 fun _ => rfl))
  · exact (fun _ => trivial)
  intro _u21
  refine z_last ?_
  refine z_ret (P := pL) (o := fun a => a) ?_ ?_ ?_
  · exact (j_lc (Ei := fun (x20 : Int) => (fun (t : Unit) => [some (.d (Enc.enc v_row)), some (.d (Enc.enc x20))])) (j_rg1 (j_len (JE.r (j_v 0 fun _ => rfl)))) (fun t => any_1 rfl) (fun _ _ => rfl) (fun _ _ _ => rfl) (fun x20 => (j_or (j_cmpT (q_eq (by decide)) (JE.r (j_v 1 fun _ => rfl)) (JE.r (j_c rfl))) (j_cmpT (q_ne (by decide)) (JE.r (j_frzD (j_bin q_ixL (JE.r (j_v 0 fun _ => rfl)) (JE.r (j_v 1 fun _ => rfl))))) (JE.r (j_frzD (j_bin q_ixL (JE.r (j_v 0 fun _ => rfl)) (JE.r (j_frzD (j_bin q_subI (JE.r (j_v 1 fun _ => rfl)) (JE.r (j_c rfl))))))))))) (fun x20 => (j_frzD (j_bin q_ixL (JE.r (j_v 0 fun _ => rfl)) (JE.r (j_v 1 fun _ => rfl))))))
  · exact (fun _ => trivial)
  · exact (fun a v t p => .inl ⟨_, rfl, p⟩)
/-! apart -/
def P_apart (v_row : (List Int)) : Rs (List Int) :=
  run1 (bd (bd (rt v_row) fun a => up (P_look_row a)) fun _u24 => (bd (bd (bd (bd (rt v_row) fun xs => cmpG xs fun (x22 : Int) => bd (rt true) fun b => if b then bd (bd (rt x22) fun a => bd (rt (10 : Int)) fun b => lo (some (decide (a < b)))) fun y => rt (some y) else rt none) fun a => lo (some (a.all id))) fun a => rt (!a)) fun k => if k then (erT 0) else (bd (bd (rt v_row) fun xs => cmpG xs fun (x23 : Int) => bd (rt true) fun b => if b then bd (bd (rt x23) fun a => bd (rt (10 : Int)) fun b => lo (some (a + b))) fun y => rt (some y) else rt none) fun a => rt a)))
theorem c_apart (v_row : (List Int)) : CF pL (F_apart [.d (Enc.enc v_row)]) 1 (P_apart v_row) := by
  refine c_body (ds := [Enc.enc v_row]) (E := (fun (t : Unit) => [some (.d (Enc.enc v_row)), none])) rfl ?_
  rw [seqM_nil]
  refine z_expr (P := pD) ?_ ?_ ?_
  · exact (j_call1 c_look_row (j_v 0 fun _ => rfl))
  · exact (fun _ => trivial)
  intro _u24
  refine z_ifE ?_ ?_ ?_ ?_
  · exact (j_not (j_testB (JE.r (j_frzD (j_bi1 q_all (JE.r (j_frzL (j_lc (Ei := fun (x22 : Int) => (fun (t : Unit) => [some (.d (Enc.enc v_row)), some (.d (Enc.enc x22))])) (j_it (j_v 0 fun _ => rfl)) (fun t => any_1 rfl) (fun _ _ => rfl) (fun _ _ _ => rfl) (fun x22 => (J.ret rfl)) (fun x22 => (j_cmp q_lt (JE.r (j_v 1 fun _ => rfl)) (JE.r (j_c rfl))))))))))))
  · exact (fun _ => trivial)
  ·
    exact z_raise (fun _ => trivial)
  refine z_last ?_
  refine z_ret (P := pL) (o := fun a => a) ?_ ?_ ?_
  · exact (j_lc (Ei := fun (x23 : Int) => (fun (t : Unit) => [some (.d (Enc.enc v_row)), some (.d (Enc.enc x23))])) (j_it (j_v 0 fun _ => rfl)) (fun t => any_1 rfl) (fun _ _ => rfl) (fun _ _ _ => rfl) (fun x23 => (J.ret rfl)) (fun x23 => (j_frzD (j_bin q_addI (JE.r (j_v 1 fun _ => rfl)) (JE.r (j_c rfl))))))
  · exact (fun _ => trivial)
  · exact (fun a v t p => .inl ⟨_, rfl, p⟩)
/-! _law_row -/
def B__law_row_1 (ns : List Int) (v_many25 : Int) (x27 : Int) (s28 : (List Int)) : T Nat ((List Int)) :=
  (bd (bd (rt v_many25) (drawT ns)) fun v_name30 => (bd (bd (bd (bd (rt s28) fun a => bd (bd (rt ([] : List Int)) fun as => lo (if as.length ≤ 1000 then some as else none)) fun b => lo (some (!eqT a b))) fun a => if a then (bd (bd (rt (4 : Int)) (drawT ns)) fun a => bd (rt (0 : Int)) fun b => lo (some (eqT a b))) else rt false) fun k => if k then (bd (bd (rt s28) fun a => bd (bd (bd (rt s28) fun a => rt (a.length : Int)) (drawT ns)) fun b => lo (atI a b)) fun v_name33 => (rt v_name33)) else (rt v_name30)) fun (s31 : Int) => (bd (bd (rt s31) fun y => lo (appT s28 y)) fun v_found34 => (rt v_found34))))
def P__law_row (ns : List Int) (v_most : Int) (v_kinds : Int) : T Nat (List Int) :=
  noEr (bd (bd (rt (1 : Int)) fun a => bd (bd (rt v_kinds) (drawT ns)) fun b => lo (some (a + b))) fun v_many25 => (bd (bd (rt ([] : List Int)) fun as => lo (if as.length ≤ 1000 then some as else none)) fun v_found26 => (bd (bd (bd (bd (rt v_most) fun a => bd (rt (1 : Int)) fun b => lo (some (a + b))) (drawT ns)) fun j => lo (if mid j then some (rng 0 j) else none)) fun xs => bd (lp (B__law_row_1 ns v_many25) xs v_found26) fun (s28 : (List Int)) => (rt s28))))
theorem c__law_row (ns : List Int) (v_most : Int) (v_kinds : Int) : CD pL F__law_row ns [Enc.enc v_most, Enc.enc v_kinds] (P__law_row ns v_most v_kinds) := by
  refine c_draw (E := (fun (t : Nat) => [some (.scr ns), some (.ls true (zr t)), some (.d (Enc.enc v_most)), some (.d (Enc.enc v_kinds)), none, none, none, none])) (fun _ => rfl) ?_
  rw [seqM_nil]
  refine z_setD 4 (E' := (fun (v_many25 : Int) (t : Nat) => [some (.scr ns), some (.ls true (zr t)), some (.d (Enc.enc v_most)), some (.d (Enc.enc v_kinds)), some (.d (Enc.enc v_many25)), none, none, none])) ?_ ?_ ?_ ?_ ?_
  · exact (j_bin q_addI (JE.r (j_c rfl)) (JE.r (j_frzD (j_draw1 ⟨fun _ => rfl, fun _ => rfl, fun _ _ => rfl⟩ (c__law_draw ns) (j_v 3 fun _ => rfl)))))
  · exact (fun _ => trivial)
  · exact (fun _ => rfl)
  · exact (fun _ _ => rfl)
  intro v_many25
  refine z_setL 5 (E' := (fun (v_found26 : (List Int)) (t : Nat) => [some (.scr ns), some (.ls true (zr t)), some (.d (Enc.enc v_most)), some (.d (Enc.enc v_kinds)), some (.d (Enc.enc v_many25)), some (.ls false (v_found26.map Enc.enc)), none, none])) ?_ ?_ ?_ ?_ ?_
  · exact (j_lst j_nil)
  · exact (fun _ => trivial)
  · exact (fun _ => rfl)
  · exact (fun _ _ => rfl)
  intro v_found26
  refine z_for (tg := .one 6) (s0 := v_found26) (fun (s28 : (List Int)) (j29 : Jk × Jk) (t : Nat) => [some (.scr ns), some (.ls true (zr t)), some (.d (Enc.enc v_most)), some (.d (Enc.enc v_kinds)), some (.d (Enc.enc v_many25)), some (.ls false (s28.map Enc.enc)), j29.1.1, j29.2.1]) (EB := (fun (x27 : Int) (s28 : (List Int)) (j29 : Jk × Jk) (t : Nat) => [some (.scr ns), some (.ls true (zr t)), some (.d (Enc.enc v_most)), some (.d (Enc.enc v_kinds)), some (.d (Enc.enc v_many25)), some (.ls false (s28.map Enc.enc)), some (.d (Enc.enc x27)), j29.2.1])) ?_ ?_ (jk0, jk0) ?_ ?_ ?_ ?_
  · exact (j_rg1 (j_frzD (j_draw1 ⟨fun _ => rfl, fun _ => rfl, fun _ _ => rfl⟩ (c__law_draw ns) (j_frzD (j_bin q_addI (JE.r (j_v 2 fun _ => rfl)) (JE.r (j_c rfl)))))))
  · exact (fun _ => trivial)
  · exact (fun t => rfl)
  · exact (fun x27 s28 j29 t => put_1 j29.1.2 rfl)
  · intro x27 s28 j29
    unfold B__law_row_1
    rw [seqM_nil]
    refine z_setD 7 (E' := (fun (v_name30 : Int) (t : Nat) => [some (.scr ns), some (.ls true (zr t)), some (.d (Enc.enc v_most)), some (.d (Enc.enc v_kinds)), some (.d (Enc.enc v_many25)), some (.ls false (s28.map Enc.enc)), some (.d (Enc.enc x27)), some (.d (Enc.enc v_name30))])) ?_ ?_ ?_ ?_ ?_
    · exact (j_draw1 ⟨fun _ => rfl, fun _ => rfl, fun _ _ => rfl⟩ (c__law_draw ns) (j_v 4 fun _ => rfl))
    · exact (fun _ => trivial)
    · exact (fun _ => ref_of_own j29.2.2)
    · exact (fun _ _ => rfl)
    intro v_name30
    refine z_ifN (E' := (fun (s31 : Int) (j32 : Unit) (t : Nat) => [some (.scr ns), some (.ls true (zr t)), some (.d (Enc.enc v_most)), some (.d (Enc.enc v_kinds)), some (.d (Enc.enc v_many25)), some (.ls false (s28.map Enc.enc)), some (.d (Enc.enc x27)), some (.d (Enc.enc s31))])) ?_ ?_ ?_ ?_ ?_
    · exact (j_and (j_cmpT (q_ne (by decide)) (j_vl 5 fun _ => rfl) (JE.r (j_frzL (j_lst j_nil)))) (j_cmpT (q_eq (by decide)) (JE.r (j_frzD (j_draw1 ⟨fun _ => rfl, fun _ => rfl, fun _ _ => rfl⟩ (c__law_draw ns) (j_c rfl)))) (JE.r (j_c rfl))))
    · exact (fun _ => trivial)
    ·
      refine z_setD 7 (E' := (fun (v_name33 : Int) (t : Nat) => [some (.scr ns), some (.ls true (zr t)), some (.d (Enc.enc v_most)), some (.d (Enc.enc v_kinds)), some (.d (Enc.enc v_many25)), some (.ls false (s28.map Enc.enc)), some (.d (Enc.enc x27)), some (.d (Enc.enc v_name33))])) ?_ ?_ ?_ ?_ ?_
      · exact (j_bin q_ixL (j_vl 5 fun _ => rfl) (JE.r (j_frzD (j_draw1 ⟨fun _ => rfl, fun _ => rfl, fun _ _ => rfl⟩ (c__law_draw ns) (j_len (j_vl 5 fun _ => rfl))))))
      · exact (fun _ => trivial)
      · exact (fun _ => rfl)
      · exact (fun _ _ => rfl)
      intro v_name33
      exact z_nil (fun t => ⟨rfl, (), rfl⟩)
    ·
      refine z_pass ?_
      exact z_nil (fun t => ⟨rfl, (), rfl⟩)
    intro s31 j32
    refine z_last ?_
    refine z_exprU (E' := (fun (v_found34 : (List Int)) (t : Nat) => [some (.scr ns), some (.ls true (zr t)), some (.d (Enc.enc v_most)), some (.d (Enc.enc v_kinds)), some (.d (Enc.enc v_many25)), some (.ls false (v_found34.map Enc.enc)), some (.d (Enc.enc x27)), some (.d (Enc.enc s31))])) ?_ ?_ ?_
    · exact (m_U 5 (b := false) (xs := s28) (E' := (fun (v_found34 : (List Int)) (t : Nat) => [some (.scr ns), some (.ls true (zr t)), some (.d (Enc.enc v_most)), some (.d (Enc.enc v_kinds)), some (.d (Enc.enc v_many25)), some (.ls false (v_found34.map Enc.enc)), some (.d (Enc.enc x27)), some (.d (Enc.enc s31))])) k_appT (fun _ => rfl) (a_1 (j_v 7 fun _ => rfl)) (fun _ _ => rfl))
    · exact (fun _ => trivial)
    intro v_found34
    exact z_nil (fun t => ⟨.inl rfl, ((jkd (Enc.enc x27)), (jkd (Enc.enc s31))), rfl⟩)
  intro s28 j29
  refine z_last ?_
  refine z_retO 5 (v := .l (s28.map Enc.enc)) ?_ ?_
  · exact (fun _ => rfl)
  · exact (fun t => ⟨.inl ⟨_, rfl, (by first | rfl | exact .inl rfl | exact .inr ⟨_, rfl, rfl⟩)⟩, rfl⟩)
/-! look_room -/
def P_look_room (v_room : Int) : Rs Unit :=
  run1 (bd (bd (bd (rt (0 : Int)) fun a => bd (rt v_room) fun b => if decide (a ≤ b) then bd (rt (12 : Int)) fun c => rt (decide (b ≤ c)) else rt false) fun a => rt (!a)) fun k => if k then (erT 1) else (rt ()))
theorem c_look_room (v_room : Int) : CF pD (F_look_room [.d (Enc.enc v_room)]) 1 (P_look_room v_room) := by
  refine c_body (ds := [Enc.enc v_room]) (E := (fun (t : Unit) => [some (.d (Enc.enc v_room))])) rfl ?_
  refine z_if ?_ ?_ ?_ ?_
  · exact (j_not (j_chT (op := fun a b => decide (a ≤ b)) (op' := fun a b => decide (a ≤ b)) hg_le hg_le (JE.r (j_c rfl)) (JE.r (j_v 0 fun _ => rfl)) (JE.r (j_c rfl))))
  · exact (fun _ => trivial)
  ·
    exact z_raise (fun _ => trivial)
  ·
    refine z_pass ?_
    exact z_nil (fun t => .inr ⟨rfl, by first | rfl | exact .inl rfl⟩)
/-! look_rule -/
def P_look_rule (v_rule : Str) : Rs Unit :=
  run1 (bd (bd (rt v_rule) fun a => bd (rt (Tu.mk l_RULES)) fun b => lo (some (!inL a b.l))) fun k => if k then (erT 2) else (rt ()))
theorem c_look_rule (v_rule : Str) : CF pD (F_look_rule [.d (Enc.enc v_rule)]) 1 (P_look_rule v_rule) := by
  refine c_body (ds := [Enc.enc v_rule]) (E := (fun (t : Unit) => [some (.d (Enc.enc v_rule))])) rfl ?_
  refine z_if ?_ ?_ ?_ ?_
  · exact (j_cmpT (q_ninU (by decide)) (JE.r (j_v 0 fun _ => rfl)) (JE.r (j_c rfl)))
  · exact (fun _ => trivial)
  ·
    exact z_raise (fun _ => trivial)
  ·
    refine z_pass ?_
    exact z_nil (fun t => .inr ⟨rfl, by first | rfl | exact .inl rfl⟩)
/-! next_of -/
def B_next_of_1 (v_row : (List Int)) (v_name : Int) (x1 : Int) (s2 : Unit) : T Unit (Lx (Unit) Int) :=
  (bd (bd (bd (rt v_row) fun a => bd (rt x1) fun b => lo (atI a b)) fun a => bd (rt v_name) fun b => lo (some (eqT a b))) fun k => if k then (rt (Lx.out x1)) else (rt (Lx.nx ())))
def P_next_of (v_row : (List Int)) (v_k : Int) (v_name : Int) : Rs Int :=
  run1 (bd (bd (rt v_k) fun i => bd (bd (rt v_row) fun a => rt (a.length : Int)) fun j => lo (if mid i && mid j then some (rng i j) else none)) fun xs => bd (lpx (B_next_of_1 v_row v_name) xs ()) (orK fun (s2 : Unit) => (bd (bd (rt v_row) fun a => rt (a.length : Int)) fun a => rt a)))
theorem c_next_of (v_row : (List Int)) (v_k : Int) (v_name : Int) : CF pD (F_next_of [.d (Enc.enc v_row), .d (Enc.enc v_k), .d (Enc.enc v_name)]) 3 (P_next_of v_row v_k v_name) := by
  refine c_body (ds := [Enc.enc v_row, Enc.enc v_k, Enc.enc v_name]) (E := (fun (t : Unit) => [some (.d (Enc.enc v_row)), some (.d (Enc.enc v_k)), some (.d (Enc.enc v_name)), none])) rfl ?_
  rw [seqM_nil]
  refine z_forX (tg := .one 3) (s0 := ()) (fun (s2 : Unit) (j3 : Jk) (t : Unit) => [some (.d (Enc.enc v_row)), some (.d (Enc.enc v_k)), some (.d (Enc.enc v_name)), j3.1]) (EB := (fun (x1 : Int) (s2 : Unit) (j3 : Jk) (t : Unit) => [some (.d (Enc.enc v_row)), some (.d (Enc.enc v_k)), some (.d (Enc.enc v_name)), some (.d (Enc.enc x1))])) ?_ ?_ jk0 ?_ ?_ ?_ ?_
  · exact (j_rg2 (j_v 1 fun _ => rfl) (j_len (JE.r (j_v 0 fun _ => rfl))))
  · exact (fun _ => trivial)
  · exact (fun t => rfl)
  · exact (fun x1 s2 j3 t => put_1 j3.2 rfl)
  · intro x1 s2 j3
    unfold B_next_of_1
    refine z_if ?_ ?_ ?_ ?_
    · exact (j_cmpT (q_eq (by decide)) (JE.r (j_frzD (j_bin q_ixL (JE.r (j_v 0 fun _ => rfl)) (JE.r (j_v 3 fun _ => rfl))))) (JE.r (j_v 2 fun _ => rfl)))
    · exact (fun _ => trivial)
    ·
      refine z_retO 3 (v := .d (Enc.enc x1)) ?_ ?_
      · exact (fun _ => rfl)
      · exact (fun t => ⟨⟨_, rfl⟩, .inl ⟨_, rfl, (by first | rfl | exact .inl rfl | exact .inr ⟨_, rfl, rfl⟩)⟩⟩)
    ·
      refine z_pass ?_
      exact z_nil (fun t => ⟨.inl rfl, (jkd (Enc.enc x1)), rfl⟩)
  intro s2 j3
  refine z_last ?_
  refine z_ret (P := pD) (o := fun a => a) ?_ ?_ ?_
  · exact (j_data (j_len (JE.r (j_v 0 fun _ => rfl))))
  · exact (fun _ => trivial)
  · exact (fun a v t p => .inl ⟨_, rfl, p⟩)
/-! last_of -/
def P_last_of (v_row : (List Int)) (v_k : Int) (v_name : Int) : Rs Int :=
  run1 (bd (bd (bd (bd (rt v_k) fun j => lo (if mid j then some (rng 0 j) else none)) fun xs => cmpG xs fun (x4 : Int) => bd (bd (bd (rt v_row) fun a => bd (rt x4) fun b => lo (atI a b)) fun a => bd (rt v_name) fun b => lo (some (eqT a b))) fun b => if b then bd (rt x4) fun y => rt (some y) else rt none) fun a => lo (maxL a)) fun a => rt a)
theorem c_last_of (v_row : (List Int)) (v_k : Int) (v_name : Int) : CF pD (F_last_of [.d (Enc.enc v_row), .d (Enc.enc v_k), .d (Enc.enc v_name)]) 3 (P_last_of v_row v_k v_name) := by
  refine c_body (ds := [Enc.enc v_row, Enc.enc v_k, Enc.enc v_name]) (E := (fun (t : Unit) => [some (.d (Enc.enc v_row)), some (.d (Enc.enc v_k)), some (.d (Enc.enc v_name)), none])) rfl ?_
  refine z_ret (P := pD) (o := fun a => a) ?_ ?_ ?_
  · exact (j_bi1 q_maxL (JE.r (j_frzL (j_lc (Ei := fun (x4 : Int) => (fun (t : Unit) => [some (.d (Enc.enc v_row)), some (.d (Enc.enc v_k)), some (.d (Enc.enc v_name)), some (.d (Enc.enc x4))])) (j_rg1 (j_v 1 fun _ => rfl)) (fun t => any_1 rfl) (fun _ _ => rfl) (fun _ _ _ => rfl) (fun x4 => (j_cmpT (q_eq (by decide)) (JE.r (j_frzD (j_bin q_ixL (JE.r (j_v 0 fun _ => rfl)) (JE.r (j_v 3 fun _ => rfl))))) (JE.r (j_v 2 fun _ => rfl)))) (fun x4 => (j_v 3 fun _ => rfl))))))
  · exact (fun _ => trivial)
  · exact (fun a v t p => .inl ⟨_, rfl, p⟩)
/-! worth -/
def P_worth (v_rule : Str) (v_row : (List Int)) (v_k : Int) (v_name : Int) (v_came : (List (Int × Int))) : Rs (Int × Int) :=
  run1 (bd (bd (rt v_rule) fun a => bd (rt ("last" : Str)) fun b => lo (some (eqT a b))) fun k => if k then (bd (bd (bd (rt v_row) fun a => (bd (rt v_k) fun b => (bd (rt v_name) fun c => up (P_last_of a b c)))) fun a => bd (rt (0 : Int)) fun b => rt (a, b)) fun a => rt a) else (bd (bd (rt v_rule) fun a => bd (rt ("first" : Str)) fun b => lo (some (eqT a b))) fun k => if k then (bd (bd (bd (rt (0 : Int)) fun a => bd (bd (rt v_row) fun a => (bd (rt v_k) fun b => (bd (rt v_name) fun c => up (P_last_of a b c)))) fun b => lo (some (a - b))) fun a => bd (rt (0 : Int)) fun b => rt (a, b)) fun a => rt a) else (bd (bd (rt v_rule) fun a => bd (rt ("old" : Str)) fun b => lo (some (eqT a b))) fun k => if k then (bd (bd (bd (rt v_name) fun k => lo (dGet v_came k)) fun a => bd (rt (0 : Int)) fun b => rt (a, b)) fun a => rt a) else (bd (bd (rt v_rule) fun a => bd (rt ("young" : Str)) fun b => lo (some (eqT a b))) fun k => if k then (bd (bd (bd (rt (0 : Int)) fun a => bd (bd (rt v_name) fun k => lo (dGet v_came k)) fun b => lo (some (a - b))) fun a => bd (rt (0 : Int)) fun b => rt (a, b)) fun a => rt a) else (bd (bd (rt v_rule) fun a => bd (rt ("far" : Str)) fun b => lo (some (eqT a b))) fun k => if k then (bd (bd (bd (rt (0 : Int)) fun a => bd (bd (rt v_row) fun a => (bd (rt v_k) fun b => (bd (rt v_name) fun c => up (P_next_of a b c)))) fun b => lo (some (a - b))) fun a => bd (rt v_name) fun b => rt (a, b)) fun a => rt a) else (bd (bd (bd (bd (rt v_row) fun a => bd (rt none) fun i => bd (bd (rt v_k) fun i => rt (some i)) fun j => rt (cut a i j)) fun a => bd (rt v_name) fun b => lo (some (cnt a b))) fun a => bd (bd (rt v_row) fun a => (bd (rt v_k) fun b => (bd (rt v_name) fun c => up (P_last_of a b c)))) fun b => rt (a, b)) fun a => rt a))))))
theorem c_worth (v_rule : Str) (v_row : (List Int)) (v_k : Int) (v_name : Int) (v_came : (List (Int × Int))) : CF pD (F_worth (svA [Enc.enc v_rule, Enc.enc v_row, Enc.enc v_k, Enc.enc v_name] (kvE v_came))) 5 (P_worth v_rule v_row v_k v_name v_came) := by
  refine c_bodyK (ds := [Enc.enc v_rule, Enc.enc v_row, Enc.enc v_k, Enc.enc v_name]) (kvs := kvE v_came) (E := (fun (t : Unit) => [some (.d (Enc.enc v_rule)), some (.d (Enc.enc v_row)), some (.d (Enc.enc v_k)), some (.d (Enc.enc v_name)), some (.fk (kvE v_came))])) rfl ?_
  rw [seqM_nil]
  refine z_ifE ?_ ?_ ?_ ?_
  · exact (j_cmpT (q_eq (by decide)) (JE.r (j_v 0 fun _ => rfl)) (JE.r (j_c rfl)))
  · exact (fun _ => trivial)
  ·
    refine z_ret (P := pD) (o := fun a => a) ?_ ?_ ?_
    · exact (j_data (j_tup2 (j_frzD (j_call3 c_last_of (j_v 1 fun _ => rfl) (j_v 2 fun _ => rfl) (j_v 3 fun _ => rfl))) (j_c rfl)))
    · exact (fun _ => trivial)
    · exact (fun a v t p => ⟨(fun z => by cases z), .inl ⟨_, rfl, p⟩⟩)
  refine z_ifE ?_ ?_ ?_ ?_
  · exact (j_cmpT (q_eq (by decide)) (JE.r (j_v 0 fun _ => rfl)) (JE.r (j_c rfl)))
  · exact (fun _ => trivial)
  ·
    refine z_ret (P := pD) (o := fun a => a) ?_ ?_ ?_
    · exact (j_data (j_tup2 (j_frzD (j_bin q_subI (JE.r (j_c rfl)) (JE.r (j_frzD (j_call3 c_last_of (j_v 1 fun _ => rfl) (j_v 2 fun _ => rfl) (j_v 3 fun _ => rfl)))))) (j_c rfl)))
    · exact (fun _ => trivial)
    · exact (fun a v t p => ⟨(fun z => by cases z), .inl ⟨_, rfl, p⟩⟩)
  refine z_ifE ?_ ?_ ?_ ?_
  · exact (j_cmpT (q_eq (by decide)) (JE.r (j_v 0 fun _ => rfl)) (JE.r (j_c rfl)))
  · exact (fun _ => trivial)
  ·
    refine z_ret (P := pD) (o := fun a => a) ?_ ?_ ?_
    · exact (j_data (j_tup2 (j_getK 4 (fun _ => rfl) (JE.r (j_v 3 fun _ => rfl))) (j_c rfl)))
    · exact (fun _ => trivial)
    · exact (fun a v t p => ⟨(fun z => by cases z), .inl ⟨_, rfl, p⟩⟩)
  refine z_ifE ?_ ?_ ?_ ?_
  · exact (j_cmpT (q_eq (by decide)) (JE.r (j_v 0 fun _ => rfl)) (JE.r (j_c rfl)))
  · exact (fun _ => trivial)
  ·
    refine z_ret (P := pD) (o := fun a => a) ?_ ?_ ?_
    · exact (j_data (j_tup2 (j_frzD (j_bin q_subI (JE.r (j_c rfl)) (JE.r (j_getK 4 (fun _ => rfl) (JE.r (j_v 3 fun _ => rfl)))))) (j_c rfl)))
    · exact (fun _ => trivial)
    · exact (fun a v t p => ⟨(fun z => by cases z), .inl ⟨_, rfl, p⟩⟩)
  refine z_ifE ?_ ?_ ?_ ?_
  · exact (j_cmpT (q_eq (by decide)) (JE.r (j_v 0 fun _ => rfl)) (JE.r (j_c rfl)))
  · exact (fun _ => trivial)
  ·
    refine z_ret (P := pD) (o := fun a => a) ?_ ?_ ?_
    · exact (j_data (j_tup2 (j_frzD (j_bin q_subI (JE.r (j_c rfl)) (JE.r (j_frzD (j_call3 c_next_of (j_v 1 fun _ => rfl) (j_v 2 fun _ => rfl) (j_v 3 fun _ => rfl)))))) (j_v 3 fun _ => rfl)))
    · exact (fun _ => trivial)
    · exact (fun a v t p => ⟨(fun z => by cases z), .inl ⟨_, rfl, p⟩⟩)
  refine z_last ?_
  refine z_ret (P := pD) (o := fun a => a) ?_ ?_ ?_
  · exact (j_data (j_tup2 (j_look (q_count (by decide)) (JE.r (j_frzL (j_slice (JE.r (j_v 1 fun _ => rfl)) j_pN (j_pS (JE.r (j_v 2 fun _ => rfl)))))) (JE.r (j_v 3 fun _ => rfl))) (j_frzD (j_call3 c_last_of (j_v 1 fun _ => rfl) (j_v 2 fun _ => rfl) (j_v 3 fun _ => rfl)))))
  · exact (fun _ => trivial)
  · exact (fun a v t p => .inl ⟨_, rfl, p⟩)
/-! victim -/
def P_victim (v_rule : Str) (v_row : (List Int)) (v_k : Int) (v_came : (List (Int × Int))) : Rs Int :=
  run1 (bd (bd (bd (rt (v_came.map fun p => p.1)) fun xs => cmpG xs fun (x5 : Int) => bd (rt true) fun b => if b then bd (bd (bd (rt v_rule) fun a => (bd (rt v_row) fun b => (bd (rt v_k) fun c => (bd (rt x5) fun e => up (P_worth a b c e v_came))))) fun a => bd (rt x5) fun b => rt (a, b)) fun y => rt (some y) else rt none) fun a => lo (some (srtE a))) fun v_some6 => (bd (bd (bd (rt v_some6) fun a => bd (rt (0 : Int)) fun b => lo (atI a b)) fun p => rt p.2) fun a => rt a))
theorem c_victim (v_rule : Str) (v_row : (List Int)) (v_k : Int) (v_came : (List (Int × Int))) : CF pD (F_victim (svA [Enc.enc v_rule, Enc.enc v_row, Enc.enc v_k] (kvE v_came))) 4 (P_victim v_rule v_row v_k v_came) := by
  refine c_bodyK (ds := [Enc.enc v_rule, Enc.enc v_row, Enc.enc v_k]) (kvs := kvE v_came) (E := (fun (t : Unit) => [some (.d (Enc.enc v_rule)), some (.d (Enc.enc v_row)), some (.d (Enc.enc v_k)), some (.fk (kvE v_came)), none, none])) rfl ?_
  rw [seqM_nil]
  refine z_setL 4 (E' := (fun (v_some6 : (List ((Int × Int) × Int))) (t : Unit) => [some (.d (Enc.enc v_rule)), some (.d (Enc.enc v_row)), some (.d (Enc.enc v_k)), some (.fk (kvE v_came)), some (.ls false (v_some6.map Enc.enc)), none])) ?_ ?_ ?_ ?_ ?_
  · exact (j_bi1 (q_sortP (by decide)) (JE.r (j_frzL (j_lc (Ei := fun (x5 : Int) => (fun (t : Unit) => [some (.d (Enc.enc v_rule)), some (.d (Enc.enc v_row)), some (.d (Enc.enc v_k)), some (.fk (kvE v_came)), none, some (.d (Enc.enc x5))])) (j_keysM 3 fun _ => rfl) (fun t => any_1 rfl) (fun _ _ => rfl) (fun _ _ _ => rfl) (fun x5 => (J.ret rfl)) (fun x5 => (j_tup2 (j_frzD (j_call5K 3 (fun _ => rfl) (fun a b c e => c_worth a b c e v_came) (j_v 0 fun _ => rfl) (j_v 1 fun _ => rfl) (j_v 2 fun _ => rfl) (j_v 5 fun _ => rfl))) (j_v 5 fun _ => rfl)))))))
  · exact (fun _ => trivial)
  · exact (fun _ => rfl)
  · exact (fun _ _ => rfl)
  intro v_some6
  refine z_last ?_
  refine z_ret (P := pD) (o := fun a => a) ?_ ?_ ?_
  · exact (j_snd (JE.r (j_frzD (j_bin q_ixL (j_vl 4 fun _ => rfl) (JE.r (j_c rfl))))))
  · exact (fun _ => trivial)
  · exact (fun a v t p => .inl ⟨_, rfl, p⟩)
/-! walk -/
def B_walk_1 (v_row : (List Int)) (v_room : Int) (v_rule : Str) (x8 : Int) (s9 : (List (Int × Int)) × (List (Bool × (Option Int)))) : T Unit ((List (Int × Int)) × (List (Bool × (Option Int)))) :=
  (bd (bd (rt ()) fun _ => rt (none : (Option Int))) fun v_gone11 => (bd (bd (bd (rt v_row) fun a => bd (rt x8) fun b => lo (atI a b)) fun k => rt (dGet s9.1 k).isSome) fun v_is_kept12 => (bd (bd (bd (bd (rt v_is_kept12) fun a => rt (!a)) fun a => if a then (bd (rt v_room) fun a => bd (rt (0 : Int)) fun b => lo (some (decide (b < a)))) else rt false) fun k => if k then (bd (bd (bd (rt (s9.1.length : Int)) fun a => bd (rt v_room) fun b => lo (some (eqT a b))) fun k => if k then (bd (bd (noEr (bd (rt v_rule) fun a => (bd (rt v_row) fun b => (bd (rt x8) fun c => up (P_victim a b c s9.1))))) fun a => rt (some a)) fun v_gone17 => (bd (bd (bd (rt v_gone17) fun a => lo a) fun k => lo ((dGet s9.1 k).map fun _ => dDrop s9.1 k)) fun v_came18 => (rt (v_came18, v_gone17)))) else (rt (s9.1, v_gone11))) fun (s15 : (List (Int × Int)) × (Option Int)) => (bd (rt x8) fun a => bd (bd (rt v_row) fun a => bd (rt x8) fun b => lo (atI a b)) fun j => bd (lo (if s15.1.length < 1000000 then some (dPut s15.1 j a) else none)) fun v_came19 => (rt (v_came19, s15.2)))) else (rt (s9.1, v_gone11))) fun (s13 : (List (Int × Int)) × (Option Int)) => (bd (bd (bd (rt v_is_kept12) fun a => bd (rt s13.2) fun b => rt (a, b)) fun y => lo (appT s9.2 y)) fun v_found20 => (rt (s13.1, v_found20))))))
def P_walk (v_rule : Str) (v_room : Int) (v_row : (List Int)) : Rs ((List (Bool × (Option Int))) × (List Int)) :=
  run1 (bd (bd (rt ([] : List (Bool × (Option Int)))) fun as => lo (if as.length ≤ 1000 then some as else none)) fun v_found7 => (bd (bd (bd (rt v_row) fun a => rt (a.length : Int)) fun j => lo (if mid j then some (rng 0 j) else none)) fun xs => bd (lp (B_walk_1 v_row v_room v_rule) xs (([] : (List (Int × Int))), v_found7)) fun (s9 : (List (Int × Int)) × (List (Bool × (Option Int)))) => (bd (bd (rt s9.2) fun a => bd (lo (if s9.1.length ≤ 1000 then some (srt (s9.1.map (·.1))) else none)) fun b => rt (a, b)) fun a => rt a)))
theorem c_walk (v_rule : Str) (v_room : Int) (v_row : (List Int)) : CF pD (F_walk [.d (Enc.enc v_rule), .d (Enc.enc v_room), .d (Enc.enc v_row)]) 3 (P_walk v_rule v_room v_row) := by
  refine c_body (ds := [Enc.enc v_rule, Enc.enc v_room, Enc.enc v_row]) (E := (fun (t : Unit) => [some (.d (Enc.enc v_rule)), some (.d (Enc.enc v_room)), some (.d (Enc.enc v_row)), none, none, none, none, none])) rfl ?_
  rw [seqM_nil]
  refine z_newK (α := Int) 3 (E' := (fun (t : Unit) => [some (.d (Enc.enc v_rule)), some (.d (Enc.enc v_room)), some (.d (Enc.enc v_row)), some (.dk false (kvE ([] : (List (Int × Int))))), none, none, none, none])) ?_ ?_ ?_
  · exact (fun _ => rfl)
  · exact (fun _ => rfl)
  refine z_setL 4 (E' := (fun (v_found7 : (List (Bool × (Option Int)))) (t : Unit) => [some (.d (Enc.enc v_rule)), some (.d (Enc.enc v_room)), some (.d (Enc.enc v_row)), some (.dk false (kvE ([] : (List (Int × Int))))), some (.ls false (v_found7.map Enc.enc)), none, none, none])) ?_ ?_ ?_ ?_ ?_
  · exact (j_lst j_nil)
  · exact (fun _ => trivial)
  · exact (fun _ => rfl)
  · exact (fun _ _ => rfl)
  intro v_found7
  refine z_for (tg := .one 5) (s0 := (([] : (List (Int × Int))), v_found7)) (fun (s9 : (List (Int × Int)) × (List (Bool × (Option Int)))) (j10 : Jk × Jk × Jk) (t : Unit) => [some (.d (Enc.enc v_rule)), some (.d (Enc.enc v_room)), some (.d (Enc.enc v_row)), some (.dk false (kvE s9.1)), some (.ls false (s9.2.map Enc.enc)), j10.1.1, j10.2.1.1, j10.2.2.1]) (EB := (fun (x8 : Int) (s9 : (List (Int × Int)) × (List (Bool × (Option Int)))) (j10 : Jk × Jk × Jk) (t : Unit) => [some (.d (Enc.enc v_rule)), some (.d (Enc.enc v_room)), some (.d (Enc.enc v_row)), some (.dk false (kvE s9.1)), some (.ls false (s9.2.map Enc.enc)), some (.d (Enc.enc x8)), j10.2.1.1, j10.2.2.1])) ?_ ?_ (jk0, jk0, jk0) ?_ ?_ ?_ ?_
  · exact (j_rg1 (j_len (JE.r (j_v 2 fun _ => rfl))))
  · exact (fun _ => trivial)
  · exact (fun t => rfl)
  · exact (fun x8 s9 j10 t => put_1 j10.1.2 rfl)
  · intro x8 s9 j10
    unfold B_walk_1
    rw [seqM_nil]
    refine z_setD 6 (E' := (fun (v_gone11 : (Option Int)) (t : Unit) => [some (.d (Enc.enc v_rule)), some (.d (Enc.enc v_room)), some (.d (Enc.enc v_row)), some (.dk false (kvE s9.1)), some (.ls false (s9.2.map Enc.enc)), some (.d (Enc.enc x8)), some (.d (Enc.enc v_gone11)), j10.2.2.1])) ?_ ?_ ?_ ?_ ?_
    · exact (jd_noneO (α := Int) (j_data (j_c rfl)))
    · exact (fun _ => trivial)
    · exact (fun _ => ref_of_own j10.2.1.2)
    · exact (fun _ _ => rfl)
    intro v_gone11
    refine z_setD 7 (E' := (fun (v_is_kept12 : Bool) (t : Unit) => [some (.d (Enc.enc v_rule)), some (.d (Enc.enc v_room)), some (.d (Enc.enc v_row)), some (.dk false (kvE s9.1)), some (.ls false (s9.2.map Enc.enc)), some (.d (Enc.enc x8)), some (.d (Enc.enc v_gone11)), some (.d (Enc.enc v_is_kept12))])) ?_ ?_ ?_ ?_ ?_
    · exact (j_data (j_inK 3 (fun _ => rfl) (JE.r (j_frzD (j_bin q_ixL (JE.r (j_v 2 fun _ => rfl)) (JE.r (j_v 5 fun _ => rfl)))))))
    · exact (fun _ => trivial)
    · exact (fun _ => ref_of_own j10.2.2.2)
    · exact (fun _ _ => rfl)
    intro v_is_kept12
    refine z_ifN (E' := (fun (s13 : (List (Int × Int)) × (Option Int)) (j14 : Unit) (t : Unit) => [some (.d (Enc.enc v_rule)), some (.d (Enc.enc v_room)), some (.d (Enc.enc v_row)), some (.dk false (kvE s13.1)), some (.ls false (s9.2.map Enc.enc)), some (.d (Enc.enc x8)), some (.d (Enc.enc s13.2)), some (.d (Enc.enc v_is_kept12))])) ?_ ?_ ?_ ?_ ?_
    · exact (j_and (j_not (j_testB (JE.r (j_v 7 fun _ => rfl)))) (j_cmpT q_gt (JE.r (j_v 1 fun _ => rfl)) (JE.r (j_c rfl))))
    · exact (fun _ => trivial)
    ·
      rw [seqM_nil]
      refine z_ifN (E' := (fun (s15 : (List (Int × Int)) × (Option Int)) (j16 : Unit) (t : Unit) => [some (.d (Enc.enc v_rule)), some (.d (Enc.enc v_room)), some (.d (Enc.enc v_row)), some (.dk false (kvE s15.1)), some (.ls false (s9.2.map Enc.enc)), some (.d (Enc.enc x8)), some (.d (Enc.enc s15.2)), some (.d (Enc.enc v_is_kept12))])) ?_ ?_ ?_ ?_ ?_
      · exact (j_cmpT (q_eq (by decide)) (JE.r (j_lenK 3 fun _ => rfl)) (JE.r (j_v 1 fun _ => rfl)))
      · exact (fun _ => trivial)
      ·
        rw [seqM_nil]
        refine z_setD 6 (E' := (fun (v_gone17 : (Option Int)) (t : Unit) => [some (.d (Enc.enc v_rule)), some (.d (Enc.enc v_room)), some (.d (Enc.enc v_row)), some (.dk false (kvE s9.1)), some (.ls false (s9.2.map Enc.enc)), some (.d (Enc.enc x8)), some (.d (Enc.enc v_gone17)), some (.d (Enc.enc v_is_kept12))])) ?_ ?_ ?_ ?_ ?_
        · exact (jd_some (j_lock 3 (d := s9.1) (E1 := (fun (t : Unit) => [some (.d (Enc.enc v_rule)), some (.d (Enc.enc v_room)), some (.d (Enc.enc v_row)), some (.fk (kvE s9.1)), some (.ls false (s9.2.map Enc.enc)), some (.d (Enc.enc x8)), some (.d (Enc.enc v_gone11)), some (.d (Enc.enc v_is_kept12))])) (fun _ => rfl) (fun _ => rfl) (fun _ => rfl) (fun _ => rfl) (fun _ => rfl) (j_call4K 3 (fun _ => rfl) (fun a b c => c_victim a b c s9.1) (j_v 0 fun _ => rfl) (j_v 2 fun _ => rfl) (j_v 5 fun _ => rfl))))
        · exact (fun _ => trivial)
        · exact (fun _ => rfl)
        · exact (fun _ _ => rfl)
        intro v_gone17
        refine z_last ?_
        refine z_exprU (E' := (fun (v_came18 : (List (Int × Int))) (t : Unit) => [some (.d (Enc.enc v_rule)), some (.d (Enc.enc v_room)), some (.d (Enc.enc v_row)), some (.dk false (kvE v_came18)), some (.ls false (s9.2.map Enc.enc)), some (.d (Enc.enc x8)), some (.d (Enc.enc v_gone17)), some (.d (Enc.enc v_is_kept12))])) ?_ ?_ ?_
        · exact (m_popK' 3 (d := s9.1) (E' := (fun (v_came18 : (List (Int × Int))) (t : Unit) => [some (.d (Enc.enc v_rule)), some (.d (Enc.enc v_room)), some (.d (Enc.enc v_row)), some (.dk false (kvE v_came18)), some (.ls false (s9.2.map Enc.enc)), some (.d (Enc.enc x8)), some (.d (Enc.enc v_gone17)), some (.d (Enc.enc v_is_kept12))])) (fun _ => rfl) (JE.r (j_getO (j_v 6 fun _ => rfl))) (fun _ _ => rfl))
        · exact (fun _ => trivial)
        intro v_came18
        exact z_nil (fun t => ⟨rfl, (), rfl⟩)
      ·
        refine z_pass ?_
        exact z_nil (fun t => ⟨rfl, (), rfl⟩)
      intro s15 j16
      refine z_last ?_
      refine z_putK 3 (d := s15.1) (E' := (fun (v_came19 : (List (Int × Int))) (t : Unit) => [some (.d (Enc.enc v_rule)), some (.d (Enc.enc v_room)), some (.d (Enc.enc v_row)), some (.dk false (kvE v_came19)), some (.ls false (s9.2.map Enc.enc)), some (.d (Enc.enc x8)), some (.d (Enc.enc s15.2)), some (.d (Enc.enc v_is_kept12))])) ?_ ?_ ?_ ?_ ?_ ?_
      · exact (fun _ => rfl)
      · exact (j_v 5 fun _ => rfl)
      · exact (JE.r (j_frzD (j_bin q_ixL (JE.r (j_v 2 fun _ => rfl)) (JE.r (j_v 5 fun _ => rfl)))))
      · exact (fun _ => trivial)
      · exact (fun _ _ => rfl)
      intro v_came19
      exact z_nil (fun t => ⟨rfl, (), rfl⟩)
    ·
      refine z_pass ?_
      exact z_nil (fun t => ⟨rfl, (), rfl⟩)
    intro s13 j14
    refine z_last ?_
    refine z_exprU (E' := (fun (v_found20 : (List (Bool × (Option Int)))) (t : Unit) => [some (.d (Enc.enc v_rule)), some (.d (Enc.enc v_room)), some (.d (Enc.enc v_row)), some (.dk false (kvE s13.1)), some (.ls false (v_found20.map Enc.enc)), some (.d (Enc.enc x8)), some (.d (Enc.enc s13.2)), some (.d (Enc.enc v_is_kept12))])) ?_ ?_ ?_
    · exact (m_U 4 (b := false) (xs := s9.2) (E' := (fun (v_found20 : (List (Bool × (Option Int)))) (t : Unit) => [some (.d (Enc.enc v_rule)), some (.d (Enc.enc v_room)), some (.d (Enc.enc v_row)), some (.dk false (kvE s13.1)), some (.ls false (v_found20.map Enc.enc)), some (.d (Enc.enc x8)), some (.d (Enc.enc s13.2)), some (.d (Enc.enc v_is_kept12))])) k_appT (fun _ => rfl) (a_1 (j_tup2 (j_v 7 fun _ => rfl) (j_v 6 fun _ => rfl))) (fun _ _ => rfl))
    · exact (fun _ => trivial)
    intro v_found20
    exact z_nil (fun t => ⟨.inl rfl, ((jkd (Enc.enc x8)), (jkd (Enc.enc s13.2)), (jkd (Enc.enc v_is_kept12))), rfl⟩)
  intro s9 j10
  refine z_last ?_
  refine z_share 4 (E' := (fun (t : Unit) => [some (.d (Enc.enc v_rule)), some (.d (Enc.enc v_room)), some (.d (Enc.enc v_row)), some (.dk false (kvE s9.1)), some (.d (Enc.enc s9.2)), j10.1.1, j10.2.1.1, j10.2.2.1])) ?_ ?_
  · exact (fun _ => rfl)
  refine z_ret (P := pD) (o := fun a => a) ?_ ?_ ?_
  · exact (j_data (j_tup2 (j_v 4 fun _ => rfl) (j_frzL (j_sortK 3 fun _ => rfl))))
  · exact (fun _ => trivial)
  · exact (fun a v t p => .inl ⟨_, rfl, p⟩)
/-! run -/
def P_run (v_rule : Str) (v_room : Int) (v_row : (List Int)) : Rs (List Bool) :=
  run1 (bd (bd (rt v_rule) fun a => up (P_look_rule a)) fun _u24 => (bd (bd (rt v_room) fun a => up (P_look_room a)) fun _u23 => (bd (bd (rt v_row) fun a => up (P_look_row a)) fun _u22 => (bd (bd (bd (bd (rt v_rule) fun a => (bd (rt v_room) fun b => (bd (rt v_row) fun c => up (P_walk a b c)))) fun p => rt p.1) fun xs => cmpG xs fun (x21 : (Bool × (Option Int))) => bd (rt true) fun b => if b then bd (rt x21.1) fun y => rt (some y) else rt none) fun a => rt a))))
theorem c_run (v_rule : Str) (v_room : Int) (v_row : (List Int)) : CF pL (F_run [.d (Enc.enc v_rule), .d (Enc.enc v_room), .d (Enc.enc v_row)]) 3 (P_run v_rule v_room v_row) := by
  refine c_body (ds := [Enc.enc v_rule, Enc.enc v_room, Enc.enc v_row]) (E := (fun (t : Unit) => [some (.d (Enc.enc v_rule)), some (.d (Enc.enc v_room)), some (.d (Enc.enc v_row)), none, none])) rfl ?_
  rw [seqM_nil]
  refine z_expr (P := pD) ?_ ?_ ?_
  · exact (j_call1 c_look_rule (j_v 0 fun _ => rfl))
  · exact (fun _ => trivial)
  intro _u24
  refine z_expr (P := pD) ?_ ?_ ?_
  · exact (j_call1 c_look_room (j_v 1 fun _ => rfl))
  · exact (fun _ => trivial)
  intro _u23
  refine z_expr (P := pD) ?_ ?_ ?_
  · exact (j_call1 c_look_row (j_v 2 fun _ => rfl))
  · exact (fun _ => trivial)
  intro _u22
  refine z_last ?_
  refine z_ret (P := pL) (o := fun a => a) ?_ ?_ ?_
  · exact (j_lc (Ei := fun (x21 : (Bool × (Option Int))) => (fun (t : Unit) => [some (.d (Enc.enc v_rule)), some (.d (Enc.enc v_room)), some (.d (Enc.enc v_row)), some (.d (Enc.enc x21.1)), some (.d (Enc.enc x21.2))])) (j_it (j_frzD (j_fst (JE.r (j_frzD (j_call3 c_walk (j_v 0 fun _ => rfl) (j_v 1 fun _ => rfl) (j_v 2 fun _ => rfl))))))) (fun t => any_2 rfl rfl) (fun _ _ => rfl) (fun _ _ _ => rfl) (fun x21 => (J.ret rfl)) (fun x21 => (j_v 3 fun _ => rfl)))
  · exact (fun _ => trivial)
  · exact (fun a v t p => .inl ⟨_, rfl, p⟩)
/-! kept -/
def P_kept (v_rule : Str) (v_room : Int) (v_row : (List Int)) : Rs (List Int) :=
  run1 (bd (bd (rt v_rule) fun a => up (P_look_rule a)) fun _u27 => (bd (bd (rt v_room) fun a => up (P_look_room a)) fun _u26 => (bd (bd (rt v_row) fun a => up (P_look_row a)) fun _u25 => (bd (bd (bd (rt v_rule) fun a => (bd (rt v_room) fun b => (bd (rt v_row) fun c => up (P_walk a b c)))) fun p => rt p.2) fun a => rt a))))
theorem c_kept (v_rule : Str) (v_room : Int) (v_row : (List Int)) : CF pD (F_kept [.d (Enc.enc v_rule), .d (Enc.enc v_room), .d (Enc.enc v_row)]) 3 (P_kept v_rule v_room v_row) := by
  refine c_body (ds := [Enc.enc v_rule, Enc.enc v_room, Enc.enc v_row]) (E := (fun (t : Unit) => [some (.d (Enc.enc v_rule)), some (.d (Enc.enc v_room)), some (.d (Enc.enc v_row))])) rfl ?_
  rw [seqM_nil]
  refine z_expr (P := pD) ?_ ?_ ?_
  · exact (j_call1 c_look_rule (j_v 0 fun _ => rfl))
  · exact (fun _ => trivial)
  intro _u27
  refine z_expr (P := pD) ?_ ?_ ?_
  · exact (j_call1 c_look_room (j_v 1 fun _ => rfl))
  · exact (fun _ => trivial)
  intro _u26
  refine z_expr (P := pD) ?_ ?_ ?_
  · exact (j_call1 c_look_row (j_v 2 fun _ => rfl))
  · exact (fun _ => trivial)
  intro _u25
  refine z_last ?_
  refine z_ret (P := pD) (o := fun a => a) ?_ ?_ ?_
  · exact (j_snd (JE.r (j_frzD (j_call3 c_walk (j_v 0 fun _ => rfl) (j_v 1 fun _ => rfl) (j_v 2 fun _ => rfl)))))
  · exact (fun _ => trivial)
  · exact (fun a v t p => .inl ⟨_, rfl, p⟩)
/-! gone -/
def P_gone (v_rule : Str) (v_room : Int) (v_row : (List Int)) : Rs (List (Option Int)) :=
  run1 (bd (bd (rt v_rule) fun a => up (P_look_rule a)) fun _u31 => (bd (bd (rt v_room) fun a => up (P_look_room a)) fun _u30 => (bd (bd (rt v_row) fun a => up (P_look_row a)) fun _u29 => (bd (bd (bd (bd (rt v_rule) fun a => (bd (rt v_room) fun b => (bd (rt v_row) fun c => up (P_walk a b c)))) fun p => rt p.1) fun xs => cmpG xs fun (x28 : (Bool × (Option Int))) => bd (rt true) fun b => if b then bd (rt x28.2) fun y => rt (some y) else rt none) fun a => rt a))))
theorem c_gone (v_rule : Str) (v_room : Int) (v_row : (List Int)) : CF pL (F_gone [.d (Enc.enc v_rule), .d (Enc.enc v_room), .d (Enc.enc v_row)]) 3 (P_gone v_rule v_room v_row) := by
  refine c_body (ds := [Enc.enc v_rule, Enc.enc v_room, Enc.enc v_row]) (E := (fun (t : Unit) => [some (.d (Enc.enc v_rule)), some (.d (Enc.enc v_room)), some (.d (Enc.enc v_row)), none, none])) rfl ?_
  rw [seqM_nil]
  refine z_expr (P := pD) ?_ ?_ ?_
  · exact (j_call1 c_look_rule (j_v 0 fun _ => rfl))
  · exact (fun _ => trivial)
  intro _u31
  refine z_expr (P := pD) ?_ ?_ ?_
  · exact (j_call1 c_look_room (j_v 1 fun _ => rfl))
  · exact (fun _ => trivial)
  intro _u30
  refine z_expr (P := pD) ?_ ?_ ?_
  · exact (j_call1 c_look_row (j_v 2 fun _ => rfl))
  · exact (fun _ => trivial)
  intro _u29
  refine z_last ?_
  refine z_ret (P := pL) (o := fun a => a) ?_ ?_ ?_
  · exact (j_lc (Ei := fun (x28 : (Bool × (Option Int))) => (fun (t : Unit) => [some (.d (Enc.enc v_rule)), some (.d (Enc.enc v_room)), some (.d (Enc.enc v_row)), some (.d (Enc.enc x28.1)), some (.d (Enc.enc x28.2))])) (j_it (j_frzD (j_fst (JE.r (j_frzD (j_call3 c_walk (j_v 0 fun _ => rfl) (j_v 1 fun _ => rfl) (j_v 2 fun _ => rfl))))))) (fun t => any_2 rfl rfl) (fun _ _ => rfl) (fun _ _ _ => rfl) (fun x28 => (J.ret rfl)) (fun x28 => (j_v 4 fun _ => rfl)))
  · exact (fun _ => trivial)
  · exact (fun a v t p => .inl ⟨_, rfl, p⟩)
/-! misses -/
def P_misses (v_rule : Str) (v_room : Int) (v_row : (List Int)) : Rs Int :=
  run1 (bd (bd (bd (rt v_rule) fun a => (bd (rt v_room) fun b => (bd (rt v_row) fun c => up (P_run a b c)))) fun a => bd (rt false) fun b => lo (some (cnt a b))) fun a => rt a)
theorem c_misses (v_rule : Str) (v_room : Int) (v_row : (List Int)) : CF pD (F_misses [.d (Enc.enc v_rule), .d (Enc.enc v_room), .d (Enc.enc v_row)]) 3 (P_misses v_rule v_room v_row) := by
  refine c_body (ds := [Enc.enc v_rule, Enc.enc v_room, Enc.enc v_row]) (E := (fun (t : Unit) => [some (.d (Enc.enc v_rule)), some (.d (Enc.enc v_room)), some (.d (Enc.enc v_row))])) rfl ?_
  refine z_ret (P := pD) (o := fun a => a) ?_ ?_ ?_
  · exact (j_data (j_look (q_count (by decide)) (JE.r (j_frzL (j_call3 c_run (j_v 0 fun _ => rfl) (j_v 1 fun _ => rfl) (j_v 2 fun _ => rfl)))) (JE.r (j_c rfl))))
  · exact (fun _ => trivial)
  · exact (fun a v t p => .inl ⟨_, rfl, p⟩)
/-! _law_place -/
def B__law_place_1 (v_row : (List Int)) (v_name : Int) (x33 : Int) (s34 : Unit) : T Unit (Lx (Unit) (Option Int)) :=
  (bd (bd (bd (rt v_row) fun a => bd (rt x33) fun b => lo (atI a b)) fun a => bd (rt v_name) fun b => lo (some (eqT a b))) fun k => if k then (rt (Lx.out (some x33))) else (rt (Lx.nx ())))
def P__law_place (v_row : (List Int)) (v_name : Int) (v_first : Int) (v_last : Int) : Rs (Option Int) :=
  run1 (bd (bd (bd (rt v_first) fun a => bd (rt v_last) fun b => lo (some (decide (a ≤ b)))) fun k => if k then (rt (1 : Int)) else (bd (rt (1 : Int)) fun a => lo (some (-a)))) fun v_step32 => (bd (bd (rt v_first) fun i => bd (rt v_last) fun j => bd (rt v_step32) fun s => lo (if mid i && mid j && decide (s = -1) then some (dwn i j) else none)) fun xs => bd (lpx (B__law_place_1 v_row v_name) xs ()) (orK fun (s34 : Unit) => (bd (bd (rt ()) fun _ => rt (none : (Option Int))) fun a => rt a))))
theorem c__law_place (v_row : (List Int)) (v_name : Int) (v_first : Int) (v_last : Int) : CF pD (F__law_place [.d (Enc.enc v_row), .d (Enc.enc v_name), .d (Enc.enc v_first), .d (Enc.enc v_last)]) 4 (P__law_place v_row v_name v_first v_last) := by
  refine c_body (ds := [Enc.enc v_row, Enc.enc v_name, Enc.enc v_first, Enc.enc v_last]) (E := (fun (t : Unit) => [some (.d (Enc.enc v_row)), some (.d (Enc.enc v_name)), some (.d (Enc.enc v_first)), some (.d (Enc.enc v_last)), none, none])) rfl ?_
  rw [seqM_nil]
  refine z_setD 4 (E' := (fun (v_step32 : Int) (t : Unit) => [some (.d (Enc.enc v_row)), some (.d (Enc.enc v_name)), some (.d (Enc.enc v_first)), some (.d (Enc.enc v_last)), some (.d (Enc.enc v_step32)), none])) ?_ ?_ ?_ ?_ ?_
  · exact (j_data (j_if (j_cmpT q_le (JE.r (j_v 2 fun _ => rfl)) (JE.r (j_v 3 fun _ => rfl))) (j_c rfl) (j_frzD (j_un q_negI (JE.r (j_c rfl))))))
  · exact (fun _ => trivial)
  · exact (fun _ => rfl)
  · exact (fun _ _ => rfl)
  intro v_step32
  refine z_forX (tg := .one 5) (s0 := ()) (fun (s34 : Unit) (j35 : Jk) (t : Unit) => [some (.d (Enc.enc v_row)), some (.d (Enc.enc v_name)), some (.d (Enc.enc v_first)), some (.d (Enc.enc v_last)), some (.d (Enc.enc v_step32)), j35.1]) (EB := (fun (x33 : Int) (s34 : Unit) (j35 : Jk) (t : Unit) => [some (.d (Enc.enc v_row)), some (.d (Enc.enc v_name)), some (.d (Enc.enc v_first)), some (.d (Enc.enc v_last)), some (.d (Enc.enc v_step32)), some (.d (Enc.enc x33))])) ?_ ?_ jk0 ?_ ?_ ?_ ?_
  · exact (j_rg3 (j_v 2 fun _ => rfl) (j_v 3 fun _ => rfl) (j_v 4 fun _ => rfl))
  · exact (fun _ => trivial)
  · exact (fun t => rfl)
  · exact (fun x33 s34 j35 t => put_1 j35.2 rfl)
  · intro x33 s34 j35
    unfold B__law_place_1
    refine z_if ?_ ?_ ?_ ?_
    · exact (j_cmpT (q_eq (by decide)) (JE.r (j_frzD (j_bin q_ixL (JE.r (j_v 0 fun _ => rfl)) (JE.r (j_v 5 fun _ => rfl))))) (JE.r (j_v 1 fun _ => rfl)))
    · exact (fun _ => trivial)
    ·
      refine z_retO 5 (v := .d (Enc.enc x33)) ?_ ?_
      · exact (fun _ => rfl)
      · exact (fun t => ⟨⟨_, rfl⟩, .inl ⟨_, rfl, (by first | rfl | exact .inl rfl | exact .inr ⟨_, rfl, rfl⟩)⟩⟩)
    ·
      refine z_pass ?_
      exact z_nil (fun t => ⟨.inl rfl, (jkd (Enc.enc x33)), rfl⟩)
  intro s34 j35
  refine z_last ?_
  refine z_ret (P := pD) (o := fun a => a) ?_ ?_ ?_
  · exact (jd_noneO (α := Int) (j_data (j_c rfl)))
  · exact (fun _ => trivial)
  · exact (fun a v t p => .inl ⟨_, rfl, p⟩)
/-! _law_goes -/
def P__law_goes (v_rule : Str) (v_row : (List Int)) (v_k : Int) (v_room : (List Int)) : Rs Int :=
  run1 (bd (bd (rt v_rule) fun a => bd (rt ("old" : Str)) fun b => lo (some (eqT a b))) fun k => if k then (bd (bd (rt v_room) fun a => bd (rt (0 : Int)) fun b => lo (atI a b)) fun a => rt a) else (bd (bd (rt v_rule) fun a => bd (rt ("young" : Str)) fun b => lo (some (eqT a b))) fun k => if k then (bd (bd (rt v_room) fun a => bd (bd (rt (1 : Int)) fun a => lo (some (-a))) fun b => lo (atI a b)) fun a => rt a) else (bd (bd (rt v_room) fun xs => cmpG xs fun (x36 : Int) => bd (rt true) fun b => if b then bd (bd (rt v_row) fun a => (bd (rt x36) fun b => (bd (bd (rt v_k) fun a => bd (rt (1 : Int)) fun b => lo (some (a - b))) fun c => (bd (bd (rt (1 : Int)) fun a => lo (some (-a))) fun e => up (P__law_place a b c e))))) fun y => rt (some y) else rt none) fun v_ages37 => (bd (bd (rt v_rule) fun a => bd (rt ("last" : Str)) fun b => lo (some (eqT a b))) fun k => if k then (bd (bd (rt v_room) fun a => bd (bd (rt v_ages37) fun a => bd (bd (bd (bd (rt v_ages37) fun a => lo (allSome a)) fun a => lo (minL a)) fun a => rt (some a)) fun b => lo (idxT a b)) fun b => lo (atI a b)) fun a => rt a) else (bd (bd (rt v_rule) fun a => bd (rt ("first" : Str)) fun b => lo (some (eqT a b))) fun k => if k then (bd (bd (rt v_room) fun a => bd (bd (rt v_ages37) fun a => bd (bd (bd (bd (rt v_ages37) fun a => lo (allSome a)) fun a => lo (maxL a)) fun a => rt (some a)) fun b => lo (idxT a b)) fun b => lo (atI a b)) fun a => rt a) else (bd (bd (rt v_rule) fun a => bd (rt ("far" : Str)) fun b => lo (some (eqT a b))) fun k => if k then (bd (bd (rt v_room) fun xs => cmpG xs fun (x38 : Int) => bd (rt true) fun b => if b then bd (bd (rt v_row) fun a => (bd (rt x38) fun b => (bd (rt v_k) fun c => (bd (bd (rt v_row) fun a => rt (a.length : Int)) fun e => up (P__law_place a b c e))))) fun y => rt (some y) else rt none) fun v_after39 => (bd (bd (bd (rt ()) fun _ => rt (none : (Option Int))) fun a => bd (rt v_after39) fun b => lo (some (inL a b))) fun k => if k then (bd (bd (bd (bd (bd (rt v_room) fun a => rt (a.length : Int)) fun j => lo (if mid j then some (rng 0 j) else none)) fun xs => cmpG xs fun (x40 : Int) => bd (bd (bd (rt v_after39) fun a => bd (rt x40) fun b => lo (atI a b)) fun a => rt (isNoneT a)) fun b => if b then bd (bd (rt v_room) fun a => bd (rt x40) fun b => lo (atI a b)) fun y => rt (some y) else rt none) fun a => lo (minL a)) fun a => rt a) else (bd (bd (rt v_room) fun a => bd (bd (rt v_after39) fun a => bd (bd (bd (bd (rt v_after39) fun a => lo (allSome a)) fun a => lo (maxL a)) fun a => rt (some a)) fun b => lo (idxT a b)) fun b => lo (atI a b)) fun a => rt a))) else (bd (bd (bd (bd (rt v_room) fun a => rt (a.length : Int)) fun j => lo (if mid j then some (rng 0 j) else none)) fun xs => cmpG xs fun (x41 : Int) => bd (rt true) fun b => if b then bd (bd (bd (bd (bd (rt v_row) fun a => bd (rt none) fun i => bd (bd (rt v_k) fun i => rt (some i)) fun j => rt (cut a i j)) fun xs => cmpG xs fun (x42 : Int) => bd (bd (rt x42) fun a => bd (bd (rt v_room) fun a => bd (rt x41) fun b => lo (atI a b)) fun b => lo (some (eqT a b))) fun b => if b then bd (rt x42) fun y => rt (some y) else rt none) fun a => rt (a.length : Int)) fun a => bd (bd (bd (rt v_ages37) fun a => bd (rt x41) fun b => lo (atI a b)) fun a => lo a) fun b => bd (bd (rt v_room) fun a => bd (rt x41) fun b => lo (atI a b)) fun c => rt (T3.mk a b c)) fun y => rt (some y) else rt none) fun v_often43 => (bd (bd (bd (rt v_often43) fun a => lo (minE a)) fun p => rt p.c) fun a => rt a))))))))
theorem c__law_goes (v_rule : Str) (v_row : (List Int)) (v_k : Int) (v_room : (List Int)) : CF pD (F__law_goes [.d (Enc.enc v_rule), .d (Enc.enc v_row), .d (Enc.enc v_k), .d (Enc.enc v_room)]) 4 (P__law_goes v_rule v_row v_k v_room) := by
  refine c_body (ds := [Enc.enc v_rule, Enc.enc v_row, Enc.enc v_k, Enc.enc v_room]) (E := (fun (t : Unit) => [some (.d (Enc.enc v_rule)), some (.d (Enc.enc v_row)), some (.d (Enc.enc v_k)), some (.d (Enc.enc v_room)), none, none, none, none, none, none])) rfl ?_
  rw [seqM_nil]
  refine z_ifE ?_ ?_ ?_ ?_
  · exact (j_cmpT (q_eq (by decide)) (JE.r (j_v 0 fun _ => rfl)) (JE.r (j_c rfl)))
  · exact (fun _ => trivial)
  ·
    refine z_ret (P := pD) (o := fun a => a) ?_ ?_ ?_
    · exact (j_bin q_ixL (JE.r (j_v 3 fun _ => rfl)) (JE.r (j_c rfl)))
    · exact (fun _ => trivial)
    · exact (fun a v t p => ⟨(fun z => by cases z), .inl ⟨_, rfl, p⟩⟩)
  refine z_ifE ?_ ?_ ?_ ?_
  · exact (j_cmpT (q_eq (by decide)) (JE.r (j_v 0 fun _ => rfl)) (JE.r (j_c rfl)))
  · exact (fun _ => trivial)
  ·
    refine z_ret (P := pD) (o := fun a => a) ?_ ?_ ?_
    · exact (j_bin q_ixL (JE.r (j_v 3 fun _ => rfl)) (JE.r (j_frzD (j_un q_negI (JE.r (j_c rfl))))))
    · exact (fun _ => trivial)
    · exact (fun a v t p => ⟨(fun z => by cases z), .inl ⟨_, rfl, p⟩⟩)
  refine z_setL 4 (E' := (fun (v_ages37 : (List (Option Int))) (t : Unit) => [some (.d (Enc.enc v_rule)), some (.d (Enc.enc v_row)), some (.d (Enc.enc v_k)), some (.d (Enc.enc v_room)), some (.ls false (v_ages37.map Enc.enc)), none, none, none, none, none])) ?_ ?_ ?_ ?_ ?_
  · exact (j_lc (Ei := fun (x36 : Int) => (fun (t : Unit) => [some (.d (Enc.enc v_rule)), some (.d (Enc.enc v_row)), some (.d (Enc.enc v_k)), some (.d (Enc.enc v_room)), none, none, none, some (.d (Enc.enc x36)), none, none])) (j_it (j_v 3 fun _ => rfl)) (fun t => any_1 rfl) (fun _ _ => rfl) (fun _ _ _ => rfl) (fun x36 => (J.ret rfl)) (fun x36 => (j_frzD (j_call4 c__law_place (j_v 1 fun _ => rfl) (j_v 7 fun _ => rfl) (j_frzD (j_bin q_subI (JE.r (j_v 2 fun _ => rfl)) (JE.r (j_c rfl)))) (j_frzD (j_un q_negI (JE.r (j_c rfl))))))))
  · exact (fun _ => trivial)
  · exact (fun _ => rfl)
  · exact (fun _ _ => rfl)
  intro v_ages37
  refine z_ifE ?_ ?_ ?_ ?_
  · exact (j_cmpT (q_eq (by decide)) (JE.r (j_v 0 fun _ => rfl)) (JE.r (j_c rfl)))
  · exact (fun _ => trivial)
  ·
    refine z_ret (P := pD) (o := fun a => a) ?_ ?_ ?_
    · exact (j_bin q_ixL (JE.r (j_v 3 fun _ => rfl)) (JE.r (j_look (q_index (by decide)) (j_vl 4 fun _ => rfl) (JE.r (j_some (j_frzD (j_bi1 q_minL (jr_lget (j_vl 4 fun _ => rfl)))))))))
    · exact (fun _ => trivial)
    · exact (fun a v t p => ⟨(fun z => by cases z), .inl ⟨_, rfl, p⟩⟩)
  refine z_ifE ?_ ?_ ?_ ?_
  · exact (j_cmpT (q_eq (by decide)) (JE.r (j_v 0 fun _ => rfl)) (JE.r (j_c rfl)))
  · exact (fun _ => trivial)
  ·
    refine z_ret (P := pD) (o := fun a => a) ?_ ?_ ?_
    · exact (j_bin q_ixL (JE.r (j_v 3 fun _ => rfl)) (JE.r (j_look (q_index (by decide)) (j_vl 4 fun _ => rfl) (JE.r (j_some (j_frzD (j_bi1 q_maxL (jr_lget (j_vl 4 fun _ => rfl)))))))))
    · exact (fun _ => trivial)
    · exact (fun a v t p => ⟨(fun z => by cases z), .inl ⟨_, rfl, p⟩⟩)
  refine z_ifE ?_ ?_ ?_ ?_
  · exact (j_cmpT (q_eq (by decide)) (JE.r (j_v 0 fun _ => rfl)) (JE.r (j_c rfl)))
  · exact (fun _ => trivial)
  ·
    rw [seqM_nil]
    refine z_setL 6 (E' := (fun (v_after39 : (List (Option Int))) (t : Unit) => [some (.d (Enc.enc v_rule)), some (.d (Enc.enc v_row)), some (.d (Enc.enc v_k)), some (.d (Enc.enc v_room)), some (.ls false (v_ages37.map Enc.enc)), none, some (.ls false (v_after39.map Enc.enc)), none, none, none])) ?_ ?_ ?_ ?_ ?_
    · exact (j_lc (Ei := fun (x38 : Int) => (fun (t : Unit) => [some (.d (Enc.enc v_rule)), some (.d (Enc.enc v_row)), some (.d (Enc.enc v_k)), some (.d (Enc.enc v_room)), some (.ls false (v_ages37.map Enc.enc)), none, none, some (.d (Enc.enc x38)), none, none])) (j_it (j_v 3 fun _ => rfl)) (fun t => any_1 rfl) (fun _ _ => rfl) (fun _ _ _ => rfl) (fun x38 => (J.ret rfl)) (fun x38 => (j_frzD (j_call4 c__law_place (j_v 1 fun _ => rfl) (j_v 7 fun _ => rfl) (j_v 2 fun _ => rfl) (j_len (JE.r (j_v 1 fun _ => rfl)))))))
    · exact (fun _ => trivial)
    · exact (fun _ => rfl)
    · exact (fun _ _ => rfl)
    intro v_after39
    refine z_ifE ?_ ?_ ?_ ?_
    · exact (j_cmpT (q_in (by decide)) (JE.r (j_noneO (α := Int) (j_c rfl))) (j_vl 6 fun _ => rfl))
    · exact (fun _ => trivial)
    ·
      refine z_ret (P := pD) (o := fun a => a) ?_ ?_ ?_
      · exact (j_bi1 q_minL (JE.r (j_frzL (j_lc (Ei := fun (x40 : Int) => (fun (t : Unit) => [some (.d (Enc.enc v_rule)), some (.d (Enc.enc v_row)), some (.d (Enc.enc v_k)), some (.d (Enc.enc v_room)), some (.ls false (v_ages37.map Enc.enc)), none, some (.ls false (v_after39.map Enc.enc)), none, some (.d (Enc.enc x40)), none])) (j_rg1 (j_len (JE.r (j_v 3 fun _ => rfl)))) (fun t => any_1 rfl) (fun _ _ => rfl) (fun _ _ _ => rfl) (fun x40 => (j_isNT (JE.r (j_frzD (j_bin q_ixL (j_vl 6 fun _ => rfl) (JE.r (j_v 8 fun _ => rfl))))))) (fun x40 => (j_frzD (j_bin q_ixL (JE.r (j_v 3 fun _ => rfl)) (JE.r (j_v 8 fun _ => rfl)))))))))
      · exact (fun _ => trivial)
      · exact (fun a v t p => ⟨(fun z => by cases z), ⟨(fun z => by cases z), .inl ⟨_, rfl, p⟩⟩⟩)
    refine z_last ?_
    refine z_ret (P := pD) (o := fun a => a) ?_ ?_ ?_
    · exact (j_bin q_ixL (JE.r (j_v 3 fun _ => rfl)) (JE.r (j_look (q_index (by decide)) (j_vl 6 fun _ => rfl) (JE.r (j_some (j_frzD (j_bi1 q_maxL (jr_lget (j_vl 6 fun _ => rfl)))))))))
    · exact (fun _ => trivial)
    · exact (fun a v t p => ⟨(fun z => by cases z), .inl ⟨_, rfl, p⟩⟩)
  refine z_setL 5 (E' := (fun (v_often43 : (List (T3 Int Int Int))) (t : Unit) => [some (.d (Enc.enc v_rule)), some (.d (Enc.enc v_row)), some (.d (Enc.enc v_k)), some (.d (Enc.enc v_room)), some (.ls false (v_ages37.map Enc.enc)), some (.ls false (v_often43.map Enc.enc)), none, none, none, none])) ?_ ?_ ?_ ?_ ?_
  · exact (j_lc (Ei := fun (x41 : Int) => (fun (t : Unit) => [some (.d (Enc.enc v_rule)), some (.d (Enc.enc v_row)), some (.d (Enc.enc v_k)), some (.d (Enc.enc v_room)), some (.ls false (v_ages37.map Enc.enc)), none, none, none, some (.d (Enc.enc x41)), none])) (j_rg1 (j_len (JE.r (j_v 3 fun _ => rfl)))) (fun t => any_1 rfl) (fun _ _ => rfl) (fun _ _ _ => rfl) (fun x41 => (J.ret rfl)) (fun x41 => (j_tup3 (j_len (JE.r (j_frzL (j_lc (Ei := fun (x42 : Int) => (fun (t : Unit) => [some (.d (Enc.enc v_rule)), some (.d (Enc.enc v_row)), some (.d (Enc.enc v_k)), some (.d (Enc.enc v_room)), some (.ls false (v_ages37.map Enc.enc)), none, none, none, some (.d (Enc.enc x41)), some (.d (Enc.enc x42))])) (j_it (j_frzL (j_slice (JE.r (j_v 1 fun _ => rfl)) j_pN (j_pS (JE.r (j_v 2 fun _ => rfl)))))) (fun t => any_1 rfl) (fun _ _ => rfl) (fun _ _ _ => rfl) (fun x42 => (j_cmpT (q_eq (by decide)) (JE.r (j_v 9 fun _ => rfl)) (JE.r (j_frzD (j_bin q_ixL (JE.r (j_v 3 fun _ => rfl)) (JE.r (j_v 8 fun _ => rfl))))))) (fun x42 => (j_v 9 fun _ => rfl)))))) (j_getO (j_frzD (j_bin q_ixL (j_vl 4 fun _ => rfl) (JE.r (j_v 8 fun _ => rfl))))) (j_frzD (j_bin q_ixL (JE.r (j_v 3 fun _ => rfl)) (JE.r (j_v 8 fun _ => rfl)))))))
  · exact (fun _ => trivial)
  · exact (fun _ => rfl)
  · exact (fun _ _ => rfl)
  intro v_often43
  refine z_last ?_
  refine z_ret (P := pD) (o := fun a => a) ?_ ?_ ?_
  · exact (j_p3c (JE.r (j_frzD (j_bi1 (q_minE (by decide)) (j_vl 5 fun _ => rfl)))))
  · exact (fun _ => trivial)
  · exact (fun a v t p => .inl ⟨_, rfl, p⟩)
/-! _law_walk -/
def B__law_walk_1 (v_row : (List Int)) (v_room : Int) (v_rule : Str) (x47 : Int) (s48 : (List Int) × (List Bool) × (List (Option Int))) : T Unit ((List Int) × (List Bool) × (List (Option Int))) :=
  (bd (bd (bd (bd (rt v_row) fun a => bd (rt x47) fun b => lo (atI a b)) fun a => bd (rt s48.1) fun b => lo (some (inL a b))) fun y => lo (appT s48.2.1 y)) fun v_found50 => (bd (bd (bd (rt ()) fun _ => rt (none : (Option Int))) fun y => lo (appT s48.2.2 y)) fun v_out51 => (bd (bd (bd (bd (rt v_row) fun a => bd (rt x47) fun b => lo (atI a b)) fun a => bd (rt s48.1) fun b => lo (some (!inL a b))) fun a => if a then (bd (rt v_room) fun a => bd (rt (0 : Int)) fun b => lo (some (decide (b < a)))) else rt false) fun k => if k then (bd (bd (bd (bd (rt s48.1) fun a => rt (a.length : Int)) fun a => bd (rt v_room) fun b => lo (some (eqT a b))) fun k => if k then (bd (bd (bd (rt v_rule) fun a => (bd (rt v_row) fun b => (bd (rt x47) fun c => (bd (rt s48.1) fun e => up (P__law_goes a b c e))))) fun a => rt (some a)) fun a => bd (rt x47) fun j => bd (lo (setT v_out51 j a)) fun v_out54 => (bd (bd (rt s48.1) fun xs => cmpG xs fun (x55 : Int) => bd (bd (bd (rt x55) fun a => rt (some a)) fun a => bd (bd (rt v_out54) fun a => bd (rt x47) fun b => lo (atI a b)) fun b => lo (some (!eqT a b))) fun b => if b then bd (rt x55) fun y => rt (some y) else rt none) fun v_there56 => (rt (v_there56, v_out54)))) else (rt (s48.1, v_out51))) fun (s52 : (List Int) × (List (Option Int))) => (bd (bd (bd (rt v_row) fun a => bd (rt x47) fun b => lo (atI a b)) fun y => lo (appT s52.1 y)) fun v_there57 => (rt (v_there57, v_found50, s52.2)))) else (rt (s48.1, v_found50, v_out51)))))
def P__law_walk (v_rule : Str) (v_room : Int) (v_row : (List Int)) : Rs (T3 (List Bool) (List (Option Int)) (List Int)) :=
  run1 (bd (bd (rt ([] : List Int)) fun as => lo (if as.length ≤ 1000 then some as else none)) fun v_there44 => (bd (bd (rt ([] : List Bool)) fun as => lo (if as.length ≤ 1000 then some as else none)) fun v_found45 => (bd (bd (rt ([] : List (Option Int))) fun as => lo (if as.length ≤ 1000 then some as else none)) fun v_out46 => (bd (bd (bd (rt v_row) fun a => rt (a.length : Int)) fun j => lo (if mid j then some (rng 0 j) else none)) fun xs => bd (lp (B__law_walk_1 v_row v_room v_rule) xs (v_there44, v_found45, v_out46)) fun (s48 : (List Int) × (List Bool) × (List (Option Int))) => (bd (bd (rt s48.2.1) fun a => bd (rt s48.2.2) fun b => bd (rt s48.1) fun c => rt (T3.mk a b c)) fun a => rt a)))))
theorem c__law_walk (v_rule : Str) (v_room : Int) (v_row : (List Int)) : CF pD (F__law_walk [.d (Enc.enc v_rule), .d (Enc.enc v_room), .d (Enc.enc v_row)]) 3 (P__law_walk v_rule v_room v_row) := by
  refine c_body (ds := [Enc.enc v_rule, Enc.enc v_room, Enc.enc v_row]) (E := (fun (t : Unit) => [some (.d (Enc.enc v_rule)), some (.d (Enc.enc v_room)), some (.d (Enc.enc v_row)), none, none, none, none, none])) rfl ?_
  rw [seqM_nil]
  refine z_setL 3 (E' := (fun (v_there44 : (List Int)) (t : Unit) => [some (.d (Enc.enc v_rule)), some (.d (Enc.enc v_room)), some (.d (Enc.enc v_row)), some (.ls false (v_there44.map Enc.enc)), none, none, none, none])) ?_ ?_ ?_ ?_ ?_
  · exact (j_lst j_nil)
  · exact (fun _ => trivial)
  · exact (fun _ => rfl)
  · exact (fun _ _ => rfl)
  intro v_there44
  refine z_setL 4 (E' := (fun (v_found45 : (List Bool)) (t : Unit) => [some (.d (Enc.enc v_rule)), some (.d (Enc.enc v_room)), some (.d (Enc.enc v_row)), some (.ls false (v_there44.map Enc.enc)), some (.ls false (v_found45.map Enc.enc)), none, none, none])) ?_ ?_ ?_ ?_ ?_
  · exact (j_lst j_nil)
  · exact (fun _ => trivial)
  · exact (fun _ => rfl)
  · exact (fun _ _ => rfl)
  intro v_found45
  refine z_setL 5 (E' := (fun (v_out46 : (List (Option Int))) (t : Unit) => [some (.d (Enc.enc v_rule)), some (.d (Enc.enc v_room)), some (.d (Enc.enc v_row)), some (.ls false (v_there44.map Enc.enc)), some (.ls false (v_found45.map Enc.enc)), some (.ls false (v_out46.map Enc.enc)), none, none])) ?_ ?_ ?_ ?_ ?_
  · exact (j_lst j_nil)
  · exact (fun _ => trivial)
  · exact (fun _ => rfl)
  · exact (fun _ _ => rfl)
  intro v_out46
  refine z_for (tg := .one 6) (s0 := (v_there44, v_found45, v_out46)) (fun (s48 : (List Int) × (List Bool) × (List (Option Int))) (j49 : Jk) (t : Unit) => [some (.d (Enc.enc v_rule)), some (.d (Enc.enc v_room)), some (.d (Enc.enc v_row)), some (.ls false (s48.1.map Enc.enc)), some (.ls false (s48.2.1.map Enc.enc)), some (.ls false (s48.2.2.map Enc.enc)), j49.1, none]) (EB := (fun (x47 : Int) (s48 : (List Int) × (List Bool) × (List (Option Int))) (j49 : Jk) (t : Unit) => [some (.d (Enc.enc v_rule)), some (.d (Enc.enc v_room)), some (.d (Enc.enc v_row)), some (.ls false (s48.1.map Enc.enc)), some (.ls false (s48.2.1.map Enc.enc)), some (.ls false (s48.2.2.map Enc.enc)), some (.d (Enc.enc x47)), none])) ?_ ?_ jk0 ?_ ?_ ?_ ?_
  · exact (j_rg1 (j_len (JE.r (j_v 2 fun _ => rfl))))
  · exact (fun _ => trivial)
  · exact (fun t => rfl)
  · exact (fun x47 s48 j49 t => put_1 j49.2 rfl)
  · intro x47 s48 j49
    unfold B__law_walk_1
    rw [seqM_nil]
    refine z_exprU (E' := (fun (v_found50 : (List Bool)) (t : Unit) => [some (.d (Enc.enc v_rule)), some (.d (Enc.enc v_room)), some (.d (Enc.enc v_row)), some (.ls false (s48.1.map Enc.enc)), some (.ls false (v_found50.map Enc.enc)), some (.ls false (s48.2.2.map Enc.enc)), some (.d (Enc.enc x47)), none])) ?_ ?_ ?_
    · exact (m_U 4 (b := false) (xs := s48.2.1) (E' := (fun (v_found50 : (List Bool)) (t : Unit) => [some (.d (Enc.enc v_rule)), some (.d (Enc.enc v_room)), some (.d (Enc.enc v_row)), some (.ls false (s48.1.map Enc.enc)), some (.ls false (v_found50.map Enc.enc)), some (.ls false (s48.2.2.map Enc.enc)), some (.d (Enc.enc x47)), none])) k_appT (fun _ => rfl) (a_1 (j_cmp (q_in (by decide)) (JE.r (j_frzD (j_bin q_ixL (JE.r (j_v 2 fun _ => rfl)) (JE.r (j_v 6 fun _ => rfl))))) (j_vl 3 fun _ => rfl))) (fun _ _ => rfl))
    · exact (fun _ => trivial)
    intro v_found50
    refine z_exprU (E' := (fun (v_out51 : (List (Option Int))) (t : Unit) => [some (.d (Enc.enc v_rule)), some (.d (Enc.enc v_room)), some (.d (Enc.enc v_row)), some (.ls false (s48.1.map Enc.enc)), some (.ls false (v_found50.map Enc.enc)), some (.ls false (v_out51.map Enc.enc)), some (.d (Enc.enc x47)), none])) ?_ ?_ ?_
    · exact (m_U 5 (b := false) (xs := s48.2.2) (E' := (fun (v_out51 : (List (Option Int))) (t : Unit) => [some (.d (Enc.enc v_rule)), some (.d (Enc.enc v_room)), some (.d (Enc.enc v_row)), some (.ls false (s48.1.map Enc.enc)), some (.ls false (v_found50.map Enc.enc)), some (.ls false (v_out51.map Enc.enc)), some (.d (Enc.enc x47)), none])) k_appT (fun _ => rfl) (a_1 (j_noneO (α := Int) (j_c rfl))) (fun _ _ => rfl))
    · exact (fun _ => trivial)
    intro v_out51
    refine z_last ?_
    refine z_if ?_ ?_ ?_ ?_
    · exact (j_and (j_cmpT (q_nin (by decide)) (JE.r (j_frzD (j_bin q_ixL (JE.r (j_v 2 fun _ => rfl)) (JE.r (j_v 6 fun _ => rfl))))) (j_vl 3 fun _ => rfl)) (j_cmpT q_gt (JE.r (j_v 1 fun _ => rfl)) (JE.r (j_c rfl))))
    · exact (fun _ => trivial)
    ·
      rw [seqM_nil]
      refine z_ifN (E' := (fun (s52 : (List Int) × (List (Option Int))) (j53 : Unit) (t : Unit) => [some (.d (Enc.enc v_rule)), some (.d (Enc.enc v_room)), some (.d (Enc.enc v_row)), some (.ls false (s52.1.map Enc.enc)), some (.ls false (v_found50.map Enc.enc)), some (.ls false (s52.2.map Enc.enc)), some (.d (Enc.enc x47)), none])) ?_ ?_ ?_ ?_ ?_
      · exact (j_cmpT (q_eq (by decide)) (JE.r (j_len (j_vl 3 fun _ => rfl))) (JE.r (j_v 1 fun _ => rfl)))
      · exact (fun _ => trivial)
      ·
        rw [seqM_nil]
        refine z_share 3 (E' := (fun (t : Unit) => [some (.d (Enc.enc v_rule)), some (.d (Enc.enc v_room)), some (.d (Enc.enc v_row)), some (.d (Enc.enc s48.1)), some (.ls false (v_found50.map Enc.enc)), some (.ls false (v_out51.map Enc.enc)), some (.d (Enc.enc x47)), none])) ?_ ?_
        · exact (fun _ => rfl)
        refine z_setIt 5 (b := false) (xs := v_out51) (E' := (fun (v_out54 : (List (Option Int))) (t : Unit) => [some (.d (Enc.enc v_rule)), some (.d (Enc.enc v_room)), some (.d (Enc.enc v_row)), some (.d (Enc.enc s48.1)), some (.ls false (v_found50.map Enc.enc)), some (.ls false (v_out54.map Enc.enc)), some (.d (Enc.enc x47)), none])) ?_ ?_ ?_ ?_ ?_ ?_
        · exact (fun _ => rfl)
        · exact (j_some (j_frzD (j_call4 c__law_goes (j_v 0 fun _ => rfl) (j_v 2 fun _ => rfl) (j_v 6 fun _ => rfl) (j_v 3 fun _ => rfl))))
        · exact (JE.r (j_v 6 fun _ => rfl))
        · exact (fun _ => trivial)
        · exact (fun _ _ => rfl)
        intro v_out54
        refine z_last ?_
        refine z_share 3 (E' := (fun (t : Unit) => [some (.d (Enc.enc v_rule)), some (.d (Enc.enc v_room)), some (.d (Enc.enc v_row)), some (.d (Enc.enc s48.1)), some (.ls false (v_found50.map Enc.enc)), some (.ls false (v_out54.map Enc.enc)), some (.d (Enc.enc x47)), none])) ?_ ?_
        · exact (fun _ => rfl)
        refine z_setL 3 (E' := (fun (v_there56 : (List Int)) (t : Unit) => [some (.d (Enc.enc v_rule)), some (.d (Enc.enc v_room)), some (.d (Enc.enc v_row)), some (.ls false (v_there56.map Enc.enc)), some (.ls false (v_found50.map Enc.enc)), some (.ls false (v_out54.map Enc.enc)), some (.d (Enc.enc x47)), none])) ?_ ?_ ?_ ?_ ?_
        · exact (j_lc (Ei := fun (x55 : Int) => (fun (t : Unit) => [some (.d (Enc.enc v_rule)), some (.d (Enc.enc v_room)), some (.d (Enc.enc v_row)), some (.d (Enc.enc s48.1)), some (.ls false (v_found50.map Enc.enc)), some (.ls false (v_out54.map Enc.enc)), some (.d (Enc.enc x47)), some (.d (Enc.enc x55))])) (j_it (j_v 3 fun _ => rfl)) (fun t => any_1 rfl) (fun _ _ => rfl) (fun _ _ _ => rfl) (fun x55 => (j_cmpT (q_ne (by decide)) (JE.r (j_some (j_v 7 fun _ => rfl))) (JE.r (j_frzD (j_bin q_ixL (j_vl 5 fun _ => rfl) (JE.r (j_v 6 fun _ => rfl))))))) (fun x55 => (j_v 7 fun _ => rfl)))
        · exact (fun _ => trivial)
        · exact (fun _ => rfl)
        · exact (fun _ _ => rfl)
        intro v_there56
        exact z_nil (fun t => ⟨rfl, (), rfl⟩)
      ·
        refine z_pass ?_
        exact z_nil (fun t => ⟨rfl, (), rfl⟩)
      intro s52 j53
      refine z_last ?_
      refine z_exprU (E' := (fun (v_there57 : (List Int)) (t : Unit) => [some (.d (Enc.enc v_rule)), some (.d (Enc.enc v_room)), some (.d (Enc.enc v_row)), some (.ls false (v_there57.map Enc.enc)), some (.ls false (v_found50.map Enc.enc)), some (.ls false (s52.2.map Enc.enc)), some (.d (Enc.enc x47)), none])) ?_ ?_ ?_
      · exact (m_U 3 (b := false) (xs := s52.1) (E' := (fun (v_there57 : (List Int)) (t : Unit) => [some (.d (Enc.enc v_rule)), some (.d (Enc.enc v_room)), some (.d (Enc.enc v_row)), some (.ls false (v_there57.map Enc.enc)), some (.ls false (v_found50.map Enc.enc)), some (.ls false (s52.2.map Enc.enc)), some (.d (Enc.enc x47)), none])) k_appT (fun _ => rfl) (a_1 (j_frzD (j_bin q_ixL (JE.r (j_v 2 fun _ => rfl)) (JE.r (j_v 6 fun _ => rfl))))) (fun _ _ => rfl))
      · exact (fun _ => trivial)
      intro v_there57
      exact z_nil (fun t => ⟨.inl rfl, (jkd (Enc.enc x47)), rfl⟩)
    ·
      refine z_pass ?_
      exact z_nil (fun t => ⟨.inl rfl, (jkd (Enc.enc x47)), rfl⟩)
  intro s48 j49
  refine z_last ?_
  refine z_share 4 (E' := (fun (t : Unit) => [some (.d (Enc.enc v_rule)), some (.d (Enc.enc v_room)), some (.d (Enc.enc v_row)), some (.ls false (s48.1.map Enc.enc)), some (.d (Enc.enc s48.2.1)), some (.ls false (s48.2.2.map Enc.enc)), j49.1, none])) ?_ ?_
  · exact (fun _ => rfl)
  refine z_share 5 (E' := (fun (t : Unit) => [some (.d (Enc.enc v_rule)), some (.d (Enc.enc v_room)), some (.d (Enc.enc v_row)), some (.ls false (s48.1.map Enc.enc)), some (.d (Enc.enc s48.2.1)), some (.d (Enc.enc s48.2.2)), j49.1, none])) ?_ ?_
  · exact (fun _ => rfl)
  refine z_share 3 (E' := (fun (t : Unit) => [some (.d (Enc.enc v_rule)), some (.d (Enc.enc v_room)), some (.d (Enc.enc v_row)), some (.d (Enc.enc s48.1)), some (.d (Enc.enc s48.2.1)), some (.d (Enc.enc s48.2.2)), j49.1, none])) ?_ ?_
  · exact (fun _ => rfl)
  refine z_ret (P := pD) (o := fun a => a) ?_ ?_ ?_
  · exact (j_data (j_tup3 (j_v 4 fun _ => rfl) (j_v 5 fun _ => rfl) (j_v 3 fun _ => rfl)))
  · exact (fun _ => trivial)
  · exact (fun a v t p => .inl ⟨_, rfl, p⟩)
/-! look_stacked -/
def P_look_stacked (v_rule : Str) : Rs Unit :=
  run1 (bd (bd (rt v_rule) fun a => up (P_look_rule a)) fun _u1 => (bd (bd (rt v_rule) fun a => bd (rt (Tu.mk l_STACKED)) fun b => lo (some (!inL a b.l))) fun k => if k then (erT 2) else (rt ())))
theorem c_look_stacked (v_rule : Str) : CF pD (F_look_stacked [.d (Enc.enc v_rule)]) 1 (P_look_stacked v_rule) := by
  refine c_body (ds := [Enc.enc v_rule]) (E := (fun (t : Unit) => [some (.d (Enc.enc v_rule))])) rfl ?_
  rw [seqM_nil]
  refine z_expr (P := pD) ?_ ?_ ?_
  · exact (j_call1 c_look_rule (j_v 0 fun _ => rfl))
  · exact (fun _ => trivial)
  intro _u1
  refine z_last ?_
  refine z_if ?_ ?_ ?_ ?_
  · exact (j_cmpT (q_ninU (by decide)) (JE.r (j_v 0 fun _ => rfl)) (JE.r (j_c rfl)))
  · exact (fun _ => trivial)
  ·
    exact z_raise (fun _ => trivial)
  ·
    refine z_pass ?_
    exact z_nil (fun t => .inr ⟨rfl, by first | rfl | exact .inl rfl⟩)
/-! rank -/
def P_rank (v_rule : Str) (v_row : (List Int)) (v_k : Int) (v_name : Int) : Rs (Int × Int) :=
  run1 (bd (bd (rt v_rule) fun a => bd (rt ("last" : Str)) fun b => lo (some (eqT a b))) fun k => if k then (bd (bd (bd (rt v_row) fun a => (bd (rt v_k) fun b => (bd (rt v_name) fun c => up (P_last_of a b c)))) fun a => bd (rt (0 : Int)) fun b => rt (a, b)) fun a => rt a) else (bd (bd (rt v_rule) fun a => bd (rt ("first" : Str)) fun b => lo (some (eqT a b))) fun k => if k then (bd (bd (bd (rt (0 : Int)) fun a => bd (bd (rt v_row) fun a => (bd (rt v_k) fun b => (bd (rt v_name) fun c => up (P_last_of a b c)))) fun b => lo (some (a - b))) fun a => bd (rt (0 : Int)) fun b => rt (a, b)) fun a => rt a) else (bd (bd (rt v_rule) fun a => bd (rt ("young" : Str)) fun b => lo (some (eqT a b))) fun k => if k then (bd (bd (bd (rt (0 : Int)) fun a => bd (bd (rt v_row) fun a => (bd (rt (0 : Int)) fun b => (bd (rt v_name) fun c => up (P_next_of a b c)))) fun b => lo (some (a - b))) fun a => bd (rt (0 : Int)) fun b => rt (a, b)) fun a => rt a) else (bd (bd (rt v_rule) fun a => bd (rt ("far" : Str)) fun b => lo (some (eqT a b))) fun k => if k then (bd (bd (bd (rt (0 : Int)) fun a => bd (bd (rt v_row) fun a => (bd (rt v_k) fun b => (bd (rt v_name) fun c => up (P_next_of a b c)))) fun b => lo (some (a - b))) fun a => bd (rt v_name) fun b => rt (a, b)) fun a => rt a) else (bd (bd (bd (bd (rt v_row) fun a => bd (rt none) fun i => bd (bd (rt v_k) fun i => rt (some i)) fun j => rt (cut a i j)) fun a => bd (rt v_name) fun b => lo (some (cnt a b))) fun a => bd (bd (rt v_row) fun a => (bd (rt v_k) fun b => (bd (rt v_name) fun c => up (P_last_of a b c)))) fun b => rt (a, b)) fun a => rt a)))))
theorem c_rank (v_rule : Str) (v_row : (List Int)) (v_k : Int) (v_name : Int) : CF pD (F_rank [.d (Enc.enc v_rule), .d (Enc.enc v_row), .d (Enc.enc v_k), .d (Enc.enc v_name)]) 4 (P_rank v_rule v_row v_k v_name) := by
  refine c_body (ds := [Enc.enc v_rule, Enc.enc v_row, Enc.enc v_k, Enc.enc v_name]) (E := (fun (t : Unit) => [some (.d (Enc.enc v_rule)), some (.d (Enc.enc v_row)), some (.d (Enc.enc v_k)), some (.d (Enc.enc v_name))])) rfl ?_
  rw [seqM_nil]
  refine z_ifE ?_ ?_ ?_ ?_
  · exact (j_cmpT (q_eq (by decide)) (JE.r (j_v 0 fun _ => rfl)) (JE.r (j_c rfl)))
  · exact (fun _ => trivial)
  ·
    refine z_ret (P := pD) (o := fun a => a) ?_ ?_ ?_
    · exact (j_data (j_tup2 (j_frzD (j_call3 c_last_of (j_v 1 fun _ => rfl) (j_v 2 fun _ => rfl) (j_v 3 fun _ => rfl))) (j_c rfl)))
    · exact (fun _ => trivial)
    · exact (fun a v t p => ⟨(fun z => by cases z), .inl ⟨_, rfl, p⟩⟩)
  refine z_ifE ?_ ?_ ?_ ?_
  · exact (j_cmpT (q_eq (by decide)) (JE.r (j_v 0 fun _ => rfl)) (JE.r (j_c rfl)))
  · exact (fun _ => trivial)
  ·
    refine z_ret (P := pD) (o := fun a => a) ?_ ?_ ?_
    · exact (j_data (j_tup2 (j_frzD (j_bin q_subI (JE.r (j_c rfl)) (JE.r (j_frzD (j_call3 c_last_of (j_v 1 fun _ => rfl) (j_v 2 fun _ => rfl) (j_v 3 fun _ => rfl)))))) (j_c rfl)))
    · exact (fun _ => trivial)
    · exact (fun a v t p => ⟨(fun z => by cases z), .inl ⟨_, rfl, p⟩⟩)
  refine z_ifE ?_ ?_ ?_ ?_
  · exact (j_cmpT (q_eq (by decide)) (JE.r (j_v 0 fun _ => rfl)) (JE.r (j_c rfl)))
  · exact (fun _ => trivial)
  ·
    refine z_ret (P := pD) (o := fun a => a) ?_ ?_ ?_
    · exact (j_data (j_tup2 (j_frzD (j_bin q_subI (JE.r (j_c rfl)) (JE.r (j_frzD (j_call3 c_next_of (j_v 1 fun _ => rfl) (j_c rfl) (j_v 3 fun _ => rfl)))))) (j_c rfl)))
    · exact (fun _ => trivial)
    · exact (fun a v t p => ⟨(fun z => by cases z), .inl ⟨_, rfl, p⟩⟩)
  refine z_ifE ?_ ?_ ?_ ?_
  · exact (j_cmpT (q_eq (by decide)) (JE.r (j_v 0 fun _ => rfl)) (JE.r (j_c rfl)))
  · exact (fun _ => trivial)
  ·
    refine z_ret (P := pD) (o := fun a => a) ?_ ?_ ?_
    · exact (j_data (j_tup2 (j_frzD (j_bin q_subI (JE.r (j_c rfl)) (JE.r (j_frzD (j_call3 c_next_of (j_v 1 fun _ => rfl) (j_v 2 fun _ => rfl) (j_v 3 fun _ => rfl)))))) (j_v 3 fun _ => rfl)))
    · exact (fun _ => trivial)
    · exact (fun a v t p => ⟨(fun z => by cases z), .inl ⟨_, rfl, p⟩⟩)
  refine z_last ?_
  refine z_ret (P := pD) (o := fun a => a) ?_ ?_ ?_
  · exact (j_data (j_tup2 (j_look (q_count (by decide)) (JE.r (j_frzL (j_slice (JE.r (j_v 1 fun _ => rfl)) j_pN (j_pS (JE.r (j_v 2 fun _ => rfl)))))) (JE.r (j_v 3 fun _ => rfl))) (j_frzD (j_call3 c_last_of (j_v 1 fun _ => rfl) (j_v 2 fun _ => rfl) (j_v 3 fun _ => rfl)))))
  · exact (fun _ => trivial)
  · exact (fun a v t p => .inl ⟨_, rfl, p⟩)
/-! moved -/
def B_moved_1 (v_name2 : Int) (v_rule : Str) (v_row : (List Int)) (v_k : Int) (x5 : Int) (s6 : (List Int) × (Option Int)) : T Unit (Lx ((List Int) × (Option Int)) (List Int)) :=
  (bd (bd (rt x5) fun a => bd (rt v_name2) fun b => lo (some (eqT a b))) fun k => if k then (rt (Lx.bk (s6.1, s6.2))) else (bd (bd (rt s6.2) fun a => rt (isNoneT a)) fun k => if k then (bd (bd (rt x5) fun a => rt (some a)) fun v_carried8 => (rt (Lx.nx (s6.1, v_carried8)))) else (bd (bd (bd (rt v_rule) fun a => (bd (rt v_row) fun b => (bd (rt v_k) fun c => (bd (rt x5) fun e => up (P_rank a b c e))))) fun a => bd (bd (rt v_rule) fun a => (bd (rt v_row) fun b => (bd (rt v_k) fun c => (bd (bd (rt s6.2) fun a => lo a) fun e => up (P_rank a b c e))))) fun b => lo (some (lt2 a b))) fun k => if k then (bd (bd (bd (rt s6.2) fun a => lo a) fun y => lo (appT s6.1 y)) fun v_found9 => (bd (bd (rt x5) fun a => rt (some a)) fun v_carried10 => (rt (Lx.nx (v_found9, v_carried10))))) else (bd (bd (rt x5) fun y => lo (appT s6.1 y)) fun v_found11 => (rt (Lx.nx (v_found11, s6.2)))))))
def P_moved (v_rule : Str) (v_row : (List Int)) (v_k : Int) (v_stack : (List Int)) : Rs (List Int) :=
  run1 (bd (bd (rt v_row) fun a => bd (rt v_k) fun b => lo (atI a b)) fun v_name2 => (bd (bd (bd (rt v_name2) fun a => bd (rt ([] : List Int)) fun as => rt (a :: as)) fun as => lo (if as.length ≤ 1000 then some as else none)) fun v_found3 => (bd (bd (rt ()) fun _ => rt (none : (Option Int))) fun v_carried4 => (bd (rt v_stack) fun xs => bd (lpx (B_moved_1 v_name2 v_rule v_row v_k) xs (v_found3, v_carried4)) (orK fun (s6 : (List Int) × (Option Int)) => (bd (bd (bd (rt s6.2) fun a => rt (!isNoneT a)) fun k => if k then (bd (bd (bd (rt s6.2) fun a => lo a) fun y => lo (appT s6.1 y)) fun v_found14 => (rt v_found14)) else (rt s6.1)) fun (s12 : (List Int)) => (bd (bd (rt s12) fun a => bd (bd (rt v_stack) fun a => bd (bd (bd (rt s12) fun a => rt (a.length : Int)) fun i => rt (some i)) fun i => bd (rt none) fun j => rt (cut a i j)) fun b => lo (addL a b)) fun a => rt a)))))))
theorem c_moved (v_rule : Str) (v_row : (List Int)) (v_k : Int) (v_stack : (List Int)) : CF pL (F_moved [.d (Enc.enc v_rule), .d (Enc.enc v_row), .d (Enc.enc v_k), .d (Enc.enc v_stack)]) 4 (P_moved v_rule v_row v_k v_stack) := by
  refine c_body (ds := [Enc.enc v_rule, Enc.enc v_row, Enc.enc v_k, Enc.enc v_stack]) (E := (fun (t : Unit) => [some (.d (Enc.enc v_rule)), some (.d (Enc.enc v_row)), some (.d (Enc.enc v_k)), some (.d (Enc.enc v_stack)), none, none, none, none])) rfl ?_
  rw [seqM_nil]
  refine z_setD 4 (E' := (fun (v_name2 : Int) (t : Unit) => [some (.d (Enc.enc v_rule)), some (.d (Enc.enc v_row)), some (.d (Enc.enc v_k)), some (.d (Enc.enc v_stack)), some (.d (Enc.enc v_name2)), none, none, none])) ?_ ?_ ?_ ?_ ?_
  · exact (j_bin q_ixL (JE.r (j_v 1 fun _ => rfl)) (JE.r (j_v 2 fun _ => rfl)))
  · exact (fun _ => trivial)
  · exact (fun _ => rfl)
  · exact (fun _ _ => rfl)
  intro v_name2
  refine z_setL 5 (E' := (fun (v_found3 : (List Int)) (t : Unit) => [some (.d (Enc.enc v_rule)), some (.d (Enc.enc v_row)), some (.d (Enc.enc v_k)), some (.d (Enc.enc v_stack)), some (.d (Enc.enc v_name2)), some (.ls false (v_found3.map Enc.enc)), none, none])) ?_ ?_ ?_ ?_ ?_
  · exact (j_lst (j_cons (j_v 4 fun _ => rfl) j_nil))
  · exact (fun _ => trivial)
  · exact (fun _ => rfl)
  · exact (fun _ _ => rfl)
  intro v_found3
  refine z_setD 6 (E' := (fun (v_carried4 : (Option Int)) (t : Unit) => [some (.d (Enc.enc v_rule)), some (.d (Enc.enc v_row)), some (.d (Enc.enc v_k)), some (.d (Enc.enc v_stack)), some (.d (Enc.enc v_name2)), some (.ls false (v_found3.map Enc.enc)), some (.d (Enc.enc v_carried4)), none])) ?_ ?_ ?_ ?_ ?_
  · exact (jd_noneO (α := Int) (j_data (j_c rfl)))
  · exact (fun _ => trivial)
  · exact (fun _ => rfl)
  · exact (fun _ _ => rfl)
  intro v_carried4
  refine z_forX (tg := .one 7) (s0 := (v_found3, v_carried4)) (fun (s6 : (List Int) × (Option Int)) (j7 : Jk) (t : Unit) => [some (.d (Enc.enc v_rule)), some (.d (Enc.enc v_row)), some (.d (Enc.enc v_k)), some (.d (Enc.enc v_stack)), some (.d (Enc.enc v_name2)), some (.ls false (s6.1.map Enc.enc)), some (.d (Enc.enc s6.2)), j7.1]) (EB := (fun (x5 : Int) (s6 : (List Int) × (Option Int)) (j7 : Jk) (t : Unit) => [some (.d (Enc.enc v_rule)), some (.d (Enc.enc v_row)), some (.d (Enc.enc v_k)), some (.d (Enc.enc v_stack)), some (.d (Enc.enc v_name2)), some (.ls false (s6.1.map Enc.enc)), some (.d (Enc.enc s6.2)), some (.d (Enc.enc x5))])) ?_ ?_ jk0 ?_ ?_ ?_ ?_
  · exact (j_it (j_v 3 fun _ => rfl))
  · exact (fun _ => trivial)
  · exact (fun t => rfl)
  · exact (fun x5 s6 j7 t => put_1 j7.2 rfl)
  · intro x5 s6 j7
    unfold B_moved_1
    rw [seqM_nil]
    refine z_ifE ?_ ?_ ?_ ?_
    · exact (j_cmpT (q_eq (by decide)) (JE.r (j_v 7 fun _ => rfl)) (JE.r (j_v 4 fun _ => rfl)))
    · exact (fun _ => trivial)
    ·
      exact z_bk (fun t => ⟨(fun z => by cases z), ⟨rfl, (jkd (Enc.enc x5)), rfl⟩⟩)
    refine z_last ?_
    refine z_if ?_ ?_ ?_ ?_
    · exact (j_isNT (JE.r (j_v 6 fun _ => rfl)))
    · exact (fun _ => trivial)
    ·
      refine z_setD 6 (E' := (fun (v_carried8 : (Option Int)) (t : Unit) => [some (.d (Enc.enc v_rule)), some (.d (Enc.enc v_row)), some (.d (Enc.enc v_k)), some (.d (Enc.enc v_stack)), some (.d (Enc.enc v_name2)), some (.ls false (s6.1.map Enc.enc)), some (.d (Enc.enc v_carried8)), some (.d (Enc.enc x5))])) ?_ ?_ ?_ ?_ ?_
      · exact (jd_some (j_data (j_v 7 fun _ => rfl)))
      · exact (fun _ => trivial)
      · exact (fun _ => rfl)
      · exact (fun _ _ => rfl)
      intro v_carried8
      exact z_nil (fun t => ⟨.inl rfl, (jkd (Enc.enc x5)), rfl⟩)
    ·
      refine z_if ?_ ?_ ?_ ?_
      · exact (j_cmpT q_ltT (JE.r (j_frzD (j_call4 c_rank (j_v 0 fun _ => rfl) (j_v 1 fun _ => rfl) (j_v 2 fun _ => rfl) (j_v 7 fun _ => rfl)))) (JE.r (j_frzD (j_call4 c_rank (j_v 0 fun _ => rfl) (j_v 1 fun _ => rfl) (j_v 2 fun _ => rfl) (j_getO (j_v 6 fun _ => rfl))))))
      · exact (fun _ => trivial)
      ·
        rw [seqM_nil]
        refine z_exprU (E' := (fun (v_found9 : (List Int)) (t : Unit) => [some (.d (Enc.enc v_rule)), some (.d (Enc.enc v_row)), some (.d (Enc.enc v_k)), some (.d (Enc.enc v_stack)), some (.d (Enc.enc v_name2)), some (.ls false (v_found9.map Enc.enc)), some (.d (Enc.enc s6.2)), some (.d (Enc.enc x5))])) ?_ ?_ ?_
        · exact (m_U 5 (b := false) (xs := s6.1) (E' := (fun (v_found9 : (List Int)) (t : Unit) => [some (.d (Enc.enc v_rule)), some (.d (Enc.enc v_row)), some (.d (Enc.enc v_k)), some (.d (Enc.enc v_stack)), some (.d (Enc.enc v_name2)), some (.ls false (v_found9.map Enc.enc)), some (.d (Enc.enc s6.2)), some (.d (Enc.enc x5))])) k_appT (fun _ => rfl) (a_1 (j_getO (j_v 6 fun _ => rfl))) (fun _ _ => rfl))
        · exact (fun _ => trivial)
        intro v_found9
        refine z_last ?_
        refine z_setD 6 (E' := (fun (v_carried10 : (Option Int)) (t : Unit) => [some (.d (Enc.enc v_rule)), some (.d (Enc.enc v_row)), some (.d (Enc.enc v_k)), some (.d (Enc.enc v_stack)), some (.d (Enc.enc v_name2)), some (.ls false (v_found9.map Enc.enc)), some (.d (Enc.enc v_carried10)), some (.d (Enc.enc x5))])) ?_ ?_ ?_ ?_ ?_
        · exact (jd_some (j_data (j_v 7 fun _ => rfl)))
        · exact (fun _ => trivial)
        · exact (fun _ => rfl)
        · exact (fun _ _ => rfl)
        intro v_carried10
        exact z_nil (fun t => ⟨.inl rfl, (jkd (Enc.enc x5)), rfl⟩)
      ·
        refine z_exprU (E' := (fun (v_found11 : (List Int)) (t : Unit) => [some (.d (Enc.enc v_rule)), some (.d (Enc.enc v_row)), some (.d (Enc.enc v_k)), some (.d (Enc.enc v_stack)), some (.d (Enc.enc v_name2)), some (.ls false (v_found11.map Enc.enc)), some (.d (Enc.enc s6.2)), some (.d (Enc.enc x5))])) ?_ ?_ ?_
        · exact (m_U 5 (b := false) (xs := s6.1) (E' := (fun (v_found11 : (List Int)) (t : Unit) => [some (.d (Enc.enc v_rule)), some (.d (Enc.enc v_row)), some (.d (Enc.enc v_k)), some (.d (Enc.enc v_stack)), some (.d (Enc.enc v_name2)), some (.ls false (v_found11.map Enc.enc)), some (.d (Enc.enc s6.2)), some (.d (Enc.enc x5))])) k_appT (fun _ => rfl) (a_1 (j_v 7 fun _ => rfl)) (fun _ _ => rfl))
        · exact (fun _ => trivial)
        intro v_found11
        exact z_nil (fun t => ⟨.inl rfl, (jkd (Enc.enc x5)), rfl⟩)
  intro s6 j7
  refine z_ifN (E' := (fun (s12 : (List Int)) (j13 : Jk) (t : Unit) => [some (.d (Enc.enc v_rule)), some (.d (Enc.enc v_row)), some (.d (Enc.enc v_k)), some (.d (Enc.enc v_stack)), some (.d (Enc.enc v_name2)), some (.ls false (s12.map Enc.enc)), some (.d (Enc.enc s6.2)), j13.1])) ?_ ?_ ?_ ?_ ?_
  · exact (j_ntNT (JE.r (j_v 6 fun _ => rfl)))
  · exact (fun _ => trivial)
  ·
    refine z_exprU (E' := (fun (v_found14 : (List Int)) (t : Unit) => [some (.d (Enc.enc v_rule)), some (.d (Enc.enc v_row)), some (.d (Enc.enc v_k)), some (.d (Enc.enc v_stack)), some (.d (Enc.enc v_name2)), some (.ls false (v_found14.map Enc.enc)), some (.d (Enc.enc s6.2)), j7.1])) ?_ ?_ ?_
    · exact (m_U 5 (b := false) (xs := s6.1) (E' := (fun (v_found14 : (List Int)) (t : Unit) => [some (.d (Enc.enc v_rule)), some (.d (Enc.enc v_row)), some (.d (Enc.enc v_k)), some (.d (Enc.enc v_stack)), some (.d (Enc.enc v_name2)), some (.ls false (v_found14.map Enc.enc)), some (.d (Enc.enc s6.2)), j7.1])) k_appT (fun _ => rfl) (a_1 (j_getO (j_v 6 fun _ => rfl))) (fun _ _ => rfl))
    · exact (fun _ => trivial)
    intro v_found14
    exact z_nil (fun t => ⟨rfl, j7, rfl⟩)
  ·
    refine z_pass ?_
    exact z_nil (fun t => ⟨rfl, j7, rfl⟩)
  intro s12 j13
  refine z_last ?_
  refine z_ret (P := pL) (o := fun a => a) ?_ ?_ ?_
  · exact (j_bin q_addL (j_vl 5 fun _ => rfl) (JE.r (j_frzL (j_slice (JE.r (j_v 3 fun _ => rfl)) (j_pS (JE.r (j_len (j_vl 5 fun _ => rfl)))) j_pN))))
  · exact (fun _ => trivial)
  · exact (fun a v t p => .inl ⟨_, rfl, p⟩)
/-! walked -/
def B_walked_1 (v_row : (List Int)) (v_rule : Str) (x17 : Int) (s18 : (List Int) × (List (Option Int))) : T Unit ((List Int) × (List (Option Int))) :=
  (bd (bd (bd (bd (bd (rt v_row) fun a => bd (rt x17) fun b => lo (atI a b)) fun a => bd (rt s18.1) fun b => lo (some (inL a b))) fun k => if k then (bd (bd (bd (rt s18.1) fun a => bd (bd (rt v_row) fun a => bd (rt x17) fun b => lo (atI a b)) fun b => lo (idxT a b)) fun a => bd (rt (1 : Int)) fun b => lo (some (a + b))) fun a => rt (some a)) else (bd (rt ()) fun _ => rt (none : (Option Int)))) fun y => lo (appT s18.2 y)) fun v_found20 => (bd (bd (rt v_rule) fun a => (bd (rt v_row) fun b => (bd (rt x17) fun c => (bd (rt s18.1) fun e => up (P_moved a b c e))))) fun v_stack21 => (rt (v_stack21, v_found20))))
def P_walked (v_rule : Str) (v_row : (List Int)) : Rs ((List (Option Int)) × (List Int)) :=
  run1 (bd (bd (rt ([] : List Int)) fun as => lo (if as.length ≤ 1000 then some as else none)) fun v_stack15 => (bd (bd (rt ([] : List (Option Int))) fun as => lo (if as.length ≤ 1000 then some as else none)) fun v_found16 => (bd (bd (bd (rt v_row) fun a => rt (a.length : Int)) fun j => lo (if mid j then some (rng 0 j) else none)) fun xs => bd (lp (B_walked_1 v_row v_rule) xs (v_stack15, v_found16)) fun (s18 : (List Int) × (List (Option Int))) => (bd (bd (rt s18.2) fun a => bd (rt s18.1) fun b => rt (a, b)) fun a => rt a))))
theorem c_walked (v_rule : Str) (v_row : (List Int)) : CF pD (F_walked [.d (Enc.enc v_rule), .d (Enc.enc v_row)]) 2 (P_walked v_rule v_row) := by
  refine c_body (ds := [Enc.enc v_rule, Enc.enc v_row]) (E := (fun (t : Unit) => [some (.d (Enc.enc v_rule)), some (.d (Enc.enc v_row)), none, none, none])) rfl ?_
  rw [seqM_nil]
  refine z_setL 2 (E' := (fun (v_stack15 : (List Int)) (t : Unit) => [some (.d (Enc.enc v_rule)), some (.d (Enc.enc v_row)), some (.ls false (v_stack15.map Enc.enc)), none, none])) ?_ ?_ ?_ ?_ ?_
  · exact (j_lst j_nil)
  · exact (fun _ => trivial)
  · exact (fun _ => rfl)
  · exact (fun _ _ => rfl)
  intro v_stack15
  refine z_setL 3 (E' := (fun (v_found16 : (List (Option Int))) (t : Unit) => [some (.d (Enc.enc v_rule)), some (.d (Enc.enc v_row)), some (.ls false (v_stack15.map Enc.enc)), some (.ls false (v_found16.map Enc.enc)), none])) ?_ ?_ ?_ ?_ ?_
  · exact (j_lst j_nil)
  · exact (fun _ => trivial)
  · exact (fun _ => rfl)
  · exact (fun _ _ => rfl)
  intro v_found16
  refine z_for (tg := .one 4) (s0 := (v_stack15, v_found16)) (fun (s18 : (List Int) × (List (Option Int))) (j19 : Jk) (t : Unit) => [some (.d (Enc.enc v_rule)), some (.d (Enc.enc v_row)), some (.ls false (s18.1.map Enc.enc)), some (.ls false (s18.2.map Enc.enc)), j19.1]) (EB := (fun (x17 : Int) (s18 : (List Int) × (List (Option Int))) (j19 : Jk) (t : Unit) => [some (.d (Enc.enc v_rule)), some (.d (Enc.enc v_row)), some (.ls false (s18.1.map Enc.enc)), some (.ls false (s18.2.map Enc.enc)), some (.d (Enc.enc x17))])) ?_ ?_ jk0 ?_ ?_ ?_ ?_
  · exact (j_rg1 (j_len (JE.r (j_v 1 fun _ => rfl))))
  · exact (fun _ => trivial)
  · exact (fun t => rfl)
  · exact (fun x17 s18 j19 t => put_1 j19.2 rfl)
  · intro x17 s18 j19
    unfold B_walked_1
    rw [seqM_nil]
    refine z_exprU (E' := (fun (v_found20 : (List (Option Int))) (t : Unit) => [some (.d (Enc.enc v_rule)), some (.d (Enc.enc v_row)), some (.ls false (s18.1.map Enc.enc)), some (.ls false (v_found20.map Enc.enc)), some (.d (Enc.enc x17))])) ?_ ?_ ?_
    · exact (m_U 3 (b := false) (xs := s18.2) (E' := (fun (v_found20 : (List (Option Int))) (t : Unit) => [some (.d (Enc.enc v_rule)), some (.d (Enc.enc v_row)), some (.ls false (s18.1.map Enc.enc)), some (.ls false (v_found20.map Enc.enc)), some (.d (Enc.enc x17))])) k_appT (fun _ => rfl) (a_1 (j_if (j_cmpT (q_in (by decide)) (JE.r (j_frzD (j_bin q_ixL (JE.r (j_v 1 fun _ => rfl)) (JE.r (j_v 4 fun _ => rfl))))) (j_vl 2 fun _ => rfl)) (j_some (j_frzD (j_bin q_addI (JE.r (j_look (q_index (by decide)) (j_vl 2 fun _ => rfl) (JE.r (j_frzD (j_bin q_ixL (JE.r (j_v 1 fun _ => rfl)) (JE.r (j_v 4 fun _ => rfl))))))) (JE.r (j_c rfl))))) (j_noneO (α := Int) (j_c rfl)))) (fun _ _ => rfl))
    · exact (fun _ => trivial)
    intro v_found20
    refine z_last ?_
    refine z_share 2 (E' := (fun (t : Unit) => [some (.d (Enc.enc v_rule)), some (.d (Enc.enc v_row)), some (.d (Enc.enc s18.1)), some (.ls false (v_found20.map Enc.enc)), some (.d (Enc.enc x17))])) ?_ ?_
    · exact (fun _ => rfl)
    refine z_setL 2 (E' := (fun (v_stack21 : (List Int)) (t : Unit) => [some (.d (Enc.enc v_rule)), some (.d (Enc.enc v_row)), some (.ls false (v_stack21.map Enc.enc)), some (.ls false (v_found20.map Enc.enc)), some (.d (Enc.enc x17))])) ?_ ?_ ?_ ?_ ?_
    · exact (j_call4 c_moved (j_v 0 fun _ => rfl) (j_v 1 fun _ => rfl) (j_v 4 fun _ => rfl) (j_v 2 fun _ => rfl))
    · exact (fun _ => trivial)
    · exact (fun _ => rfl)
    · exact (fun _ _ => rfl)
    intro v_stack21
    exact z_nil (fun t => ⟨.inl rfl, (jkd (Enc.enc x17)), rfl⟩)
  intro s18 j19
  refine z_last ?_
  refine z_share 3 (E' := (fun (t : Unit) => [some (.d (Enc.enc v_rule)), some (.d (Enc.enc v_row)), some (.ls false (s18.1.map Enc.enc)), some (.d (Enc.enc s18.2)), j19.1])) ?_ ?_
  · exact (fun _ => rfl)
  refine z_share 2 (E' := (fun (t : Unit) => [some (.d (Enc.enc v_rule)), some (.d (Enc.enc v_row)), some (.d (Enc.enc s18.1)), some (.d (Enc.enc s18.2)), j19.1])) ?_ ?_
  · exact (fun _ => rfl)
  refine z_ret (P := pD) (o := fun a => a) ?_ ?_ ?_
  · exact (j_data (j_tup2 (j_v 3 fun _ => rfl) (j_v 2 fun _ => rfl)))
  · exact (fun _ => trivial)
  · exact (fun a v t p => .inl ⟨_, rfl, p⟩)
/-! depths -/
def P_depths (v_rule : Str) (v_row : (List Int)) : Rs (List (Option Int)) :=
  run1 (bd (bd (rt v_rule) fun a => up (P_look_stacked a)) fun _u23 => (bd (bd (rt v_row) fun a => up (P_look_row a)) fun _u22 => (bd (bd (bd (rt v_rule) fun a => (bd (rt v_row) fun b => up (P_walked a b))) fun p => rt p.1) fun a => rt a)))
theorem c_depths (v_rule : Str) (v_row : (List Int)) : CF pD (F_depths [.d (Enc.enc v_rule), .d (Enc.enc v_row)]) 2 (P_depths v_rule v_row) := by
  refine c_body (ds := [Enc.enc v_rule, Enc.enc v_row]) (E := (fun (t : Unit) => [some (.d (Enc.enc v_rule)), some (.d (Enc.enc v_row))])) rfl ?_
  rw [seqM_nil]
  refine z_expr (P := pD) ?_ ?_ ?_
  · exact (j_call1 c_look_stacked (j_v 0 fun _ => rfl))
  · exact (fun _ => trivial)
  intro _u23
  refine z_expr (P := pD) ?_ ?_ ?_
  · exact (j_call1 c_look_row (j_v 1 fun _ => rfl))
  · exact (fun _ => trivial)
  intro _u22
  refine z_last ?_
  refine z_ret (P := pD) (o := fun a => a) ?_ ?_ ?_
  · exact (j_fst (JE.r (j_frzD (j_call2 c_walked (j_v 0 fun _ => rfl) (j_v 1 fun _ => rfl)))))
  · exact (fun _ => trivial)
  · exact (fun a v t p => .inl ⟨_, rfl, p⟩)
/-! stack -/
def P_stack (v_rule : Str) (v_row : (List Int)) : Rs (List Int) :=
  run1 (bd (bd (rt v_rule) fun a => up (P_look_stacked a)) fun _u25 => (bd (bd (rt v_row) fun a => up (P_look_row a)) fun _u24 => (bd (bd (bd (rt v_rule) fun a => (bd (rt v_row) fun b => up (P_walked a b))) fun p => rt p.2) fun a => rt a)))
theorem c_stack (v_rule : Str) (v_row : (List Int)) : CF pD (F_stack [.d (Enc.enc v_rule), .d (Enc.enc v_row)]) 2 (P_stack v_rule v_row) := by
  refine c_body (ds := [Enc.enc v_rule, Enc.enc v_row]) (E := (fun (t : Unit) => [some (.d (Enc.enc v_rule)), some (.d (Enc.enc v_row))])) rfl ?_
  rw [seqM_nil]
  refine z_expr (P := pD) ?_ ?_ ?_
  · exact (j_call1 c_look_stacked (j_v 0 fun _ => rfl))
  · exact (fun _ => trivial)
  intro _u25
  refine z_expr (P := pD) ?_ ?_ ?_
  · exact (j_call1 c_look_row (j_v 1 fun _ => rfl))
  · exact (fun _ => trivial)
  intro _u24
  refine z_last ?_
  refine z_ret (P := pD) (o := fun a => a) ?_ ?_ ?_
  · exact (j_snd (JE.r (j_frzD (j_call2 c_walked (j_v 0 fun _ => rfl) (j_v 1 fun _ => rfl)))))
  · exact (fun _ => trivial)
  · exact (fun a v t p => .inl ⟨_, rfl, p⟩)
/-! counts -/
def P_counts (v_rule : Str) (v_row : (List Int)) : Rs (List Int) :=
  run1 (bd (bd (rt v_rule) fun a => (bd (rt v_row) fun b => up (P_depths a b))) fun v_some26 => (bd (bd (bd (bd (bd (rt v_some26) fun a => bd (bd (rt ()) fun _ => rt (none : (Option Int))) fun b => lo (some (cnt a b))) fun a => bd (rt ([] : List Int)) fun as => rt (a :: as)) fun as => lo (if as.length ≤ 1000 then some as else none)) fun a => bd (bd (bd (rt (1 : Int)) fun i => bd (bd (rt (12 : Int)) fun a => bd (rt (1 : Int)) fun b => lo (some (a + b))) fun j => lo (if mid i && mid j then some (rng i j) else none)) fun xs => cmpG xs fun (x27 : Int) => bd (rt true) fun b => if b then bd (bd (rt v_some26) fun a => bd (bd (rt x27) fun a => rt (some a)) fun b => lo (some (cnt a b))) fun y => rt (some y) else rt none) fun b => lo (addL a b)) fun a => rt a))
theorem c_counts (v_rule : Str) (v_row : (List Int)) : CF pL (F_counts [.d (Enc.enc v_rule), .d (Enc.enc v_row)]) 2 (P_counts v_rule v_row) := by
  refine c_body (ds := [Enc.enc v_rule, Enc.enc v_row]) (E := (fun (t : Unit) => [some (.d (Enc.enc v_rule)), some (.d (Enc.enc v_row)), none, none])) rfl ?_
  rw [seqM_nil]
  refine z_setD 2 (E' := (fun (v_some26 : (List (Option Int))) (t : Unit) => [some (.d (Enc.enc v_rule)), some (.d (Enc.enc v_row)), some (.d (Enc.enc v_some26)), none])) ?_ ?_ ?_ ?_ ?_
  · exact (j_call2 c_depths (j_v 0 fun _ => rfl) (j_v 1 fun _ => rfl))
  · exact (fun _ => trivial)
  · exact (fun _ => rfl)
  · exact (fun _ _ => rfl)
  intro v_some26
  refine z_last ?_
  refine z_ret (P := pL) (o := fun a => a) ?_ ?_ ?_
  · exact (j_bin q_addL (JE.r (j_frzL (j_lst (j_cons (j_look (q_count (by decide)) (JE.r (j_v 2 fun _ => rfl)) (JE.r (j_noneO (α := Int) (j_c rfl)))) j_nil)))) (JE.r (j_frzL (j_lc (Ei := fun (x27 : Int) => (fun (t : Unit) => [some (.d (Enc.enc v_rule)), some (.d (Enc.enc v_row)), some (.d (Enc.enc v_some26)), some (.d (Enc.enc x27))])) (j_rg2 (j_c rfl) (j_frzD (j_bin q_addI (JE.r (j_c rfl)) (JE.r (j_c rfl))))) (fun t => any_1 rfl) (fun _ _ => rfl) (fun _ _ _ => rfl) (fun x27 => (J.ret rfl)) (fun x27 => (j_look (q_count (by decide)) (JE.r (j_v 2 fun _ => rfl)) (JE.r (j_some (j_v 3 fun _ => rfl)))))))))
  · exact (fun _ => trivial)
  · exact (fun a v t p => .inl ⟨_, rfl, p⟩)
/-! curve -/
def P_curve (v_rule : Str) (v_row : (List Int)) : Rs (List Int) :=
  run1 (bd (bd (rt v_rule) fun a => up (P_look_rule a)) fun _u33 => (bd (bd (rt v_row) fun a => up (P_look_row a)) fun _u32 => (bd (bd (rt v_rule) fun a => bd (rt (Tu.mk l_STACKED)) fun b => lo (some (!inL a b.l))) fun k => if k then (bd (bd (bd (bd (rt (12 : Int)) fun a => bd (rt (1 : Int)) fun b => lo (some (a + b))) fun j => lo (if mid j then some (rng 0 j) else none)) fun xs => cmpG xs fun (x28 : Int) => bd (rt true) fun b => if b then bd (bd (rt v_rule) fun a => (bd (rt x28) fun b => (bd (rt v_row) fun c => up (P_misses a b c)))) fun y => rt (some y) else rt none) fun a => rt a) else (bd (bd (rt v_rule) fun a => (bd (rt v_row) fun b => up (P_depths a b))) fun v_some29 => (bd (bd (bd (bd (rt (12 : Int)) fun a => bd (rt (1 : Int)) fun b => lo (some (a + b))) fun j => lo (if mid j then some (rng 0 j) else none)) fun xs => cmpG xs fun (x30 : Int) => bd (rt true) fun b => if b then bd (bd (bd (rt v_some29) fun xs => cmpG xs fun (x31 : (Option Int)) => bd (bd (bd (rt x31) fun a => rt (isNoneT a)) fun a => if a then rt true else (bd (bd (rt x31) fun a => lo a) fun a => bd (rt x30) fun b => lo (some (decide (b < a))))) fun b => if b then bd (rt x31) fun y => rt (some y) else rt none) fun a => rt (a.length : Int)) fun y => rt (some y) else rt none) fun a => rt a)))))
theorem c_curve (v_rule : Str) (v_row : (List Int)) : CF pL (F_curve [.d (Enc.enc v_rule), .d (Enc.enc v_row)]) 2 (P_curve v_rule v_row) := by
  refine c_body (ds := [Enc.enc v_rule, Enc.enc v_row]) (E := (fun (t : Unit) => [some (.d (Enc.enc v_rule)), some (.d (Enc.enc v_row)), none, none, none])) rfl ?_
  rw [seqM_nil]
  refine z_expr (P := pD) ?_ ?_ ?_
  · exact (j_call1 c_look_rule (j_v 0 fun _ => rfl))
  · exact (fun _ => trivial)
  intro _u33
  refine z_expr (P := pD) ?_ ?_ ?_
  · exact (j_call1 c_look_row (j_v 1 fun _ => rfl))
  · exact (fun _ => trivial)
  intro _u32
  refine z_ifE ?_ ?_ ?_ ?_
  · exact (j_cmpT (q_ninU (by decide)) (JE.r (j_v 0 fun _ => rfl)) (JE.r (j_c rfl)))
  · exact (fun _ => trivial)
  ·
    refine z_ret (P := pL) (o := fun a => a) ?_ ?_ ?_
    · exact (j_lc (Ei := fun (x28 : Int) => (fun (t : Unit) => [some (.d (Enc.enc v_rule)), some (.d (Enc.enc v_row)), none, some (.d (Enc.enc x28)), none])) (j_rg1 (j_frzD (j_bin q_addI (JE.r (j_c rfl)) (JE.r (j_c rfl))))) (fun t => any_1 rfl) (fun _ _ => rfl) (fun _ _ _ => rfl) (fun x28 => (J.ret rfl)) (fun x28 => (j_frzD (j_call3 c_misses (j_v 0 fun _ => rfl) (j_v 3 fun _ => rfl) (j_v 1 fun _ => rfl)))))
    · exact (fun _ => trivial)
    · exact (fun a v t p => ⟨(fun z => by cases z), .inl ⟨_, rfl, p⟩⟩)
  refine z_setD 2 (E' := (fun (v_some29 : (List (Option Int))) (t : Unit) => [some (.d (Enc.enc v_rule)), some (.d (Enc.enc v_row)), some (.d (Enc.enc v_some29)), none, none])) ?_ ?_ ?_ ?_ ?_
  · exact (j_call2 c_depths (j_v 0 fun _ => rfl) (j_v 1 fun _ => rfl))
  · exact (fun _ => trivial)
  · exact (fun _ => rfl)
  · exact (fun _ _ => rfl)
  intro v_some29
  refine z_last ?_
  refine z_ret (P := pL) (o := fun a => a) ?_ ?_ ?_
  · exact (j_lc (Ei := fun (x30 : Int) => (fun (t : Unit) => [some (.d (Enc.enc v_rule)), some (.d (Enc.enc v_row)), some (.d (Enc.enc v_some29)), some (.d (Enc.enc x30)), none])) (j_rg1 (j_frzD (j_bin q_addI (JE.r (j_c rfl)) (JE.r (j_c rfl))))) (fun t => any_1 rfl) (fun _ _ => rfl) (fun _ _ _ => rfl) (fun x30 => (J.ret rfl)) (fun x30 => (j_len (JE.r (j_frzL (j_lc (Ei := fun (x31 : (Option Int)) => (fun (t : Unit) => [some (.d (Enc.enc v_rule)), some (.d (Enc.enc v_row)), some (.d (Enc.enc v_some29)), some (.d (Enc.enc x30)), some (.d (Enc.enc x31))])) (j_it (j_v 2 fun _ => rfl)) (fun t => any_1 rfl) (fun _ _ => rfl) (fun _ _ _ => rfl) (fun x31 => (j_or (j_isNT (JE.r (j_v 4 fun _ => rfl))) (j_cmpT q_gt (JE.r (j_getO (j_v 4 fun _ => rfl))) (JE.r (j_v 3 fun _ => rfl))))) (fun x31 => (j_v 4 fun _ => rfl))))))))
  · exact (fun _ => trivial)
  · exact (fun a v t p => .inl ⟨_, rfl, p⟩)
/-! loses -/
def P_loses (v_rule : Str) (v_row : (List Int)) : Rs (List Int) :=
  run1 (bd (bd (rt v_rule) fun a => (bd (rt v_row) fun b => up (P_curve a b))) fun v_some1 => (bd (bd (bd (rt (12 : Int)) fun j => lo (if mid j then some (rng 0 j) else none)) fun xs => cmpG xs fun (x2 : Int) => bd (bd (bd (rt v_some1) fun a => bd (bd (rt x2) fun a => bd (rt (1 : Int)) fun b => lo (some (a + b))) fun b => lo (atI a b)) fun a => bd (bd (rt v_some1) fun a => bd (rt x2) fun b => lo (atI a b)) fun b => lo (some (decide (b < a)))) fun b => if b then bd (rt x2) fun y => rt (some y) else rt none) fun a => rt a))
theorem c_loses (v_rule : Str) (v_row : (List Int)) : CF pL (F_loses [.d (Enc.enc v_rule), .d (Enc.enc v_row)]) 2 (P_loses v_rule v_row) := by
  refine c_body (ds := [Enc.enc v_rule, Enc.enc v_row]) (E := (fun (t : Unit) => [some (.d (Enc.enc v_rule)), some (.d (Enc.enc v_row)), none, none])) rfl ?_
  rw [seqM_nil]
  refine z_setL 2 (E' := (fun (v_some1 : (List Int)) (t : Unit) => [some (.d (Enc.enc v_rule)), some (.d (Enc.enc v_row)), some (.ls false (v_some1.map Enc.enc)), none])) ?_ ?_ ?_ ?_ ?_
  · exact (j_call2 c_curve (j_v 0 fun _ => rfl) (j_v 1 fun _ => rfl))
  · exact (fun _ => trivial)
  · exact (fun _ => rfl)
  · exact (fun _ _ => rfl)
  intro v_some1
  refine z_last ?_
  refine z_ret (P := pL) (o := fun a => a) ?_ ?_ ?_
  · exact (j_lc (Ei := fun (x2 : Int) => (fun (t : Unit) => [some (.d (Enc.enc v_rule)), some (.d (Enc.enc v_row)), some (.ls false (v_some1.map Enc.enc)), some (.d (Enc.enc x2))])) (j_rg1 (j_c rfl)) (fun t => any_1 rfl) (fun _ _ => rfl) (fun _ _ _ => rfl) (fun x2 => (j_cmpT q_gt (JE.r (j_frzD (j_bin q_ixL (j_vl 2 fun _ => rfl) (JE.r (j_frzD (j_bin q_addI (JE.r (j_v 3 fun _ => rfl)) (JE.r (j_c rfl)))))))) (JE.r (j_frzD (j_bin q_ixL (j_vl 2 fun _ => rfl) (JE.r (j_v 3 fun _ => rfl))))))) (fun x2 => (j_v 3 fun _ => rfl)))
  · exact (fun _ => trivial)
  · exact (fun a v t p => .inl ⟨_, rfl, p⟩)
/-! losing_row -/
def P_losing_row (v_rule : Str) : Rs (Option (List Int)) :=
  run1 (bd (bd (rt v_rule) fun a => up (P_look_rule a)) fun _u1 => (bd (bd (bd (rt v_rule) fun a => bd (rt (Tu.mk l_STACKED)) fun b => lo (some (inL a b.l))) fun k => if k then (bd (rt ()) fun _ => rt (none : (Option (List Int)))) else (bd (rt l_LOSING) fun a => rt (some a))) fun a => rt a))
theorem c_losing_row (v_rule : Str) : CF pX (F_losing_row [.d (Enc.enc v_rule)]) 1 (P_losing_row v_rule) := by
  refine c_body (ds := [Enc.enc v_rule]) (E := (fun (t : Unit) => [some (.d (Enc.enc v_rule))])) rfl ?_
  rw [seqM_nil]
  refine z_expr (P := pD) ?_ ?_ ?_
  · exact (j_call1 c_look_rule (j_v 0 fun _ => rfl))
  · exact (fun _ => trivial)
  intro _u1
  refine z_last ?_
  refine z_ret (P := pX) (o := fun a => a) ?_ ?_ ?_
  · exact (j_if (j_cmpT (q_inU (by decide)) (JE.r (j_v 0 fun _ => rfl)) (JE.r (j_c rfl))) (j_dx (jd_noneO (α := (List Int)) (j_data (j_c rfl)))) (jx_some (j_lx (j_retL rfl))))
  · exact (fun _ => trivial)
  · exact (fun a v t p => .inl ⟨_, rfl, p⟩)
/-! crowd -/
def P_crowd (v_row : (List Int)) (v_some : (List (Int × Int))) : Rs (List Int) :=
  run1 (bd (bd (bd (bd (rt v_row) fun a => rt (a.length : Int)) fun j => lo (if mid j then some (rng 0 j) else none)) fun xs => cmpG xs fun (x1 : Int) => bd (rt true) fun b => if b then bd (bd (bd (rt v_some) fun xs => cmpG xs fun (x2 : (Int × Int)) => bd (bd (bd (rt x2) fun p => rt p.1) fun a => bd (rt x1) fun b => if decide (a < b) then bd (bd (rt x2) fun p => rt p.2) fun c => rt (decide (b < c)) else rt false) fun b => if b then bd (rt x2) fun y => rt (some y) else rt none) fun a => rt (a.length : Int)) fun y => rt (some y) else rt none) fun a => rt a)
theorem c_crowd (v_row : (List Int)) (v_some : (List (Int × Int))) : CF pL (F_crowd [.d (Enc.enc v_row), .d (Enc.enc v_some)]) 2 (P_crowd v_row v_some) := by
  refine c_body (ds := [Enc.enc v_row, Enc.enc v_some]) (E := (fun (t : Unit) => [some (.d (Enc.enc v_row)), some (.d (Enc.enc v_some)), none, none])) rfl ?_
  refine z_ret (P := pL) (o := fun a => a) ?_ ?_ ?_
  · exact (j_lc (Ei := fun (x1 : Int) => (fun (t : Unit) => [some (.d (Enc.enc v_row)), some (.d (Enc.enc v_some)), some (.d (Enc.enc x1)), none])) (j_rg1 (j_len (JE.r (j_v 0 fun _ => rfl)))) (fun t => any_1 rfl) (fun _ _ => rfl) (fun _ _ _ => rfl) (fun x1 => (J.ret rfl)) (fun x1 => (j_len (JE.r (j_frzL (j_lc (Ei := fun (x2 : (Int × Int)) => (fun (t : Unit) => [some (.d (Enc.enc v_row)), some (.d (Enc.enc v_some)), some (.d (Enc.enc x1)), some (.d (Enc.enc x2))])) (j_it (j_v 1 fun _ => rfl)) (fun t => any_1 rfl) (fun _ _ => rfl) (fun _ _ _ => rfl) (fun x2 => (j_chT (op := fun a b => decide (a < b)) (op' := fun a b => decide (a < b)) hg_lt hg_lt (JE.r (j_frzD (j_fst (JE.r (j_v 3 fun _ => rfl))))) (JE.r (j_v 2 fun _ => rfl)) (JE.r (j_frzD (j_snd (JE.r (j_v 3 fun _ => rfl))))))) (fun x2 => (j_v 3 fun _ => rfl))))))))
  · exact (fun _ => trivial)
  · exact (fun a v t p => .inl ⟨_, rfl, p⟩)
/-! least -/
def P_least (v_room : Int) (v_row : (List Int)) : Rs Int :=
  run1 (bd (bd (rt ("far" : Str)) fun a => (bd (rt v_room) fun b => (bd (rt v_row) fun c => up (P_misses a b c)))) fun a => rt a)
theorem c_least (v_room : Int) (v_row : (List Int)) : CF pD (F_least [.d (Enc.enc v_room), .d (Enc.enc v_row)]) 2 (P_least v_room v_row) := by
  refine c_body (ds := [Enc.enc v_room, Enc.enc v_row]) (E := (fun (t : Unit) => [some (.d (Enc.enc v_room)), some (.d (Enc.enc v_row))])) rfl ?_
  refine z_ret (P := pD) (o := fun a => a) ?_ ?_ ?_
  · exact (j_call3 c_misses (j_c rfl) (j_v 0 fun _ => rfl) (j_v 1 fun _ => rfl))
  · exact (fun _ => trivial)
  · exact (fun a v t p => .inl ⟨_, rfl, p⟩)
/-! plan -/
def P_plan (v_room : Int) (v_row : (List Int)) : Rs (List (Option Int)) :=
  run1 (bd (bd (rt ("far" : Str)) fun a => (bd (rt v_room) fun b => (bd (rt v_row) fun c => up (P_gone a b c)))) fun a => rt a)
theorem c_plan (v_room : Int) (v_row : (List Int)) : CF pL (F_plan [.d (Enc.enc v_room), .d (Enc.enc v_row)]) 2 (P_plan v_room v_row) := by
  refine c_body (ds := [Enc.enc v_room, Enc.enc v_row]) (E := (fun (t : Unit) => [some (.d (Enc.enc v_room)), some (.d (Enc.enc v_row))])) rfl ?_
  refine z_ret (P := pL) (o := fun a => a) ?_ ?_ ?_
  · exact (j_call3 c_gone (j_c rfl) (j_v 0 fun _ => rfl) (j_v 1 fun _ => rfl))
  · exact (fun _ => trivial)
  · exact (fun a v t p => .inl ⟨_, rfl, p⟩)
/-! followed -/
def B_followed_1 (v_row : (List Int)) (v_room : Int) (v_some : (List (Option Int))) (x3 : Int) (s4 : (List Int) × (List Bool)) : T Unit ((List Int) × (List Bool)) :=
  (bd (bd (bd (rt v_row) fun a => bd (rt x3) fun b => lo (atI a b)) fun a => bd (rt s4.1) fun b => lo (some (inL a b))) fun v_is_kept6 => (bd (bd (bd (rt v_is_kept6) fun a => rt (!a)) fun a => if a then (bd (bd (rt v_room) fun a => bd (rt (0 : Int)) fun b => lo (some (decide (b < a)))) fun a => if a then (bd (bd (rt s4.1) fun a => rt (a.length : Int)) fun a => bd (rt v_room) fun b => lo (some (eqT a b))) else rt false) else rt false) fun v_is_full7 => (bd (bd (bd (rt v_is_full7) fun a => bd (bd (bd (rt v_some) fun a => bd (rt x3) fun b => lo (atI a b)) fun a => rt (!isNoneT a)) fun b => lo (some (!eqT a b))) fun a => if a then rt true else (bd (rt v_is_full7) fun a => if a then (bd (bd (bd (rt v_some) fun a => bd (rt x3) fun b => lo (atI a b)) fun a => lo a) fun a => bd (rt s4.1) fun b => lo (some (!inL a b))) else rt false)) fun k => if k then (erT 3) else (bd (bd (rt s4.1) fun xs => cmpG xs fun (x8 : Int) => bd (bd (bd (rt x8) fun a => rt (some a)) fun a => bd (bd (rt v_some) fun a => bd (rt x3) fun b => lo (atI a b)) fun b => lo (some (!eqT a b))) fun b => if b then bd (rt x8) fun y => rt (some y) else rt none) fun v_there9 => (bd (bd (bd (bd (rt v_is_kept6) fun a => rt (!a)) fun a => if a then (bd (rt v_room) fun a => bd (rt (0 : Int)) fun b => lo (some (decide (b < a)))) else rt false) fun k => if k then (bd (bd (bd (rt v_row) fun a => bd (rt x3) fun b => lo (atI a b)) fun y => lo (appT v_there9 y)) fun v_there12 => (rt v_there12)) else (rt v_there9)) fun (s10 : (List Int)) => (bd (bd (rt v_is_kept6) fun y => lo (appT s4.2 y)) fun v_found13 => (rt (s10, v_found13))))))))
def P_followed (v_room : Int) (v_row : (List Int)) (v_some : (List (Option Int))) : Rs (List Bool) :=
  run1 (bd (bd (rt v_room) fun a => up (P_look_room a)) fun _u15 => (bd (bd (rt v_row) fun a => up (P_look_row a)) fun _u14 => (bd (bd (bd (rt v_some) fun a => rt (a.length : Int)) fun a => bd (bd (rt v_row) fun a => rt (a.length : Int)) fun b => lo (some (!eqT a b))) fun k => if k then (erT 3) else (bd (bd (rt ([] : List Int)) fun as => lo (if as.length ≤ 1000 then some as else none)) fun v_there1 => (bd (bd (rt ([] : List Bool)) fun as => lo (if as.length ≤ 1000 then some as else none)) fun v_found2 => (bd (bd (bd (rt v_row) fun a => rt (a.length : Int)) fun j => lo (if mid j then some (rng 0 j) else none)) fun xs => bd (lp (B_followed_1 v_row v_room v_some) xs (v_there1, v_found2)) fun (s4 : (List Int) × (List Bool)) => (rt s4.2)))))))
theorem c_followed (v_room : Int) (v_row : (List Int)) (v_some : (List (Option Int))) : CF pL (F_followed [.d (Enc.enc v_room), .d (Enc.enc v_row), .d (Enc.enc v_some)]) 3 (P_followed v_room v_row v_some) := by
  refine c_body (ds := [Enc.enc v_room, Enc.enc v_row, Enc.enc v_some]) (E := (fun (t : Unit) => [some (.d (Enc.enc v_room)), some (.d (Enc.enc v_row)), some (.d (Enc.enc v_some)), none, none, none, none, none, none])) rfl ?_
  rw [seqM_nil]
  refine z_expr (P := pD) ?_ ?_ ?_
  · exact (j_call1 c_look_room (j_v 0 fun _ => rfl))
  · exact (fun _ => trivial)
  intro _u15
  refine z_expr (P := pD) ?_ ?_ ?_
  · exact (j_call1 c_look_row (j_v 1 fun _ => rfl))
  · exact (fun _ => trivial)
  intro _u14
  refine z_ifE ?_ ?_ ?_ ?_
  · exact (j_cmpT (q_ne (by decide)) (JE.r (j_len (JE.r (j_v 2 fun _ => rfl)))) (JE.r (j_len (JE.r (j_v 1 fun _ => rfl)))))
  · exact (fun _ => trivial)
  ·
    exact z_raise (fun _ => trivial)
  refine z_setL 3 (E' := (fun (v_there1 : (List Int)) (t : Unit) => [some (.d (Enc.enc v_room)), some (.d (Enc.enc v_row)), some (.d (Enc.enc v_some)), some (.ls false (v_there1.map Enc.enc)), none, none, none, none, none])) ?_ ?_ ?_ ?_ ?_
  · exact (j_lst j_nil)
  · exact (fun _ => trivial)
  · exact (fun _ => rfl)
  · exact (fun _ _ => rfl)
  intro v_there1
  refine z_setL 4 (E' := (fun (v_found2 : (List Bool)) (t : Unit) => [some (.d (Enc.enc v_room)), some (.d (Enc.enc v_row)), some (.d (Enc.enc v_some)), some (.ls false (v_there1.map Enc.enc)), some (.ls false (v_found2.map Enc.enc)), none, none, none, none])) ?_ ?_ ?_ ?_ ?_
  · exact (j_lst j_nil)
  · exact (fun _ => trivial)
  · exact (fun _ => rfl)
  · exact (fun _ _ => rfl)
  intro v_found2
  refine z_for (tg := .one 5) (s0 := (v_there1, v_found2)) (fun (s4 : (List Int) × (List Bool)) (j5 : Jk × Jk × Jk) (t : Unit) => [some (.d (Enc.enc v_room)), some (.d (Enc.enc v_row)), some (.d (Enc.enc v_some)), some (.ls false (s4.1.map Enc.enc)), some (.ls false (s4.2.map Enc.enc)), j5.1.1, j5.2.1.1, j5.2.2.1, none]) (EB := (fun (x3 : Int) (s4 : (List Int) × (List Bool)) (j5 : Jk × Jk × Jk) (t : Unit) => [some (.d (Enc.enc v_room)), some (.d (Enc.enc v_row)), some (.d (Enc.enc v_some)), some (.ls false (s4.1.map Enc.enc)), some (.ls false (s4.2.map Enc.enc)), some (.d (Enc.enc x3)), j5.2.1.1, j5.2.2.1, none])) ?_ ?_ (jk0, jk0, jk0) ?_ ?_ ?_ ?_
  · exact (j_rg1 (j_len (JE.r (j_v 1 fun _ => rfl))))
  · exact (fun _ => trivial)
  · exact (fun t => rfl)
  · exact (fun x3 s4 j5 t => put_1 j5.1.2 rfl)
  · intro x3 s4 j5
    unfold B_followed_1
    rw [seqM_nil]
    refine z_setD 6 (E' := (fun (v_is_kept6 : Bool) (t : Unit) => [some (.d (Enc.enc v_room)), some (.d (Enc.enc v_row)), some (.d (Enc.enc v_some)), some (.ls false (s4.1.map Enc.enc)), some (.ls false (s4.2.map Enc.enc)), some (.d (Enc.enc x3)), some (.d (Enc.enc v_is_kept6)), j5.2.2.1, none])) ?_ ?_ ?_ ?_ ?_
    · exact (j_data (j_cmp (q_in (by decide)) (JE.r (j_frzD (j_bin q_ixL (JE.r (j_v 1 fun _ => rfl)) (JE.r (j_v 5 fun _ => rfl))))) (j_vl 3 fun _ => rfl)))
    · exact (fun _ => trivial)
    · exact (fun _ => ref_of_own j5.2.1.2)
    · exact (fun _ _ => rfl)
    intro v_is_kept6
    refine z_setD 7 (E' := (fun (v_is_full7 : Bool) (t : Unit) => [some (.d (Enc.enc v_room)), some (.d (Enc.enc v_row)), some (.d (Enc.enc v_some)), some (.ls false (s4.1.map Enc.enc)), some (.ls false (s4.2.map Enc.enc)), some (.d (Enc.enc x3)), some (.d (Enc.enc v_is_kept6)), some (.d (Enc.enc v_is_full7)), none])) ?_ ?_ ?_ ?_ ?_
    · exact (j_data (j_andV (j_notV (j_testB (JE.r (j_v 6 fun _ => rfl)))) (j_andV (j_cmp q_gt (JE.r (j_v 0 fun _ => rfl)) (JE.r (j_c rfl))) (j_cmp (q_eq (by decide)) (JE.r (j_len (j_vl 3 fun _ => rfl))) (JE.r (j_v 0 fun _ => rfl))))))
    · exact (fun _ => trivial)
    · exact (fun _ => ref_of_own j5.2.2.2)
    · exact (fun _ _ => rfl)
    intro v_is_full7
    refine z_ifE ?_ ?_ ?_ ?_
    · exact (j_or (j_cmpT (q_ne (by decide)) (JE.r (j_v 7 fun _ => rfl)) (JE.r (j_ntN (JE.r (j_frzD (j_bin q_ixL (JE.r (j_v 2 fun _ => rfl)) (JE.r (j_v 5 fun _ => rfl)))))))) (j_and (j_testB (JE.r (j_v 7 fun _ => rfl))) (j_cmpT (q_nin (by decide)) (JE.r (j_getO (j_frzD (j_bin q_ixL (JE.r (j_v 2 fun _ => rfl)) (JE.r (j_v 5 fun _ => rfl)))))) (j_vl 3 fun _ => rfl))))
    · exact (fun _ => trivial)
    ·
      exact z_raise (fun _ => trivial)
    refine z_share 3 (E' := (fun (t : Unit) => [some (.d (Enc.enc v_room)), some (.d (Enc.enc v_row)), some (.d (Enc.enc v_some)), some (.d (Enc.enc s4.1)), some (.ls false (s4.2.map Enc.enc)), some (.d (Enc.enc x3)), some (.d (Enc.enc v_is_kept6)), some (.d (Enc.enc v_is_full7)), none])) ?_ ?_
    · exact (fun _ => rfl)
    refine z_setL 3 (E' := (fun (v_there9 : (List Int)) (t : Unit) => [some (.d (Enc.enc v_room)), some (.d (Enc.enc v_row)), some (.d (Enc.enc v_some)), some (.ls false (v_there9.map Enc.enc)), some (.ls false (s4.2.map Enc.enc)), some (.d (Enc.enc x3)), some (.d (Enc.enc v_is_kept6)), some (.d (Enc.enc v_is_full7)), none])) ?_ ?_ ?_ ?_ ?_
    · exact (j_lc (Ei := fun (x8 : Int) => (fun (t : Unit) => [some (.d (Enc.enc v_room)), some (.d (Enc.enc v_row)), some (.d (Enc.enc v_some)), some (.d (Enc.enc s4.1)), some (.ls false (s4.2.map Enc.enc)), some (.d (Enc.enc x3)), some (.d (Enc.enc v_is_kept6)), some (.d (Enc.enc v_is_full7)), some (.d (Enc.enc x8))])) (j_it (j_v 3 fun _ => rfl)) (fun t => any_1 rfl) (fun _ _ => rfl) (fun _ _ _ => rfl) (fun x8 => (j_cmpT (q_ne (by decide)) (JE.r (j_some (j_v 8 fun _ => rfl))) (JE.r (j_frzD (j_bin q_ixL (JE.r (j_v 2 fun _ => rfl)) (JE.r (j_v 5 fun _ => rfl))))))) (fun x8 => (j_v 8 fun _ => rfl)))
    · exact (fun _ => trivial)
    · exact (fun _ => rfl)
    · exact (fun _ _ => rfl)
    intro v_there9
    refine z_ifN (E' := (fun (s10 : (List Int)) (j11 : Unit) (t : Unit) => [some (.d (Enc.enc v_room)), some (.d (Enc.enc v_row)), some (.d (Enc.enc v_some)), some (.ls false (s10.map Enc.enc)), some (.ls false (s4.2.map Enc.enc)), some (.d (Enc.enc x3)), some (.d (Enc.enc v_is_kept6)), some (.d (Enc.enc v_is_full7)), none])) ?_ ?_ ?_ ?_ ?_
    · exact (j_and (j_not (j_testB (JE.r (j_v 6 fun _ => rfl)))) (j_cmpT q_gt (JE.r (j_v 0 fun _ => rfl)) (JE.r (j_c rfl))))
    · exact (fun _ => trivial)
    ·
      refine z_exprU (E' := (fun (v_there12 : (List Int)) (t : Unit) => [some (.d (Enc.enc v_room)), some (.d (Enc.enc v_row)), some (.d (Enc.enc v_some)), some (.ls false (v_there12.map Enc.enc)), some (.ls false (s4.2.map Enc.enc)), some (.d (Enc.enc x3)), some (.d (Enc.enc v_is_kept6)), some (.d (Enc.enc v_is_full7)), none])) ?_ ?_ ?_
      · exact (m_U 3 (b := false) (xs := v_there9) (E' := (fun (v_there12 : (List Int)) (t : Unit) => [some (.d (Enc.enc v_room)), some (.d (Enc.enc v_row)), some (.d (Enc.enc v_some)), some (.ls false (v_there12.map Enc.enc)), some (.ls false (s4.2.map Enc.enc)), some (.d (Enc.enc x3)), some (.d (Enc.enc v_is_kept6)), some (.d (Enc.enc v_is_full7)), none])) k_appT (fun _ => rfl) (a_1 (j_frzD (j_bin q_ixL (JE.r (j_v 1 fun _ => rfl)) (JE.r (j_v 5 fun _ => rfl))))) (fun _ _ => rfl))
      · exact (fun _ => trivial)
      intro v_there12
      exact z_nil (fun t => ⟨rfl, (), rfl⟩)
    ·
      refine z_pass ?_
      exact z_nil (fun t => ⟨rfl, (), rfl⟩)
    intro s10 j11
    refine z_last ?_
    refine z_exprU (E' := (fun (v_found13 : (List Bool)) (t : Unit) => [some (.d (Enc.enc v_room)), some (.d (Enc.enc v_row)), some (.d (Enc.enc v_some)), some (.ls false (s10.map Enc.enc)), some (.ls false (v_found13.map Enc.enc)), some (.d (Enc.enc x3)), some (.d (Enc.enc v_is_kept6)), some (.d (Enc.enc v_is_full7)), none])) ?_ ?_ ?_
    · exact (m_U 4 (b := false) (xs := s4.2) (E' := (fun (v_found13 : (List Bool)) (t : Unit) => [some (.d (Enc.enc v_room)), some (.d (Enc.enc v_row)), some (.d (Enc.enc v_some)), some (.ls false (s10.map Enc.enc)), some (.ls false (v_found13.map Enc.enc)), some (.d (Enc.enc x3)), some (.d (Enc.enc v_is_kept6)), some (.d (Enc.enc v_is_full7)), none])) k_appT (fun _ => rfl) (a_1 (j_v 6 fun _ => rfl)) (fun _ _ => rfl))
    · exact (fun _ => trivial)
    intro v_found13
    exact z_nil (fun t => ⟨.inl rfl, ((jkd (Enc.enc x3)), (jkd (Enc.enc v_is_kept6)), (jkd (Enc.enc v_is_full7))), rfl⟩)
  intro s4 j5
  refine z_last ?_
  refine z_retO 4 (v := .l (s4.2.map Enc.enc)) ?_ ?_
  · exact (fun _ => rfl)
  · exact (fun t => .inl ⟨_, rfl, (by first | rfl | exact .inl rfl | exact .inr ⟨_, rfl, rfl⟩)⟩)
/-! cost -/
def P_cost (v_room : Int) (v_row : (List Int)) (v_some : (List (Option Int))) : Rs Int :=
  run1 (bd (bd (bd (rt v_room) fun a => (bd (rt v_row) fun b => (bd (rt v_some) fun c => up (P_followed a b c)))) fun a => bd (rt false) fun b => lo (some (cnt a b))) fun a => rt a)
theorem c_cost (v_room : Int) (v_row : (List Int)) (v_some : (List (Option Int))) : CF pD (F_cost [.d (Enc.enc v_room), .d (Enc.enc v_row), .d (Enc.enc v_some)]) 3 (P_cost v_room v_row v_some) := by
  refine c_body (ds := [Enc.enc v_room, Enc.enc v_row, Enc.enc v_some]) (E := (fun (t : Unit) => [some (.d (Enc.enc v_room)), some (.d (Enc.enc v_row)), some (.d (Enc.enc v_some))])) rfl ?_
  refine z_ret (P := pD) (o := fun a => a) ?_ ?_ ?_
  · exact (j_data (j_look (q_count (by decide)) (JE.r (j_frzL (j_call3 c_followed (j_v 0 fun _ => rfl) (j_v 1 fun _ => rfl) (j_v 2 fun _ => rfl)))) (JE.r (j_c rfl))))
  · exact (fun _ => trivial)
  · exact (fun a v t p => .inl ⟨_, rfl, p⟩)
/-! held -/
def P_held (v_room : Int) (v_row : (List Int)) (v_some : (List (Option Int))) : Rs (List (Int × Int)) :=
  run1 (bd (bd (rt v_room) fun a => (bd (rt v_row) fun b => (bd (rt v_some) fun c => up (P_followed a b c)))) fun v_found16 => (bd (bd (bd (rt v_row) fun a => up (P_holds a)) fun xs => cmpG xs fun (x17 : (Int × Int)) => bd (bd (rt v_found16) fun a => bd (bd (rt x17) fun p => rt p.2) fun b => lo (atI a b)) fun b => if b then bd (rt x17) fun y => rt (some y) else rt none) fun a => rt a))
theorem c_held (v_room : Int) (v_row : (List Int)) (v_some : (List (Option Int))) : CF pL (F_held [.d (Enc.enc v_room), .d (Enc.enc v_row), .d (Enc.enc v_some)]) 3 (P_held v_room v_row v_some) := by
  refine c_body (ds := [Enc.enc v_room, Enc.enc v_row, Enc.enc v_some]) (E := (fun (t : Unit) => [some (.d (Enc.enc v_room)), some (.d (Enc.enc v_row)), some (.d (Enc.enc v_some)), none, none])) rfl ?_
  rw [seqM_nil]
  refine z_setL 3 (E' := (fun (v_found16 : (List Bool)) (t : Unit) => [some (.d (Enc.enc v_room)), some (.d (Enc.enc v_row)), some (.d (Enc.enc v_some)), some (.ls false (v_found16.map Enc.enc)), none])) ?_ ?_ ?_ ?_ ?_
  · exact (j_call3 c_followed (j_v 0 fun _ => rfl) (j_v 1 fun _ => rfl) (j_v 2 fun _ => rfl))
  · exact (fun _ => trivial)
  · exact (fun _ => rfl)
  · exact (fun _ _ => rfl)
  intro v_found16
  refine z_last ?_
  refine z_ret (P := pL) (o := fun a => a) ?_ ?_ ?_
  · exact (j_lc (Ei := fun (x17 : (Int × Int)) => (fun (t : Unit) => [some (.d (Enc.enc v_room)), some (.d (Enc.enc v_row)), some (.d (Enc.enc v_some)), some (.ls false (v_found16.map Enc.enc)), some (.d (Enc.enc x17))])) (j_it (j_frzL (j_call1 c_holds (j_v 1 fun _ => rfl)))) (fun t => any_1 rfl) (fun _ _ => rfl) (fun _ _ _ => rfl) (fun x17 => (j_testB (JE.r (j_frzD (j_bin q_ixL (j_vl 3 fun _ => rfl) (JE.r (j_frzD (j_snd (JE.r (j_v 4 fun _ => rfl)))))))))) (fun x17 => (j_v 4 fun _ => rfl)))
  · exact (fun _ => trivial)
  · exact (fun a v t p => .inl ⟨_, rfl, p⟩)
/-! is_held -/
def P_is_held (v_row : (List Int)) (v_some : (List (Int × Int))) (v_k : Int) (v_name : Int) : Rs Bool :=
  run1 (bd (bd (bd (rt v_some) fun xs => cmpG xs fun (x1 : (Int × Int)) => bd (rt true) fun b => if b then bd (bd (bd (bd (rt v_row) fun a => bd (bd (rt x1) fun p => rt p.1) fun b => lo (atI a b)) fun a => bd (rt v_name) fun b => lo (some (eqT a b))) fun a => if a then (bd (bd (rt x1) fun p => rt p.1) fun a => bd (rt v_k) fun b => if decide (a < b) then bd (bd (rt x1) fun p => rt p.2) fun c => rt (decide (b < c)) else rt false) else rt false) fun y => rt (some y) else rt none) fun a => lo (some (a.any id))) fun a => rt a)
theorem c_is_held (v_row : (List Int)) (v_some : (List (Int × Int))) (v_k : Int) (v_name : Int) : CF pD (F_is_held [.d (Enc.enc v_row), .d (Enc.enc v_some), .d (Enc.enc v_k), .d (Enc.enc v_name)]) 4 (P_is_held v_row v_some v_k v_name) := by
  refine c_body (ds := [Enc.enc v_row, Enc.enc v_some, Enc.enc v_k, Enc.enc v_name]) (E := (fun (t : Unit) => [some (.d (Enc.enc v_row)), some (.d (Enc.enc v_some)), some (.d (Enc.enc v_k)), some (.d (Enc.enc v_name)), none])) rfl ?_
  refine z_ret (P := pD) (o := fun a => a) ?_ ?_ ?_
  · exact (j_bi1 q_any (JE.r (j_frzL (j_lc (Ei := fun (x1 : (Int × Int)) => (fun (t : Unit) => [some (.d (Enc.enc v_row)), some (.d (Enc.enc v_some)), some (.d (Enc.enc v_k)), some (.d (Enc.enc v_name)), some (.d (Enc.enc x1))])) (j_it (j_v 1 fun _ => rfl)) (fun t => any_1 rfl) (fun _ _ => rfl) (fun _ _ _ => rfl) (fun x1 => (J.ret rfl)) (fun x1 => (j_andV (j_cmp (q_eq (by decide)) (JE.r (j_frzD (j_bin q_ixL (JE.r (j_v 0 fun _ => rfl)) (JE.r (j_frzD (j_fst (JE.r (j_v 4 fun _ => rfl)))))))) (JE.r (j_v 3 fun _ => rfl))) (j_ch (op := fun a b => decide (a < b)) (op' := fun a b => decide (a < b)) hg_lt hg_lt (JE.r (j_frzD (j_fst (JE.r (j_v 4 fun _ => rfl))))) (JE.r (j_v 2 fun _ => rfl)) (JE.r (j_frzD (j_snd (JE.r (j_v 4 fun _ => rfl))))))))))))
  · exact (fun _ => trivial)
  · exact (fun a v t p => .inl ⟨_, rfl, p⟩)
/-! can_count -/
def P_can_count (v_some : (List Int)) : Rs Bool :=
  run1 (bd (bd (bd (bd (rt v_some) fun a => rt (Tr.tr a)) fun a => rt (!a)) fun a => if a then rt true else (bd (bd (bd (rt v_some) fun a => lo (minL a)) fun a => bd (rt (0 : Int)) fun b => lo (some (decide (a < b)))) fun a => if a then rt true else (bd (bd (bd (rt v_some) fun a => lo (some a.sum)) fun a => bd (rt (24 : Int)) fun b => lo (some (decide (b < a)))) fun a => if a then rt true else (bd (bd (rt v_some) fun a => bd (rt (0 : Int)) fun b => lo (atI a b)) fun a => bd (bd (rt (19 : Int)) fun a => bd (rt (1 : Int)) fun b => lo (some (a + b))) fun b => lo (some (decide (b < a))))))) fun k => if k then (bd (rt false) fun a => rt a) else (bd (bd (bd (bd (bd (rt (1 : Int)) fun i => bd (bd (rt v_some) fun a => rt (a.length : Int)) fun j => lo (if mid i && mid j then some (rng i j) else none)) fun xs => cmpG xs fun (x1 : Int) => bd (rt true) fun b => if b then bd (bd (bd (bd (rt v_some) fun a => bd (rt x1) fun b => lo (atI a b)) fun a => bd (rt (0 : Int)) fun b => lo (some (decide (b < a)))) fun a => if a then (bd (rt x1) fun a => bd (bd (rt v_some) fun a => bd (rt (0 : Int)) fun b => lo (atI a b)) fun b => lo (some (decide (b < a)))) else rt false) fun y => rt (some y) else rt none) fun a => lo (some (a.any id))) fun a => rt (!a)) fun a => rt a))
theorem c_can_count (v_some : (List Int)) : CF pD (F_can_count [.d (Enc.enc v_some)]) 1 (P_can_count v_some) := by
  refine c_body (ds := [Enc.enc v_some]) (E := (fun (t : Unit) => [some (.d (Enc.enc v_some)), none])) rfl ?_
  rw [seqM_nil]
  refine z_ifE ?_ ?_ ?_ ?_
  · exact (j_or (j_not (j_test (JE.r (j_v 0 fun _ => rfl)))) (j_or (j_cmpT q_lt (JE.r (j_frzD (j_bi1 q_minL (JE.r (j_v 0 fun _ => rfl))))) (JE.r (j_c rfl))) (j_or (j_cmpT q_gt (JE.r (j_frzD (j_bi1 q_sum (JE.r (j_v 0 fun _ => rfl))))) (JE.r (j_c rfl))) (j_cmpT q_gt (JE.r (j_frzD (j_bin q_ixL (JE.r (j_v 0 fun _ => rfl)) (JE.r (j_c rfl))))) (JE.r (j_frzD (j_bin q_addI (JE.r (j_c rfl)) (JE.r (j_c rfl)))))))))
  · exact (fun _ => trivial)
  ·
    refine z_ret (P := pD) (o := fun a => a) ?_ ?_ ?_
    · exact (j_data (j_c rfl))
    · exact (fun _ => trivial)
    · exact (fun a v t p => ⟨(fun z => by cases z), .inl ⟨_, rfl, p⟩⟩)
  refine z_last ?_
  refine z_ret (P := pD) (o := fun a => a) ?_ ?_ ?_
  · exact (j_data (j_notV (j_testB (JE.r (j_frzD (j_bi1 q_any (JE.r (j_frzL (j_lc (Ei := fun (x1 : Int) => (fun (t : Unit) => [some (.d (Enc.enc v_some)), some (.d (Enc.enc x1))])) (j_rg2 (j_c rfl) (j_len (JE.r (j_v 0 fun _ => rfl)))) (fun t => any_1 rfl) (fun _ _ => rfl) (fun _ _ _ => rfl) (fun x1 => (J.ret rfl)) (fun x1 => (j_andV (j_cmp q_gt (JE.r (j_frzD (j_bin q_ixL (JE.r (j_v 0 fun _ => rfl)) (JE.r (j_v 1 fun _ => rfl))))) (JE.r (j_c rfl))) (j_cmp q_gt (JE.r (j_v 1 fun _ => rfl)) (JE.r (j_frzD (j_bin q_ixL (JE.r (j_v 0 fun _ => rfl)) (JE.r (j_c rfl)))))))))))))))))
  · exact (fun _ => trivial)
  · exact (fun a v t p => .inl ⟨_, rfl, p⟩)
/-! row_with -/
def B_row_with_1 (v_some : (List Int)) (x3 : Int) (s4 : (List (Option Int))) : T Unit ((List (Option Int))) :=
  (bd (bd (bd (bd (bd (bd (rt x3) fun a => rt (some a)) fun a => bd (rt ([] : List (Option Int))) fun as => rt (a :: as)) fun as => lo (if as.length ≤ 1000 then some as else none)) fun a => bd (bd (rt v_some) fun a => bd (rt x3) fun b => lo (atI a b)) fun b => lo (mulL a b)) fun y => lo (extT s4 y)) fun v_found6 => (rt v_found6))
def P_row_with (v_some : (List Int)) : Rs (List Int) :=
  run1 (bd (bd (bd (rt v_some) fun a => up (P_can_count a)) fun a => rt (!a)) fun k => if k then (erT 4) else (bd (bd (bd (bd (bd (rt ()) fun _ => rt (none : (Option Int))) fun a => bd (rt ([] : List (Option Int))) fun as => rt (a :: as)) fun as => lo (if as.length ≤ 1000 then some as else none)) fun a => bd (bd (rt v_some) fun a => bd (rt (0 : Int)) fun b => lo (atI a b)) fun b => lo (mulL a b)) fun v_found2 => (bd (bd (bd (bd (rt v_some) fun a => rt (a.length : Int)) fun a => bd (rt (1 : Int)) fun b => lo (some (a - b))) fun i => bd (rt (0 : Int)) fun j => bd (bd (rt (1 : Int)) fun a => lo (some (-a))) fun s => lo (if mid i && mid j && decide (s = -1) then some (dwn i j) else none)) fun xs => bd (lp (B_row_with_1 v_some) xs v_found2) fun (s4 : (List (Option Int))) => (bd (bd (rt s4) fun a => up (P_row_of a)) fun a => rt a))))
theorem c_row_with (v_some : (List Int)) : CF pL (F_row_with [.d (Enc.enc v_some)]) 1 (P_row_with v_some) := by
  refine c_body (ds := [Enc.enc v_some]) (E := (fun (t : Unit) => [some (.d (Enc.enc v_some)), none, none])) rfl ?_
  rw [seqM_nil]
  refine z_ifE ?_ ?_ ?_ ?_
  · exact (j_not (j_testB (JE.r (j_frzD (j_call1 c_can_count (j_v 0 fun _ => rfl))))))
  · exact (fun _ => trivial)
  ·
    exact z_raise (fun _ => trivial)
  refine z_setL 1 (E' := (fun (v_found2 : (List (Option Int))) (t : Unit) => [some (.d (Enc.enc v_some)), some (.ls false (v_found2.map Enc.enc)), none])) ?_ ?_ ?_ ?_ ?_
  · exact (j_bin q_mulL (JE.r (j_frzL (j_lst (j_cons (j_noneO (α := Int) (j_c rfl)) j_nil)))) (JE.r (j_frzD (j_bin q_ixL (JE.r (j_v 0 fun _ => rfl)) (JE.r (j_c rfl))))))
  · exact (fun _ => trivial)
  · exact (fun _ => rfl)
  · exact (fun _ _ => rfl)
  intro v_found2
  refine z_for (tg := .one 2) (s0 := v_found2) (fun (s4 : (List (Option Int))) (j5 : Jk) (t : Unit) => [some (.d (Enc.enc v_some)), some (.ls false (s4.map Enc.enc)), j5.1]) (EB := (fun (x3 : Int) (s4 : (List (Option Int))) (j5 : Jk) (t : Unit) => [some (.d (Enc.enc v_some)), some (.ls false (s4.map Enc.enc)), some (.d (Enc.enc x3))])) ?_ ?_ jk0 ?_ ?_ ?_ ?_
  · exact (j_rg3 (j_frzD (j_bin q_subI (JE.r (j_len (JE.r (j_v 0 fun _ => rfl)))) (JE.r (j_c rfl)))) (j_c rfl) (j_frzD (j_un q_negI (JE.r (j_c rfl)))))
  · exact (fun _ => trivial)
  · exact (fun t => rfl)
  · exact (fun x3 s4 j5 t => put_1 j5.2 rfl)
  · intro x3 s4 j5
    unfold B_row_with_1
    refine z_exprU (E' := (fun (v_found6 : (List (Option Int))) (t : Unit) => [some (.d (Enc.enc v_some)), some (.ls false (v_found6.map Enc.enc)), some (.d (Enc.enc x3))])) ?_ ?_ ?_
    · exact (m_U 1 (b := false) (xs := s4) (E' := (fun (v_found6 : (List (Option Int))) (t : Unit) => [some (.d (Enc.enc v_some)), some (.ls false (v_found6.map Enc.enc)), some (.d (Enc.enc x3))])) k_extT (fun _ => rfl) (a_1 (j_frzL (j_bin q_mulL (JE.r (j_frzL (j_lst (j_cons (j_some (j_v 2 fun _ => rfl)) j_nil)))) (JE.r (j_frzD (j_bin q_ixL (JE.r (j_v 0 fun _ => rfl)) (JE.r (j_v 2 fun _ => rfl)))))))) (fun _ _ => rfl))
    · exact (fun _ => trivial)
    intro v_found6
    exact z_nil (fun t => ⟨.inl rfl, (jkd (Enc.enc x3)), rfl⟩)
  intro s4 j5
  refine z_last ?_
  refine z_share 1 (E' := (fun (t : Unit) => [some (.d (Enc.enc v_some)), some (.d (Enc.enc s4)), j5.1])) ?_ ?_
  · exact (fun _ => rfl)
  refine z_ret (P := pL) (o := fun a => a) ?_ ?_ ?_
  · exact (j_call1 c_row_of (j_v 1 fun _ => rfl))
  · exact (fun _ => trivial)
  · exact (fun a v t p => .inl ⟨_, rfl, p⟩)
/-! woven -/
def B_woven_1 (v_rows2 : (List (List Int))) (v_turns : (List Int)) (x4 : Int) (s5 : (List Int)) : T Unit ((List Int)) :=
  (bd (bd (bd (bd (rt v_rows2) fun a => bd (rt x4) fun b => lo (atI a b)) fun a => bd (bd (bd (rt v_turns) fun a => bd (rt none) fun i => bd (bd (bd (rt s5) fun a => rt (a.length : Int)) fun i => rt (some i)) fun j => rt (cut a i j)) fun a => bd (rt x4) fun b => lo (some (cnt a b))) fun b => lo (atI a b)) fun y => lo (appT s5 y)) fun v_found7 => (rt v_found7))
def P_woven (v_one : (List Int)) (v_other : (List Int)) (v_turns : (List Int)) : Rs (List Int) :=
  run1 (bd (bd (bd (bd (rt v_one) fun a => up (P_apart a)) fun a => bd (bd (bd (rt v_other) fun a => up (P_apart a)) fun a => bd (rt ([] : List (List Int))) fun as => rt (a :: as)) fun as => rt (a :: as)) fun as => lo (if as.length ≤ 1000 then some as else none)) fun v_rows1 => (bd (bd (bd (rt v_turns) fun a => lo (some (srt a))) fun a => bd (bd (bd (bd (bd (rt (0 : Int)) fun a => bd (rt ([] : List Int)) fun as => rt (a :: as)) fun as => lo (if as.length ≤ 1000 then some as else none)) fun a => bd (bd (rt v_one) fun a => rt (a.length : Int)) fun b => lo (mulL a b)) fun a => bd (bd (bd (bd (rt (1 : Int)) fun a => bd (rt ([] : List Int)) fun as => rt (a :: as)) fun as => lo (if as.length ≤ 1000 then some as else none)) fun a => bd (bd (rt v_other) fun a => rt (a.length : Int)) fun b => lo (mulL a b)) fun b => lo (addL a b)) fun b => lo (some (!eqT a b))) fun k => if k then (erT 5) else (bd (bd (rt v_one) fun a => lo (some a)) fun a => bd (rt (0 : Int)) fun j => bd (lo (setT v_rows1 j a)) fun v_rows2 => (bd (bd (rt ([] : List Int)) fun as => lo (if as.length ≤ 1000 then some as else none)) fun v_found3 => (bd (rt v_turns) fun xs => bd (lp (B_woven_1 v_rows2 v_turns) xs v_found3) fun (s5 : (List Int)) => (bd (bd (rt s5) fun a => up (P_look_row a)) fun _u8 => (rt s5)))))))
theorem c_woven (v_one : (List Int)) (v_other : (List Int)) (v_turns : (List Int)) : CF pD (F_woven [.d (Enc.enc v_one), .d (Enc.enc v_other), .d (Enc.enc v_turns)]) 3 (P_woven v_one v_other v_turns) := by
  refine c_body (ds := [Enc.enc v_one, Enc.enc v_other, Enc.enc v_turns]) (E := (fun (t : Unit) => [some (.d (Enc.enc v_one)), some (.d (Enc.enc v_other)), some (.d (Enc.enc v_turns)), none, none, none])) rfl ?_
  rw [seqM_nil]
  refine z_setL 3 (E' := (fun (v_rows1 : (List (List Int))) (t : Unit) => [some (.d (Enc.enc v_one)), some (.d (Enc.enc v_other)), some (.d (Enc.enc v_turns)), some (.ls false (v_rows1.map Enc.enc)), none, none])) ?_ ?_ ?_ ?_ ?_
  · exact (j_lst (j_cons (j_frzL (j_call1 c_apart (j_v 0 fun _ => rfl))) (j_cons (j_frzL (j_call1 c_apart (j_v 1 fun _ => rfl))) j_nil)))
  · exact (fun _ => trivial)
  · exact (fun _ => rfl)
  · exact (fun _ _ => rfl)
  intro v_rows1
  refine z_ifE ?_ ?_ ?_ ?_
  · exact (j_cmpT (q_ne (by decide)) (JE.r (j_frzL (j_bi1 q_sortI (JE.r (j_v 2 fun _ => rfl))))) (JE.r (j_frzL (j_bin q_addL (JE.r (j_frzL (j_bin q_mulL (JE.r (j_frzL (j_lst (j_cons (j_c rfl) j_nil)))) (JE.r (j_len (JE.r (j_v 0 fun _ => rfl))))))) (JE.r (j_frzL (j_bin q_mulL (JE.r (j_frzL (j_lst (j_cons (j_c rfl) j_nil)))) (JE.r (j_len (JE.r (j_v 1 fun _ => rfl)))))))))))
  · exact (fun _ => trivial)
  ·
    exact z_raise (fun _ => trivial)
  refine z_setIt 3 (b := false) (xs := v_rows1) (E' := (fun (v_rows2 : (List (List Int))) (t : Unit) => [some (.d (Enc.enc v_one)), some (.d (Enc.enc v_other)), some (.d (Enc.enc v_turns)), some (.ls false (v_rows2.map Enc.enc)), none, none])) ?_ ?_ ?_ ?_ ?_ ?_
  · exact (fun _ => rfl)
  · exact (j_frzL (j_bi1 q_list (JE.r (j_v 0 fun _ => rfl))))
  · exact (JE.r (j_c rfl))
  · exact (fun _ => trivial)
  · exact (fun _ _ => rfl)
  intro v_rows2
  refine z_setL 4 (E' := (fun (v_found3 : (List Int)) (t : Unit) => [some (.d (Enc.enc v_one)), some (.d (Enc.enc v_other)), some (.d (Enc.enc v_turns)), some (.ls false (v_rows2.map Enc.enc)), some (.ls false (v_found3.map Enc.enc)), none])) ?_ ?_ ?_ ?_ ?_
  · exact (j_lst j_nil)
  · exact (fun _ => trivial)
  · exact (fun _ => rfl)
  · exact (fun _ _ => rfl)
  intro v_found3
  refine z_for (tg := .one 5) (s0 := v_found3) (fun (s5 : (List Int)) (j6 : Jk) (t : Unit) => [some (.d (Enc.enc v_one)), some (.d (Enc.enc v_other)), some (.d (Enc.enc v_turns)), some (.ls false (v_rows2.map Enc.enc)), some (.ls false (s5.map Enc.enc)), j6.1]) (EB := (fun (x4 : Int) (s5 : (List Int)) (j6 : Jk) (t : Unit) => [some (.d (Enc.enc v_one)), some (.d (Enc.enc v_other)), some (.d (Enc.enc v_turns)), some (.ls false (v_rows2.map Enc.enc)), some (.ls false (s5.map Enc.enc)), some (.d (Enc.enc x4))])) ?_ ?_ jk0 ?_ ?_ ?_ ?_
  · exact (j_it (j_v 2 fun _ => rfl))
  · exact (fun _ => trivial)
  · exact (fun t => rfl)
  · exact (fun x4 s5 j6 t => put_1 j6.2 rfl)
  · intro x4 s5 j6
    unfold B_woven_1
    refine z_exprU (E' := (fun (v_found7 : (List Int)) (t : Unit) => [some (.d (Enc.enc v_one)), some (.d (Enc.enc v_other)), some (.d (Enc.enc v_turns)), some (.ls false (v_rows2.map Enc.enc)), some (.ls false (v_found7.map Enc.enc)), some (.d (Enc.enc x4))])) ?_ ?_ ?_
    · exact (m_U 4 (b := false) (xs := s5) (E' := (fun (v_found7 : (List Int)) (t : Unit) => [some (.d (Enc.enc v_one)), some (.d (Enc.enc v_other)), some (.d (Enc.enc v_turns)), some (.ls false (v_rows2.map Enc.enc)), some (.ls false (v_found7.map Enc.enc)), some (.d (Enc.enc x4))])) k_appT (fun _ => rfl) (a_1 (j_frzD (j_bin q_ixL (JE.r (j_frzD (j_bin q_ixL (j_vl 3 fun _ => rfl) (JE.r (j_v 5 fun _ => rfl))))) (JE.r (j_look (q_count (by decide)) (JE.r (j_frzL (j_slice (JE.r (j_v 2 fun _ => rfl)) j_pN (j_pS (JE.r (j_len (j_vl 4 fun _ => rfl))))))) (JE.r (j_v 5 fun _ => rfl))))))) (fun _ _ => rfl))
    · exact (fun _ => trivial)
    intro v_found7
    exact z_nil (fun t => ⟨.inl rfl, (jkd (Enc.enc x4)), rfl⟩)
  intro s5 j6
  refine z_share 4 (E' := (fun (t : Unit) => [some (.d (Enc.enc v_one)), some (.d (Enc.enc v_other)), some (.d (Enc.enc v_turns)), some (.ls false (v_rows2.map Enc.enc)), some (.d (Enc.enc s5)), j6.1])) ?_ ?_
  · exact (fun _ => rfl)
  refine z_expr (P := pD) ?_ ?_ ?_
  · exact (j_call1 c_look_row (j_v 4 fun _ => rfl))
  · exact (fun _ => trivial)
  intro _u8
  refine z_last ?_
  refine z_retO 4 (v := .d (Enc.enc s5)) ?_ ?_
  · exact (fun _ => rfl)
  · exact (fun t => .inl ⟨_, rfl, (by first | rfl | exact .inl rfl | exact .inr ⟨_, rfl, rfl⟩)⟩)
/-! shared -/
def P_shared (v_one : (List Int)) (v_other : (List Int)) (v_turns : (List Int)) (v_room : Int) : Rs Int :=
  run1 (bd (bd (rt v_room) fun a => up (P_look_room a)) fun _u9 => (bd (bd (bd (rt ("last" : Str)) fun a => (bd (bd (rt v_one) fun a => (bd (rt v_other) fun b => (bd (rt v_turns) fun c => up (P_woven a b c)))) fun b => up (P_curve a b))) fun a => bd (rt v_room) fun b => lo (atI a b)) fun a => rt a))
theorem c_shared (v_one : (List Int)) (v_other : (List Int)) (v_turns : (List Int)) (v_room : Int) : CF pD (F_shared [.d (Enc.enc v_one), .d (Enc.enc v_other), .d (Enc.enc v_turns), .d (Enc.enc v_room)]) 4 (P_shared v_one v_other v_turns v_room) := by
  refine c_body (ds := [Enc.enc v_one, Enc.enc v_other, Enc.enc v_turns, Enc.enc v_room]) (E := (fun (t : Unit) => [some (.d (Enc.enc v_one)), some (.d (Enc.enc v_other)), some (.d (Enc.enc v_turns)), some (.d (Enc.enc v_room))])) rfl ?_
  rw [seqM_nil]
  refine z_expr (P := pD) ?_ ?_ ?_
  · exact (j_call1 c_look_room (j_v 3 fun _ => rfl))
  · exact (fun _ => trivial)
  intro _u9
  refine z_last ?_
  refine z_ret (P := pD) (o := fun a => a) ?_ ?_ ?_
  · exact (j_bin q_ixL (JE.r (j_frzL (j_call2 c_curve (j_c rfl) (j_frzD (j_call3 c_woven (j_v 0 fun _ => rfl) (j_v 1 fun _ => rfl) (j_v 2 fun _ => rfl)))))) (JE.r (j_v 3 fun _ => rfl)))
  · exact (fun _ => trivial)
  · exact (fun a v t p => .inl ⟨_, rfl, p⟩)
/-! parted -/
def P_parted (v_one : (List Int)) (v_other : (List Int)) (v_first : Int) (v_second : Int) : Rs Int :=
  run1 (bd (bd (rt v_first) fun a => up (P_look_room a)) fun _u11 => (bd (bd (rt v_second) fun a => up (P_look_room a)) fun _u10 => (bd (bd (bd (bd (rt ("last" : Str)) fun a => (bd (rt v_one) fun b => up (P_curve a b))) fun a => bd (rt v_first) fun b => lo (atI a b)) fun a => bd (bd (bd (rt ("last" : Str)) fun a => (bd (rt v_other) fun b => up (P_curve a b))) fun a => bd (rt v_second) fun b => lo (atI a b)) fun b => lo (some (a + b))) fun a => rt a)))
theorem c_parted (v_one : (List Int)) (v_other : (List Int)) (v_first : Int) (v_second : Int) : CF pD (F_parted [.d (Enc.enc v_one), .d (Enc.enc v_other), .d (Enc.enc v_first), .d (Enc.enc v_second)]) 4 (P_parted v_one v_other v_first v_second) := by
  refine c_body (ds := [Enc.enc v_one, Enc.enc v_other, Enc.enc v_first, Enc.enc v_second]) (E := (fun (t : Unit) => [some (.d (Enc.enc v_one)), some (.d (Enc.enc v_other)), some (.d (Enc.enc v_first)), some (.d (Enc.enc v_second))])) rfl ?_
  rw [seqM_nil]
  refine z_expr (P := pD) ?_ ?_ ?_
  · exact (j_call1 c_look_room (j_v 2 fun _ => rfl))
  · exact (fun _ => trivial)
  intro _u11
  refine z_expr (P := pD) ?_ ?_ ?_
  · exact (j_call1 c_look_room (j_v 3 fun _ => rfl))
  · exact (fun _ => trivial)
  intro _u10
  refine z_last ?_
  refine z_ret (P := pD) (o := fun a => a) ?_ ?_ ?_
  · exact (j_bin q_addI (JE.r (j_frzD (j_bin q_ixL (JE.r (j_frzL (j_call2 c_curve (j_c rfl) (j_v 0 fun _ => rfl)))) (JE.r (j_v 2 fun _ => rfl))))) (JE.r (j_frzD (j_bin q_ixL (JE.r (j_frzL (j_call2 c_curve (j_c rfl) (j_v 1 fun _ => rfl)))) (JE.r (j_v 3 fun _ => rfl))))))
  · exact (fun _ => trivial)
  · exact (fun a v t p => .inl ⟨_, rfl, p⟩)
/-! best_parting -/
def P_best_parting (v_one : (List Int)) (v_other : (List Int)) (v_room : Int) : Rs (Int × Int) :=
  run1 (bd (bd (rt v_room) fun a => up (P_look_room a)) fun _u4 => (bd (bd (bd (bd (rt v_room) fun a => bd (rt (1 : Int)) fun b => lo (some (a + b))) fun j => lo (if mid j then some (rng 0 j) else none)) fun xs => cmpG xs fun (x1 : Int) => bd (rt true) fun b => if b then bd (bd (bd (rt v_one) fun a => (bd (rt v_other) fun b => (bd (rt x1) fun c => (bd (bd (rt v_room) fun a => bd (rt x1) fun b => lo (some (a - b))) fun e => up (P_parted a b c e))))) fun a => bd (rt x1) fun b => rt (a, b)) fun y => rt (some y) else rt none) fun v_some2 => (bd (bd (rt v_some2) fun a => lo (minE a)) fun v_tu3 => (bd (bd (rt v_tu3.2) fun a => bd (rt v_tu3.1) fun b => rt (a, b)) fun a => rt a))))
theorem c_best_parting (v_one : (List Int)) (v_other : (List Int)) (v_room : Int) : CF pD (F_best_parting [.d (Enc.enc v_one), .d (Enc.enc v_other), .d (Enc.enc v_room)]) 3 (P_best_parting v_one v_other v_room) := by
  refine c_body (ds := [Enc.enc v_one, Enc.enc v_other, Enc.enc v_room]) (E := (fun (t : Unit) => [some (.d (Enc.enc v_one)), some (.d (Enc.enc v_other)), some (.d (Enc.enc v_room)), none, none, none])) rfl ?_
  rw [seqM_nil]
  refine z_expr (P := pD) ?_ ?_ ?_
  · exact (j_call1 c_look_room (j_v 2 fun _ => rfl))
  · exact (fun _ => trivial)
  intro _u4
  refine z_setL 3 (E' := (fun (v_some2 : (List (Int × Int))) (t : Unit) => [some (.d (Enc.enc v_one)), some (.d (Enc.enc v_other)), some (.d (Enc.enc v_room)), some (.ls false (v_some2.map Enc.enc)), none, none])) ?_ ?_ ?_ ?_ ?_
  · exact (j_lc (Ei := fun (x1 : Int) => (fun (t : Unit) => [some (.d (Enc.enc v_one)), some (.d (Enc.enc v_other)), some (.d (Enc.enc v_room)), none, none, some (.d (Enc.enc x1))])) (j_rg1 (j_frzD (j_bin q_addI (JE.r (j_v 2 fun _ => rfl)) (JE.r (j_c rfl))))) (fun t => any_1 rfl) (fun _ _ => rfl) (fun _ _ _ => rfl) (fun x1 => (J.ret rfl)) (fun x1 => (j_tup2 (j_frzD (j_call4 c_parted (j_v 0 fun _ => rfl) (j_v 1 fun _ => rfl) (j_v 5 fun _ => rfl) (j_frzD (j_bin q_subI (JE.r (j_v 2 fun _ => rfl)) (JE.r (j_v 5 fun _ => rfl)))))) (j_v 5 fun _ => rfl))))
  · exact (fun _ => trivial)
  · exact (fun _ => rfl)
  · exact (fun _ _ => rfl)
  intro v_some2
  refine z_asg (E' := (fun (v_tu3 : (Int × Int)) (t : Unit) => [some (.d (Enc.enc v_one)), some (.d (Enc.enc v_other)), some (.d (Enc.enc v_room)), some (.ls false (v_some2.map Enc.enc)), some (.d (Enc.enc v_tu3.1)), some (.d (Enc.enc v_tu3.2))])) ?_ ?_ ?_ ?_
  · exact (j_frzD (j_bi1 (q_minE (by decide)) (j_vl 3 fun _ => rfl)))
  · exact (fun _ => trivial)
  · exact (fun _ _ => put_2 rfl rfl rfl rfl)
  intro v_tu3
  refine z_last ?_
  refine z_ret (P := pD) (o := fun a => a) ?_ ?_ ?_
  · exact (j_data (j_tup2 (j_v 5 fun _ => rfl) (j_v 4 fun _ => rfl)))
  · exact (fun _ => trivial)
  · exact (fun a v t p => .inl ⟨_, rfl, p⟩)
/-! best_of_many -/
def B_best_of_many_2 (s7 : ((List (Int × (List Int))))) (v_misses9 : (List Int)) (x11 : Int) (s12 : (List (Int × (List Int)))) : T Unit ((List (Int × (List Int)))) :=
  (bd (bd (bd (bd (rt x11) fun a => bd (rt (1 : Int)) fun b => lo (some (a + b))) fun j => lo (if mid j then some (rng 0 j) else none)) fun xs => cmpG xs fun (x14 : Int) => bd (rt true) fun b => if b then bd (bd (rt s7) fun a => bd (bd (rt x11) fun a => bd (rt x14) fun b => lo (some (a - b))) fun b => lo (atI a b)) fun y => rt (some y) else rt none) fun v_some15 => (bd (bd (bd (bd (bd (bd (rt x11) fun a => bd (rt (1 : Int)) fun b => lo (some (a + b))) fun j => lo (if mid j then some (rng 0 j) else none)) fun xs => cmpG xs fun (x17 : Int) => bd (rt true) fun b => if b then bd (bd (bd (bd (bd (rt v_some15) fun a => bd (rt x17) fun b => lo (atI a b)) fun p => rt p.1) fun a => bd (bd (rt v_misses9) fun a => bd (rt x17) fun b => lo (atI a b)) fun b => lo (some (a + b))) fun a => bd (bd (bd (bd (rt v_some15) fun a => bd (rt x17) fun b => lo (atI a b)) fun p => rt p.2) fun a => bd (bd (bd (rt x17) fun a => bd (rt ([] : List Int)) fun as => rt (a :: as)) fun as => lo (if as.length ≤ 1000 then some as else none)) fun b => lo (addL a b)) fun b => rt (a, b)) fun y => rt (some y) else rt none) fun a => lo (minE a)) fun y => lo (appT s12 y)) fun v_later16 => (rt v_later16)))
def B_best_of_many_1 (v_room : Int) (x6 : (List Int)) (s7 : (List (Int × (List Int)))) : T Unit ((List (Int × (List Int)))) :=
  (bd (bd (rt ("last" : Str)) fun a => (bd (rt x6) fun b => up (P_curve a b))) fun v_misses9 => (bd (bd (rt ([] : List (Int × (List Int)))) fun as => lo (if as.length ≤ 1000 then some as else none)) fun v_later10 => (bd (bd (bd (rt v_room) fun a => bd (rt (1 : Int)) fun b => lo (some (a + b))) fun j => lo (if mid j then some (rng 0 j) else none)) fun xs => bd (lp (B_best_of_many_2 s7 v_misses9) xs v_later10) fun (s12 : (List (Int × (List Int)))) => (bd (rt s12) fun v_ways18 => (rt v_ways18)))))
def P_best_of_many (v_rows : (List (List Int))) (v_room : Int) : Rs ((List Int) × Int) :=
  run1 (bd (bd (rt v_room) fun a => up (P_look_room a)) fun _u19 => (bd (bd (bd (bd (bd (rt (0 : Int)) fun a => bd (bd (rt ([] : List Int)) fun as => lo (if as.length ≤ 1000 then some as else none)) fun b => rt (a, b)) fun a => bd (rt ([] : List (Int × (List Int)))) fun as => rt (a :: as)) fun as => lo (if as.length ≤ 1000 then some as else none)) fun a => bd (bd (rt v_room) fun a => bd (rt (1 : Int)) fun b => lo (some (a + b))) fun b => lo (mulL a b)) fun v_ways5 => (bd (rt v_rows) fun xs => bd (lp (B_best_of_many_1 v_room) xs v_ways5) fun (s7 : (List (Int × (List Int)))) => (bd (bd (bd (bd (rt s7) fun a => bd (rt v_room) fun b => lo (atI a b)) fun p => rt p.2) fun a => bd (bd (bd (rt s7) fun a => bd (rt v_room) fun b => lo (atI a b)) fun p => rt p.1) fun b => rt (a, b)) fun a => rt a))))
theorem c_best_of_many (v_rows : (List (List Int))) (v_room : Int) : CF pD (F_best_of_many [.d (Enc.enc v_rows), .d (Enc.enc v_room)]) 2 (P_best_of_many v_rows v_room) := by
  refine c_body (ds := [Enc.enc v_rows, Enc.enc v_room]) (E := (fun (t : Unit) => [some (.d (Enc.enc v_rows)), some (.d (Enc.enc v_room)), none, none, none, none, none, none, none])) rfl ?_
  rw [seqM_nil]
  refine z_expr (P := pD) ?_ ?_ ?_
  · exact (j_call1 c_look_room (j_v 1 fun _ => rfl))
  · exact (fun _ => trivial)
  intro _u19
  refine z_setL 2 (E' := (fun (v_ways5 : (List (Int × (List Int)))) (t : Unit) => [some (.d (Enc.enc v_rows)), some (.d (Enc.enc v_room)), some (.ls false (v_ways5.map Enc.enc)), none, none, none, none, none, none])) ?_ ?_ ?_ ?_ ?_
  · exact (j_bin q_mulL (JE.r (j_frzL (j_lst (j_cons (j_tup2 (j_c rfl) (j_frzL (j_lst j_nil))) j_nil)))) (JE.r (j_frzD (j_bin q_addI (JE.r (j_v 1 fun _ => rfl)) (JE.r (j_c rfl))))))
  · exact (fun _ => trivial)
  · exact (fun _ => rfl)
  · exact (fun _ _ => rfl)
  intro v_ways5
  refine z_for (tg := .one 3) (s0 := v_ways5) (fun (s7 : (List (Int × (List Int)))) (j8 : Bool × Jk × Jr × Jk × Jk × Jr) (t : Unit) => [some (.d (Enc.enc v_rows)), some (.d (Enc.enc v_room)), some (lsx j8.1 (Enc.enc s7)), j8.2.1.1, j8.2.2.1.1, j8.2.2.2.1.1, j8.2.2.2.2.1.1, j8.2.2.2.2.2.1, none]) (EB := (fun (x6 : (List Int)) (s7 : (List (Int × (List Int)))) (j8 : Bool × Jk × Jr × Jk × Jk × Jr) (t : Unit) => [some (.d (Enc.enc v_rows)), some (.d (Enc.enc v_room)), some (lsx j8.1 (Enc.enc s7)), some (.d (Enc.enc x6)), j8.2.2.1.1, j8.2.2.2.1.1, j8.2.2.2.2.1.1, j8.2.2.2.2.2.1, none])) ?_ ?_ (false, jk0, jr0, jk0, jk0, jr0) ?_ ?_ ?_ ?_
  · exact (j_it (j_v 0 fun _ => rfl))
  · exact (fun _ => trivial)
  · exact (fun t => rfl)
  · exact (fun x6 s7 j8 t => put_1 j8.2.1.2 rfl)
  · intro x6 s7 j8
    unfold B_best_of_many_1
    rw [seqM_nil]
    refine z_setL 4 (E' := (fun (v_misses9 : (List Int)) (t : Unit) => [some (.d (Enc.enc v_rows)), some (.d (Enc.enc v_room)), some (lsx j8.1 (Enc.enc s7)), some (.d (Enc.enc x6)), some (.ls false (v_misses9.map Enc.enc)), j8.2.2.2.1.1, j8.2.2.2.2.1.1, j8.2.2.2.2.2.1, none])) ?_ ?_ ?_ ?_ ?_
    · exact (j_call2 c_curve (j_c rfl) (j_v 3 fun _ => rfl))
    · exact (fun _ => trivial)
    · exact (fun _ => j8.2.2.1.2)
    · exact (fun _ _ => rfl)
    intro v_misses9
    refine z_setL 5 (E' := (fun (v_later10 : (List (Int × (List Int)))) (t : Unit) => [some (.d (Enc.enc v_rows)), some (.d (Enc.enc v_room)), some (lsx j8.1 (Enc.enc s7)), some (.d (Enc.enc x6)), some (.ls false (v_misses9.map Enc.enc)), some (.ls false (v_later10.map Enc.enc)), j8.2.2.2.2.1.1, j8.2.2.2.2.2.1, none])) ?_ ?_ ?_ ?_ ?_
    · exact (j_lst j_nil)
    · exact (fun _ => trivial)
    · exact (fun _ => ref_of_own j8.2.2.2.1.2)
    · exact (fun _ _ => rfl)
    intro v_later10
    refine z_for (tg := .one 6) (s0 := v_later10) (fun (s12 : (List (Int × (List Int)))) (j13 : Bool × Jk × Jr) (t : Unit) => [some (.d (Enc.enc v_rows)), some (.d (Enc.enc v_room)), some (lsx j13.1 (Enc.enc s7)), some (.d (Enc.enc x6)), some (.ls false (v_misses9.map Enc.enc)), some (.ls false (s12.map Enc.enc)), j13.2.1.1, j13.2.2.1, none]) (EB := (fun (x11 : Int) (s12 : (List (Int × (List Int)))) (j13 : Bool × Jk × Jr) (t : Unit) => [some (.d (Enc.enc v_rows)), some (.d (Enc.enc v_room)), some (lsx j13.1 (Enc.enc s7)), some (.d (Enc.enc x6)), some (.ls false (v_misses9.map Enc.enc)), some (.ls false (s12.map Enc.enc)), some (.d (Enc.enc x11)), j13.2.2.1, none])) ?_ ?_ (j8.1, j8.2.2.2.2.1, j8.2.2.2.2.2) ?_ ?_ ?_ ?_
    · exact (j_rg1 (j_frzD (j_bin q_addI (JE.r (j_v 1 fun _ => rfl)) (JE.r (j_c rfl)))))
    · exact (fun _ => trivial)
    · exact (fun t => rfl)
    · exact (fun x11 s12 j13 t => put_1 j13.2.1.2 rfl)
    · intro x11 s12 j13
      unfold B_best_of_many_2
      rw [seqM_nil]
      refine z_setL 7 (E' := (fun (v_some15 : (List (Int × (List Int)))) (t : Unit) => [some (.d (Enc.enc v_rows)), some (.d (Enc.enc v_room)), some (lsx j13.1 (Enc.enc s7)), some (.d (Enc.enc x6)), some (.ls false (v_misses9.map Enc.enc)), some (.ls false (s12.map Enc.enc)), some (.d (Enc.enc x11)), some (.ls false (v_some15.map Enc.enc)), none])) ?_ ?_ ?_ ?_ ?_
      · exact (j_lc (Ei := fun (x14 : Int) => (fun (t : Unit) => [some (.d (Enc.enc v_rows)), some (.d (Enc.enc v_room)), some (lsx j13.1 (Enc.enc s7)), some (.d (Enc.enc x6)), some (.ls false (v_misses9.map Enc.enc)), some (.ls false (s12.map Enc.enc)), some (.d (Enc.enc x11)), j13.2.2.1, some (.d (Enc.enc x14))])) (j_rg1 (j_frzD (j_bin q_addI (JE.r (j_v 6 fun _ => rfl)) (JE.r (j_c rfl))))) (fun t => any_1 rfl) (fun _ _ => rfl) (fun _ _ _ => rfl) (fun x14 => (J.ret rfl)) (fun x14 => (j_frzD (j_bin q_ixL (j_vX 2 fun _ => rfl) (JE.r (j_frzD (j_bin q_subI (JE.r (j_v 6 fun _ => rfl)) (JE.r (j_v 8 fun _ => rfl)))))))))
      · exact (fun _ => trivial)
      · exact (fun _ => j13.2.2.2)
      · exact (fun _ _ => rfl)
      intro v_some15
      refine z_last ?_
      refine z_exprU (E' := (fun (v_later16 : (List (Int × (List Int)))) (t : Unit) => [some (.d (Enc.enc v_rows)), some (.d (Enc.enc v_room)), some (lsx j13.1 (Enc.enc s7)), some (.d (Enc.enc x6)), some (.ls false (v_misses9.map Enc.enc)), some (.ls false (v_later16.map Enc.enc)), some (.d (Enc.enc x11)), some (.ls false (v_some15.map Enc.enc)), none])) ?_ ?_ ?_
      · exact (m_U 5 (b := false) (xs := s12) (E' := (fun (v_later16 : (List (Int × (List Int)))) (t : Unit) => [some (.d (Enc.enc v_rows)), some (.d (Enc.enc v_room)), some (lsx j13.1 (Enc.enc s7)), some (.d (Enc.enc x6)), some (.ls false (v_misses9.map Enc.enc)), some (.ls false (v_later16.map Enc.enc)), some (.d (Enc.enc x11)), some (.ls false (v_some15.map Enc.enc)), none])) k_appT (fun _ => rfl) (a_1 (j_frzD (j_bi1 (q_minE (by decide)) (JE.r (j_frzL (j_lc (Ei := fun (x17 : Int) => (fun (t : Unit) => [some (.d (Enc.enc v_rows)), some (.d (Enc.enc v_room)), some (lsx j13.1 (Enc.enc s7)), some (.d (Enc.enc x6)), some (.ls false (v_misses9.map Enc.enc)), some (.ls false (s12.map Enc.enc)), some (.d (Enc.enc x11)), some (.ls false (v_some15.map Enc.enc)), some (.d (Enc.enc x17))])) (j_rg1 (j_frzD (j_bin q_addI (JE.r (j_v 6 fun _ => rfl)) (JE.r (j_c rfl))))) (fun t => any_1 rfl) (fun _ _ => rfl) (fun _ _ _ => rfl) (fun x17 => (J.ret rfl)) (fun x17 => (j_tup2 (j_frzD (j_bin q_addI (JE.r (j_frzD (j_fst (JE.r (j_frzD (j_bin q_ixL (j_vl 7 fun _ => rfl) (JE.r (j_v 8 fun _ => rfl)))))))) (JE.r (j_frzD (j_bin q_ixL (j_vl 4 fun _ => rfl) (JE.r (j_v 8 fun _ => rfl))))))) (j_frzL (j_bin q_addL (JE.r (j_frzD (j_snd (JE.r (j_frzD (j_bin q_ixL (j_vl 7 fun _ => rfl) (JE.r (j_v 8 fun _ => rfl)))))))) (JE.r (j_frzL (j_lst (j_cons (j_v 8 fun _ => rfl) j_nil)))))))))))))) (fun _ _ => rfl))
      · exact (fun _ => trivial)
      intro v_later16
      exact z_nil (fun t => ⟨.inl rfl, (j13.1, (jkd (Enc.enc x11)), (jrl (v_some15.map Enc.enc))), rfl⟩)
    intro s12 j13
    refine z_last ?_
    refine z_share 5 (E' := (fun (t : Unit) => [some (.d (Enc.enc v_rows)), some (.d (Enc.enc v_room)), some (lsx j13.1 (Enc.enc s7)), some (.d (Enc.enc x6)), some (.ls false (v_misses9.map Enc.enc)), some (.d (Enc.enc s12)), j13.2.1.1, j13.2.2.1, none])) ?_ ?_
    · exact (fun _ => rfl)
    refine z_setD 2 (E' := (fun (v_ways18 : (List (Int × (List Int)))) (t : Unit) => [some (.d (Enc.enc v_rows)), some (.d (Enc.enc v_room)), some (.d (Enc.enc v_ways18)), some (.d (Enc.enc x6)), some (.ls false (v_misses9.map Enc.enc)), some (.d (Enc.enc s12)), j13.2.1.1, j13.2.2.1, none])) ?_ ?_ ?_ ?_ ?_
    · exact (j_data (j_v 5 fun _ => rfl))
    · exact (fun _ => trivial)
    · exact (fun _ => lsx_ref _ _)
    · exact (fun _ _ => rfl)
    intro v_ways18
    exact z_nil (fun t => ⟨.inl rfl, (true, (jkd (Enc.enc x6)), (jrl (v_misses9.map Enc.enc)), (jkd (Enc.enc s12)), j13.2.1, j13.2.2), (by first | (simp only [lsx_t]; done) | (simp only [lsx_t]; rfl))⟩)
  intro s7 j8
  refine z_last ?_
  refine z_ret (P := pD) (o := fun a => a) ?_ ?_ ?_
  · exact (j_data (j_tup2 (j_frzD (j_snd (JE.r (j_frzD (j_bin q_ixL (j_vX 2 fun _ => rfl) (JE.r (j_v 1 fun _ => rfl))))))) (j_frzD (j_fst (JE.r (j_frzD (j_bin q_ixL (j_vX 2 fun _ => rfl) (JE.r (j_v 1 fun _ => rfl)))))))))
  · exact (fun _ => trivial)
  · exact (fun a v t p => .inl ⟨_, rfl, p⟩)
/-! levels -/
def B_levels_1 (v_near : Int) (v_far : Int) (x4 : Int) (s5 : (List Int) × (List Int) × (List Str)) : T Unit ((List Int) × (List Int) × (List Str)) :=
  (bd (bd (bd (bd (rt x4) fun a => bd (rt s5.1) fun b => lo (some (inL a b))) fun k => if k then (rt ("near" : Str)) else (bd (bd (rt x4) fun a => bd (rt s5.2.1) fun b => lo (some (inL a b))) fun k => if k then (rt ("far" : Str)) else (rt ("none" : Str)))) fun y => lo (appT s5.2.2 y)) fun v_found7 => (bd (bd (bd (bd (rt x4) fun a => bd (rt ([] : List Int)) fun as => rt (a :: as)) fun as => lo (if as.length ≤ 1000 then some as else none)) fun a => bd (bd (rt s5.1) fun xs => cmpG xs fun (x8 : Int) => bd (bd (rt x8) fun a => bd (rt x4) fun b => lo (some (!eqT a b))) fun b => if b then bd (rt x8) fun y => rt (some y) else rt none) fun b => lo (addL a b)) fun v_one9 => (bd (bd (bd (rt v_one9) fun a => bd (bd (rt v_near) fun i => rt (some i)) fun i => bd (rt none) fun j => rt (cut a i j)) fun a => bd (bd (rt s5.2.1) fun xs => cmpG xs fun (x10 : Int) => bd (bd (rt x10) fun a => bd (rt x4) fun b => lo (some (!eqT a b))) fun b => if b then bd (rt x10) fun y => rt (some y) else rt none) fun b => lo (addL a b)) fun v_other11 => (bd (bd (rt v_one9) fun a => bd (rt none) fun i => bd (bd (rt v_near) fun i => rt (some i)) fun j => rt (cut a i j)) fun v_one12 => (bd (bd (rt v_other11) fun a => bd (rt none) fun i => bd (bd (rt v_far) fun i => rt (some i)) fun j => rt (cut a i j)) fun v_other13 => (rt (v_one12, v_other13, v_found7)))))))
def P_levels (v_near : Int) (v_far : Int) (v_row : (List Int)) : Rs (List Str) :=
  run1 (bd (bd (rt v_near) fun a => up (P_look_room a)) fun _u16 => (bd (bd (rt v_far) fun a => up (P_look_room a)) fun _u15 => (bd (bd (rt v_row) fun a => up (P_look_row a)) fun _u14 => (bd (bd (rt ([] : List Int)) fun as => lo (if as.length ≤ 1000 then some as else none)) fun v_one1 => (bd (bd (rt ([] : List Int)) fun as => lo (if as.length ≤ 1000 then some as else none)) fun v_other2 => (bd (bd (rt ([] : List Str)) fun as => lo (if as.length ≤ 1000 then some as else none)) fun v_found3 => (bd (rt v_row) fun xs => bd (lp (B_levels_1 v_near v_far) xs (v_one1, v_other2, v_found3)) fun (s5 : (List Int) × (List Int) × (List Str)) => (rt s5.2.2))))))))
theorem c_levels (v_near : Int) (v_far : Int) (v_row : (List Int)) : CF pL (F_levels [.d (Enc.enc v_near), .d (Enc.enc v_far), .d (Enc.enc v_row)]) 3 (P_levels v_near v_far v_row) := by
  refine c_body (ds := [Enc.enc v_near, Enc.enc v_far, Enc.enc v_row]) (E := (fun (t : Unit) => [some (.d (Enc.enc v_near)), some (.d (Enc.enc v_far)), some (.d (Enc.enc v_row)), none, none, none, none, none])) rfl ?_
  rw [seqM_nil]
  refine z_expr (P := pD) ?_ ?_ ?_
  · exact (j_call1 c_look_room (j_v 0 fun _ => rfl))
  · exact (fun _ => trivial)
  intro _u16
  refine z_expr (P := pD) ?_ ?_ ?_
  · exact (j_call1 c_look_room (j_v 1 fun _ => rfl))
  · exact (fun _ => trivial)
  intro _u15
  refine z_expr (P := pD) ?_ ?_ ?_
  · exact (j_call1 c_look_row (j_v 2 fun _ => rfl))
  · exact (fun _ => trivial)
  intro _u14
  refine z_setL 3 (E' := (fun (v_one1 : (List Int)) (t : Unit) => [some (.d (Enc.enc v_near)), some (.d (Enc.enc v_far)), some (.d (Enc.enc v_row)), some (.ls false (v_one1.map Enc.enc)), none, none, none, none])) ?_ ?_ ?_ ?_ ?_
  · exact (j_lst j_nil)
  · exact (fun _ => trivial)
  · exact (fun _ => rfl)
  · exact (fun _ _ => rfl)
  intro v_one1
  refine z_setL 4 (E' := (fun (v_other2 : (List Int)) (t : Unit) => [some (.d (Enc.enc v_near)), some (.d (Enc.enc v_far)), some (.d (Enc.enc v_row)), some (.ls false (v_one1.map Enc.enc)), some (.ls false (v_other2.map Enc.enc)), none, none, none])) ?_ ?_ ?_ ?_ ?_
  · exact (j_lst j_nil)
  · exact (fun _ => trivial)
  · exact (fun _ => rfl)
  · exact (fun _ _ => rfl)
  intro v_other2
  refine z_setL 5 (E' := (fun (v_found3 : (List Str)) (t : Unit) => [some (.d (Enc.enc v_near)), some (.d (Enc.enc v_far)), some (.d (Enc.enc v_row)), some (.ls false (v_one1.map Enc.enc)), some (.ls false (v_other2.map Enc.enc)), some (.ls false (v_found3.map Enc.enc)), none, none])) ?_ ?_ ?_ ?_ ?_
  · exact (j_lst j_nil)
  · exact (fun _ => trivial)
  · exact (fun _ => rfl)
  · exact (fun _ _ => rfl)
  intro v_found3
  refine z_for (tg := .one 6) (s0 := (v_one1, v_other2, v_found3)) (fun (s5 : (List Int) × (List Int) × (List Str)) (j6 : Jk) (t : Unit) => [some (.d (Enc.enc v_near)), some (.d (Enc.enc v_far)), some (.d (Enc.enc v_row)), some (.ls false (s5.1.map Enc.enc)), some (.ls false (s5.2.1.map Enc.enc)), some (.ls false (s5.2.2.map Enc.enc)), j6.1, none]) (EB := (fun (x4 : Int) (s5 : (List Int) × (List Int) × (List Str)) (j6 : Jk) (t : Unit) => [some (.d (Enc.enc v_near)), some (.d (Enc.enc v_far)), some (.d (Enc.enc v_row)), some (.ls false (s5.1.map Enc.enc)), some (.ls false (s5.2.1.map Enc.enc)), some (.ls false (s5.2.2.map Enc.enc)), some (.d (Enc.enc x4)), none])) ?_ ?_ jk0 ?_ ?_ ?_ ?_
  · exact (j_it (j_v 2 fun _ => rfl))
  · exact (fun _ => trivial)
  · exact (fun t => rfl)
  · exact (fun x4 s5 j6 t => put_1 j6.2 rfl)
  · intro x4 s5 j6
    unfold B_levels_1
    rw [seqM_nil]
    refine z_exprU (E' := (fun (v_found7 : (List Str)) (t : Unit) => [some (.d (Enc.enc v_near)), some (.d (Enc.enc v_far)), some (.d (Enc.enc v_row)), some (.ls false (s5.1.map Enc.enc)), some (.ls false (s5.2.1.map Enc.enc)), some (.ls false (v_found7.map Enc.enc)), some (.d (Enc.enc x4)), none])) ?_ ?_ ?_
    · exact (m_U 5 (b := false) (xs := s5.2.2) (E' := (fun (v_found7 : (List Str)) (t : Unit) => [some (.d (Enc.enc v_near)), some (.d (Enc.enc v_far)), some (.d (Enc.enc v_row)), some (.ls false (s5.1.map Enc.enc)), some (.ls false (s5.2.1.map Enc.enc)), some (.ls false (v_found7.map Enc.enc)), some (.d (Enc.enc x4)), none])) k_appT (fun _ => rfl) (a_1 (j_if (j_cmpT (q_in (by decide)) (JE.r (j_v 6 fun _ => rfl)) (j_vl 3 fun _ => rfl)) (j_c rfl) (j_if (j_cmpT (q_in (by decide)) (JE.r (j_v 6 fun _ => rfl)) (j_vl 4 fun _ => rfl)) (j_c rfl) (j_c rfl)))) (fun _ _ => rfl))
    · exact (fun _ => trivial)
    intro v_found7
    refine z_share 3 (E' := (fun (t : Unit) => [some (.d (Enc.enc v_near)), some (.d (Enc.enc v_far)), some (.d (Enc.enc v_row)), some (.d (Enc.enc s5.1)), some (.ls false (s5.2.1.map Enc.enc)), some (.ls false (v_found7.map Enc.enc)), some (.d (Enc.enc x4)), none])) ?_ ?_
    · exact (fun _ => rfl)
    refine z_setL 3 (E' := (fun (v_one9 : (List Int)) (t : Unit) => [some (.d (Enc.enc v_near)), some (.d (Enc.enc v_far)), some (.d (Enc.enc v_row)), some (.ls false (v_one9.map Enc.enc)), some (.ls false (s5.2.1.map Enc.enc)), some (.ls false (v_found7.map Enc.enc)), some (.d (Enc.enc x4)), none])) ?_ ?_ ?_ ?_ ?_
    · exact (j_bin q_addL (JE.r (j_frzL (j_lst (j_cons (j_v 6 fun _ => rfl) j_nil)))) (JE.r (j_frzL (j_lc (Ei := fun (x8 : Int) => (fun (t : Unit) => [some (.d (Enc.enc v_near)), some (.d (Enc.enc v_far)), some (.d (Enc.enc v_row)), some (.d (Enc.enc s5.1)), some (.ls false (s5.2.1.map Enc.enc)), some (.ls false (v_found7.map Enc.enc)), some (.d (Enc.enc x4)), some (.d (Enc.enc x8))])) (j_it (j_v 3 fun _ => rfl)) (fun t => any_1 rfl) (fun _ _ => rfl) (fun _ _ _ => rfl) (fun x8 => (j_cmpT (q_ne (by decide)) (JE.r (j_v 7 fun _ => rfl)) (JE.r (j_v 6 fun _ => rfl)))) (fun x8 => (j_v 7 fun _ => rfl))))))
    · exact (fun _ => trivial)
    · exact (fun _ => rfl)
    · exact (fun _ _ => rfl)
    intro v_one9
    refine z_share 4 (E' := (fun (t : Unit) => [some (.d (Enc.enc v_near)), some (.d (Enc.enc v_far)), some (.d (Enc.enc v_row)), some (.ls false (v_one9.map Enc.enc)), some (.d (Enc.enc s5.2.1)), some (.ls false (v_found7.map Enc.enc)), some (.d (Enc.enc x4)), none])) ?_ ?_
    · exact (fun _ => rfl)
    refine z_setL 4 (E' := (fun (v_other11 : (List Int)) (t : Unit) => [some (.d (Enc.enc v_near)), some (.d (Enc.enc v_far)), some (.d (Enc.enc v_row)), some (.ls false (v_one9.map Enc.enc)), some (.ls false (v_other11.map Enc.enc)), some (.ls false (v_found7.map Enc.enc)), some (.d (Enc.enc x4)), none])) ?_ ?_ ?_ ?_ ?_
    · exact (j_bin q_addL (JE.r (j_frzL (j_slice (j_vl 3 fun _ => rfl) (j_pS (JE.r (j_v 0 fun _ => rfl))) j_pN))) (JE.r (j_frzL (j_lc (Ei := fun (x10 : Int) => (fun (t : Unit) => [some (.d (Enc.enc v_near)), some (.d (Enc.enc v_far)), some (.d (Enc.enc v_row)), some (.ls false (v_one9.map Enc.enc)), some (.d (Enc.enc s5.2.1)), some (.ls false (v_found7.map Enc.enc)), some (.d (Enc.enc x4)), some (.d (Enc.enc x10))])) (j_it (j_v 4 fun _ => rfl)) (fun t => any_1 rfl) (fun _ _ => rfl) (fun _ _ _ => rfl) (fun x10 => (j_cmpT (q_ne (by decide)) (JE.r (j_v 7 fun _ => rfl)) (JE.r (j_v 6 fun _ => rfl)))) (fun x10 => (j_v 7 fun _ => rfl))))))
    · exact (fun _ => trivial)
    · exact (fun _ => rfl)
    · exact (fun _ _ => rfl)
    intro v_other11
    refine z_setL 3 (E' := (fun (v_one12 : (List Int)) (t : Unit) => [some (.d (Enc.enc v_near)), some (.d (Enc.enc v_far)), some (.d (Enc.enc v_row)), some (.ls false (v_one12.map Enc.enc)), some (.ls false (v_other11.map Enc.enc)), some (.ls false (v_found7.map Enc.enc)), some (.d (Enc.enc x4)), none])) ?_ ?_ ?_ ?_ ?_
    · exact (j_slice (j_vl 3 fun _ => rfl) j_pN (j_pS (JE.r (j_v 0 fun _ => rfl))))
    · exact (fun _ => trivial)
    · exact (fun _ => rfl)
    · exact (fun _ _ => rfl)
    intro v_one12
    refine z_last ?_
    refine z_setL 4 (E' := (fun (v_other13 : (List Int)) (t : Unit) => [some (.d (Enc.enc v_near)), some (.d (Enc.enc v_far)), some (.d (Enc.enc v_row)), some (.ls false (v_one12.map Enc.enc)), some (.ls false (v_other13.map Enc.enc)), some (.ls false (v_found7.map Enc.enc)), some (.d (Enc.enc x4)), none])) ?_ ?_ ?_ ?_ ?_
    · exact (j_slice (j_vl 4 fun _ => rfl) j_pN (j_pS (JE.r (j_v 1 fun _ => rfl))))
    · exact (fun _ => trivial)
    · exact (fun _ => rfl)
    · exact (fun _ _ => rfl)
    intro v_other13
    exact z_nil (fun t => ⟨.inl rfl, (jkd (Enc.enc x4)), rfl⟩)
  intro s5 j6
  refine z_last ?_
  refine z_retO 5 (v := .l (s5.2.2.map Enc.enc)) ?_ ?_
  · exact (fun _ => rfl)
  · exact (fun t => .inl ⟨_, rfl, (by first | rfl | exact .inl rfl | exact .inr ⟨_, rfl, rfl⟩)⟩)
/-! filtered -/
def P_filtered (v_near : Int) (v_row : (List Int)) : Rs (List Int) :=
  run1 (bd (bd (rt ("last" : Str)) fun a => (bd (rt v_near) fun b => (bd (rt v_row) fun c => up (P_run a b c)))) fun v_some17 => (bd (bd (bd (bd (rt v_row) fun a => rt (a.length : Int)) fun j => lo (if mid j then some (rng 0 j) else none)) fun xs => cmpG xs fun (x18 : Int) => bd (bd (bd (rt v_some17) fun a => bd (rt x18) fun b => lo (atI a b)) fun a => rt (!a)) fun b => if b then bd (bd (rt v_row) fun a => bd (rt x18) fun b => lo (atI a b)) fun y => rt (some y) else rt none) fun a => rt a))
theorem c_filtered (v_near : Int) (v_row : (List Int)) : CF pL (F_filtered [.d (Enc.enc v_near), .d (Enc.enc v_row)]) 2 (P_filtered v_near v_row) := by
  refine c_body (ds := [Enc.enc v_near, Enc.enc v_row]) (E := (fun (t : Unit) => [some (.d (Enc.enc v_near)), some (.d (Enc.enc v_row)), none, none])) rfl ?_
  rw [seqM_nil]
  refine z_setL 2 (E' := (fun (v_some17 : (List Bool)) (t : Unit) => [some (.d (Enc.enc v_near)), some (.d (Enc.enc v_row)), some (.ls false (v_some17.map Enc.enc)), none])) ?_ ?_ ?_ ?_ ?_
  · exact (j_call3 c_run (j_c rfl) (j_v 0 fun _ => rfl) (j_v 1 fun _ => rfl))
  · exact (fun _ => trivial)
  · exact (fun _ => rfl)
  · exact (fun _ _ => rfl)
  intro v_some17
  refine z_last ?_
  refine z_ret (P := pL) (o := fun a => a) ?_ ?_ ?_
  · exact (j_lc (Ei := fun (x18 : Int) => (fun (t : Unit) => [some (.d (Enc.enc v_near)), some (.d (Enc.enc v_row)), some (.ls false (v_some17.map Enc.enc)), some (.d (Enc.enc x18))])) (j_rg1 (j_len (JE.r (j_v 1 fun _ => rfl)))) (fun t => any_1 rfl) (fun _ _ => rfl) (fun _ _ _ => rfl) (fun x18 => (j_not (j_testB (JE.r (j_frzD (j_bin q_ixL (j_vl 2 fun _ => rfl) (JE.r (j_v 3 fun _ => rfl)))))))) (fun x18 => (j_frzD (j_bin q_ixL (JE.r (j_v 1 fun _ => rfl)) (JE.r (j_v 3 fun _ => rfl))))))
  · exact (fun _ => trivial)
  · exact (fun a v t p => .inl ⟨_, rfl, p⟩)
/-! below -/
def B_below_1 (v_some19 : (List Bool)) (v_rest20 : (List Bool)) (x22 : Int) (s23 : (List Str)) : T Unit ((List Str)) :=
  (bd (bd (bd (rt v_some19) fun a => bd (rt none) fun i => bd (bd (rt x22) fun i => rt (some i)) fun j => rt (cut a i j)) fun a => bd (rt false) fun b => lo (some (cnt a b))) fun v_at25 => (bd (bd (bd (bd (rt v_some19) fun a => bd (rt x22) fun b => lo (atI a b)) fun k => if k then (rt ("near" : Str)) else (bd (bd (rt v_rest20) fun a => bd (rt v_at25) fun b => lo (atI a b)) fun k => if k then (rt ("far" : Str)) else (rt ("none" : Str)))) fun y => lo (appT s23 y)) fun v_found26 => (rt v_found26)))
def P_below (v_near : Int) (v_far : Int) (v_row : (List Int)) : Rs (List Str) :=
  run1 (bd (bd (rt v_near) fun a => up (P_look_room a)) fun _u29 => (bd (bd (rt v_far) fun a => up (P_look_room a)) fun _u28 => (bd (bd (rt v_row) fun a => up (P_look_row a)) fun _u27 => (bd (bd (rt ("last" : Str)) fun a => (bd (rt v_near) fun b => (bd (rt v_row) fun c => up (P_run a b c)))) fun v_some19 => (bd (bd (rt ("last" : Str)) fun a => (bd (rt v_far) fun b => (bd (bd (rt v_near) fun a => (bd (rt v_row) fun b => up (P_filtered a b))) fun c => up (P_run a b c)))) fun v_rest20 => (bd (bd (rt ([] : List Str)) fun as => lo (if as.length ≤ 1000 then some as else none)) fun v_found21 => (bd (bd (bd (rt v_row) fun a => rt (a.length : Int)) fun j => lo (if mid j then some (rng 0 j) else none)) fun xs => bd (lp (B_below_1 v_some19 v_rest20) xs v_found21) fun (s23 : (List Str)) => (rt s23))))))))
theorem c_below (v_near : Int) (v_far : Int) (v_row : (List Int)) : CF pL (F_below [.d (Enc.enc v_near), .d (Enc.enc v_far), .d (Enc.enc v_row)]) 3 (P_below v_near v_far v_row) := by
  refine c_body (ds := [Enc.enc v_near, Enc.enc v_far, Enc.enc v_row]) (E := (fun (t : Unit) => [some (.d (Enc.enc v_near)), some (.d (Enc.enc v_far)), some (.d (Enc.enc v_row)), none, none, none, none, none])) rfl ?_
  rw [seqM_nil]
  refine z_expr (P := pD) ?_ ?_ ?_
  · exact (j_call1 c_look_room (j_v 0 fun _ => rfl))
  · exact (fun _ => trivial)
  intro _u29
  refine z_expr (P := pD) ?_ ?_ ?_
  · exact (j_call1 c_look_room (j_v 1 fun _ => rfl))
  · exact (fun _ => trivial)
  intro _u28
  refine z_expr (P := pD) ?_ ?_ ?_
  · exact (j_call1 c_look_row (j_v 2 fun _ => rfl))
  · exact (fun _ => trivial)
  intro _u27
  refine z_setL 3 (E' := (fun (v_some19 : (List Bool)) (t : Unit) => [some (.d (Enc.enc v_near)), some (.d (Enc.enc v_far)), some (.d (Enc.enc v_row)), some (.ls false (v_some19.map Enc.enc)), none, none, none, none])) ?_ ?_ ?_ ?_ ?_
  · exact (j_call3 c_run (j_c rfl) (j_v 0 fun _ => rfl) (j_v 2 fun _ => rfl))
  · exact (fun _ => trivial)
  · exact (fun _ => rfl)
  · exact (fun _ _ => rfl)
  intro v_some19
  refine z_setL 4 (E' := (fun (v_rest20 : (List Bool)) (t : Unit) => [some (.d (Enc.enc v_near)), some (.d (Enc.enc v_far)), some (.d (Enc.enc v_row)), some (.ls false (v_some19.map Enc.enc)), some (.ls false (v_rest20.map Enc.enc)), none, none, none])) ?_ ?_ ?_ ?_ ?_
  · exact (j_call3 c_run (j_c rfl) (j_v 1 fun _ => rfl) (j_frzL (j_call2 c_filtered (j_v 0 fun _ => rfl) (j_v 2 fun _ => rfl))))
  · exact (fun _ => trivial)
  · exact (fun _ => rfl)
  · exact (fun _ _ => rfl)
  intro v_rest20
  refine z_setL 5 (E' := (fun (v_found21 : (List Str)) (t : Unit) => [some (.d (Enc.enc v_near)), some (.d (Enc.enc v_far)), some (.d (Enc.enc v_row)), some (.ls false (v_some19.map Enc.enc)), some (.ls false (v_rest20.map Enc.enc)), some (.ls false (v_found21.map Enc.enc)), none, none])) ?_ ?_ ?_ ?_ ?_
  · exact (j_lst j_nil)
  · exact (fun _ => trivial)
  · exact (fun _ => rfl)
  · exact (fun _ _ => rfl)
  intro v_found21
  refine z_for (tg := .one 6) (s0 := v_found21) (fun (s23 : (List Str)) (j24 : Jk × Jk) (t : Unit) => [some (.d (Enc.enc v_near)), some (.d (Enc.enc v_far)), some (.d (Enc.enc v_row)), some (.ls false (v_some19.map Enc.enc)), some (.ls false (v_rest20.map Enc.enc)), some (.ls false (s23.map Enc.enc)), j24.1.1, j24.2.1]) (EB := (fun (x22 : Int) (s23 : (List Str)) (j24 : Jk × Jk) (t : Unit) => [some (.d (Enc.enc v_near)), some (.d (Enc.enc v_far)), some (.d (Enc.enc v_row)), some (.ls false (v_some19.map Enc.enc)), some (.ls false (v_rest20.map Enc.enc)), some (.ls false (s23.map Enc.enc)), some (.d (Enc.enc x22)), j24.2.1])) ?_ ?_ (jk0, jk0) ?_ ?_ ?_ ?_
  · exact (j_rg1 (j_len (JE.r (j_v 2 fun _ => rfl))))
  · exact (fun _ => trivial)
  · exact (fun t => rfl)
  · exact (fun x22 s23 j24 t => put_1 j24.1.2 rfl)
  · intro x22 s23 j24
    unfold B_below_1
    rw [seqM_nil]
    refine z_setD 7 (E' := (fun (v_at25 : Int) (t : Unit) => [some (.d (Enc.enc v_near)), some (.d (Enc.enc v_far)), some (.d (Enc.enc v_row)), some (.ls false (v_some19.map Enc.enc)), some (.ls false (v_rest20.map Enc.enc)), some (.ls false (s23.map Enc.enc)), some (.d (Enc.enc x22)), some (.d (Enc.enc v_at25))])) ?_ ?_ ?_ ?_ ?_
    · exact (j_data (j_look (q_count (by decide)) (JE.r (j_frzL (j_slice (j_vl 3 fun _ => rfl) j_pN (j_pS (JE.r (j_v 6 fun _ => rfl)))))) (JE.r (j_c rfl))))
    · exact (fun _ => trivial)
    · exact (fun _ => ref_of_own j24.2.2)
    · exact (fun _ _ => rfl)
    intro v_at25
    refine z_last ?_
    refine z_exprU (E' := (fun (v_found26 : (List Str)) (t : Unit) => [some (.d (Enc.enc v_near)), some (.d (Enc.enc v_far)), some (.d (Enc.enc v_row)), some (.ls false (v_some19.map Enc.enc)), some (.ls false (v_rest20.map Enc.enc)), some (.ls false (v_found26.map Enc.enc)), some (.d (Enc.enc x22)), some (.d (Enc.enc v_at25))])) ?_ ?_ ?_
    · exact (m_U 5 (b := false) (xs := s23) (E' := (fun (v_found26 : (List Str)) (t : Unit) => [some (.d (Enc.enc v_near)), some (.d (Enc.enc v_far)), some (.d (Enc.enc v_row)), some (.ls false (v_some19.map Enc.enc)), some (.ls false (v_rest20.map Enc.enc)), some (.ls false (v_found26.map Enc.enc)), some (.d (Enc.enc x22)), some (.d (Enc.enc v_at25))])) k_appT (fun _ => rfl) (a_1 (j_if (j_testB (JE.r (j_frzD (j_bin q_ixL (j_vl 3 fun _ => rfl) (JE.r (j_v 6 fun _ => rfl)))))) (j_c rfl) (j_if (j_testB (JE.r (j_frzD (j_bin q_ixL (j_vl 4 fun _ => rfl) (JE.r (j_v 7 fun _ => rfl)))))) (j_c rfl) (j_c rfl)))) (fun _ _ => rfl))
    · exact (fun _ => trivial)
    intro v_found26
    exact z_nil (fun t => ⟨.inl rfl, ((jkd (Enc.enc x22)), (jkd (Enc.enc v_at25))), rfl⟩)
  intro s23 j24
  refine z_last ?_
  refine z_retO 5 (v := .l (s23.map Enc.enc)) ?_ ?_
  · exact (fun _ => rfl)
  · exact (fun t => .inl ⟨_, rfl, (by first | rfl | exact .inl rfl | exact .inr ⟨_, rfl, rfl⟩)⟩)
end G8
namespace G8
open PySem L2
open Enc (enc dec)
section
variable {τ α β γ σ ω : Type}
/-! tools for typed programs -/
def wp (m : T τ α) (t : τ) (Q : α → τ → Prop) : Prop := ∃ a t', m t = .ok (a, t') ∧ Q a t'
theorem wp_rt {a : α} {t : τ} {Q : α → τ → Prop} (h : Q a t) : wp (rt a) t Q := ⟨a, t, rfl, h⟩
theorem wp_bd {m : T τ α} {q : α → T τ β} {t : τ} {Q : β → τ → Prop} (h : wp m t fun a t' => wp (q a) t' Q) : wp (bd m q) t Q := by
  obtain ⟨a, t', e, b, t'', e', h⟩ := h
  exact ⟨b, t'', by unfold bd; rw [e]; exact e', h⟩
theorem wp_mono {m : T τ α} {t : τ} {Q R : α → τ → Prop} (h : wp m t Q) (k : ∀ a t, Q a t → R a t) : wp m t R := by
  obtain ⟨a, t', e, h⟩ := h
  exact ⟨a, t', e, k _ _ h⟩
theorem wp_cut {m : T τ α} {q : α → T τ β} {t : τ} {Q : β → τ → Prop} (R : α → τ → Prop) (h : wp m t R) (k : ∀ a t', R a t' → wp (q a) t' Q) : wp (bd m q) t Q := wp_bd (wp_mono h k)
theorem wp_draw {ns : List Int} {m : Int} {t : Nat} {Q : Int → Nat → Prop} (hm : 0 < m) (ht : t < 900000) (h : ∀ v, 0 ≤ v → v < m → Q v (t + 1)) : wp (drawT ns m) t Q :=
  ⟨drw ns (t + 1) m, t + 1, by unfold drawT; rw [if_pos ⟨hm, ht⟩], h _ (drw_lo ns _ hm) (drw_hi ns _ hm)⟩
theorem atI_nat' {xs : List α} {i : Int} (h0 : 0 ≤ i) (h1 : i < xs.length) : ∃ x, x ∈ xs ∧ xs[i.toNat]? = some x ∧ atI xs i = some x := by
  obtain ⟨n, rfl⟩ : ∃ n : Nat, i = n := ⟨i.toNat, by omega⟩
  have hn : n < xs.length := by omega
  refine ⟨xs[n], List.getElem_mem hn, ?_, ?_⟩
  · rw [Int.toNat_natCast, List.getElem?_eq_getElem hn]
  · rw [G8.atI_nat, List.getElem?_eq_getElem hn]
theorem wp_pick {ns : List Int} {xs : List α} {t : Nat} {Q : α → Nat → Prop} (hm : xs ≠ []) (ht : t < 900000) (h : ∀ x ∈ xs, Q x (t + 1)) : wp (pickT ns xs) t Q := by
  have hp := List.length_pos_iff.mpr hm
  obtain ⟨v, t', e, ⟨h0, h1⟩, ht'⟩ := (wp_draw (ns := ns) (m := xs.length) (t := t) (Q := fun v t' => (0 ≤ v ∧ v < xs.length) ∧ t' = t + 1) (by omega) ht fun v a b => ⟨⟨a, b⟩, rfl⟩)
  obtain ⟨x, hx, _, hi⟩ := atI_nat' h0 h1
  refine ⟨x, t + 1, ?_, h x hx⟩
  unfold pickT
  rw [e]
  dsimp only
  rw [hi, ht']
theorem wp_lp {body : α → σ → T τ σ} (I : List α → σ → τ → Prop) : ∀ (xs : List α) (s : σ) (t : τ) (Q : σ → τ → Prop), I xs s t → (∀ x xs' s t, I (x :: xs') s t → wp (body x s) t fun s' t' => I xs' s' t') → (∀ s t, I [] s t → Q s t) → wp (lp body xs s) t Q
  | [], s, t, Q, h, _, k => wp_rt (k s t h)
  | x :: xs, s, t, Q, h, b, k => wp_bd (wp_mono (b x xs s t h) fun s' t' h' => wp_lp I xs s' t' Q h' b k)
theorem wp_lpx {body : α → σ → T τ (Lx σ ω)} (I : List α → σ → τ → Prop) : ∀ (xs : List α) (s : σ) (t : τ) (Q : σ ⊕ ω → τ → Prop), I xs s t → (∀ x xs' s t, I (x :: xs') s t → wp (body x s) t fun z t' => match z with
    | .nx s' => I xs' s' t'
    | .bk s' => Q (.inl s') t'
    | .out o => Q (.inr o) t') → (∀ s t, I [] s t → Q (.inl s) t) → wp (lpx body xs s) t Q
  | [], s, t, Q, h, _, k => wp_rt (k s t h)
  | x :: xs, s, t, Q, h, b, k => wp_bd (wp_mono (b x xs s t h) fun z t' h' => by
    cases z with
    | nx s' => exact wp_lpx I xs s' t' Q h' b k
    | bk s' => exact wp_rt h'
    | out o => exact wp_rt h')
theorem cmp_pure {f : α → T τ (Option β)} {g : α → Option β} : ∀ {xs : List α}, (∀ x ∈ xs, f x = rt (g x)) → cmp f xs = rt (xs.filterMap g)
  | [], _ => rfl
  | x :: xs, h => by
    rw [cmp, h x (List.mem_cons_self ..), cmp_pure fun y hy => h y (List.mem_cons_of_mem _ hy), noEr_rt, bd_rt, bd_rt]
    cases e : g x <;> simp [e]
theorem cmpG_pure {f : α → T τ (Option β)} (g : α → Option β) {xs : List α} (hl : xs.length ≤ 1000000) (h : ∀ x ∈ xs, f x = rt (g x)) : cmpG xs f = rt (xs.filterMap g) := by
  unfold cmpG
  rw [if_pos hl, cmp_pure h]
theorem cmpG_map {f : α → T τ (Option β)} (g : α → β) {xs : List α} (hl : xs.length ≤ 1000000) (h : ∀ x ∈ xs, f x = rt (some (g x))) : cmpG xs f = rt (xs.map g) := by
  rw [cmpG_pure (fun x => some (g x)) hl h]
  simp
theorem cmpG_filter {f : α → T τ (Option β)} (p : α → Bool) (g : α → β) {xs : List α} (hl : xs.length ≤ 1000000) (h : ∀ x ∈ xs, f x = if p x then rt (some (g x)) else rt none) : cmpG xs f = rt ((xs.filter p).map g) := by
  rw [cmpG_pure (fun x => if p x then some (g x) else none) hl fun x hx => by rw [h x hx]; split <;> rfl]
  congr 1
  rw [← List.filterMap_eq_map, List.filterMap_filter]
  first | rfl | (congr 1)
theorem cmp_mapL {δ : Type} (c : δ → α) {f : α → T τ (Option β)} : ∀ xs : List δ, cmp f (xs.map c) = cmp (fun x => f (c x)) xs
  | [] => rfl
  | x :: xs => by rw [List.map_cons, cmp, cmp, cmp_mapL c xs]
theorem cmpG_mapL {δ : Type} (c : δ → α) {f : α → T τ (Option β)} (xs : List δ) : cmpG (xs.map c) f = cmpG xs fun x => f (c x) := by
  unfold cmpG
  rw [List.length_map, cmp_mapL]
theorem lp_mapL {δ : Type} (c : δ → α) {f : α → σ → T τ σ} : ∀ (xs : List δ) (s : σ), lp f (xs.map c) s = lp (fun x => f (c x)) xs s
  | [], s => rfl
  | x :: xs, s => by
    rw [List.map_cons, lp, lp]
    congr 1
    funext s'
    exact lp_mapL c xs s'
theorem lpx_mapL {δ : Type} (c : δ → α) {f : α → σ → T τ (Lx σ ω)} : ∀ (xs : List δ) (s : σ), lpx f (xs.map c) s = lpx (fun x => f (c x)) xs s
  | [], s => rfl
  | x :: xs, s => by
    rw [List.map_cons, lpx, lpx]
    congr 1
    funext z
    cases z with
    | nx s' => exact lpx_mapL c xs s'
    | bk s' => rfl
    | out o => rfl
theorem lp_pure {body : α → σ → T τ σ} (step : σ → α → σ) : ∀ {xs : List α} {s : σ}, (∀ x ∈ xs, ∀ s, body x s = rt (step s x)) → lp body xs s = rt (xs.foldl step s)
  | [], s, _ => rfl
  | x :: xs, s, h => by rw [lp, h x (List.mem_cons_self ..), bd_rt, lp_pure step fun y hy => h y (List.mem_cons_of_mem _ hy), List.foldl_cons]
/-- a pure loop with what holds ahead of each round -/
theorem lp_inv {body : α → σ → T τ σ} (step : σ → α → σ) (I : Nat → σ → Prop) : ∀ {xs : List α} {n : Nat} {s : σ}, I n s → (∀ i x s, xs[i]? = some x → I (n + i) s → body x s = rt (step s x) ∧ I (n + i + 1) (step s x)) → lp body xs s = rt (xs.foldl step s) ∧ I (n + xs.length) (xs.foldl step s)
  | [], n, s, h, _ => ⟨rfl, h⟩
  | x :: xs, n, s, h, k => by
    obtain ⟨h1, h2⟩ := k 0 x s rfl h
    obtain ⟨h3, h4⟩ := lp_inv step I (n := n + 1) (xs := xs) (s := step s x) h2 fun i y s' e q => by
      have := k (i + 1) y s' (by simpa using e) (by rw [show n + (i + 1) = n + 1 + i by omega]; exact q)
      rw [show n + (i + 1) + 1 = n + 1 + i + 1 by omega] at this
      exact this
    refine ⟨by rw [lp, h1, bd_rt, h3, List.foldl_cons], ?_⟩
    rw [List.length_cons, show n + (xs.length + 1) = n + 1 + xs.length by omega, List.foldl_cons]
    exact h4
theorem rng0 (n : Nat) : rng 0 (n : Int) = (List.range n).map fun (i : Nat) => (i : Int) := by
  unfold rng
  rw [show ((n : Int) - 0).toNat = n by omega]
  apply List.map_congr_left
  intro i _
  omega
theorem rngA (a n : Nat) (h : a ≤ n) : rng (a : Int) (n : Int) = (List.range (n - a)).map fun (i : Nat) => ((a + i : Nat) : Int) := by
  unfold rng
  rw [show ((n : Int) - a).toNat = n - a by omega]
  apply List.map_congr_left
  intro i _
  omega
theorem midN {n : Nat} (h : n < 4611686018427387904) : mid (n : Int) = true := mid_nat (by omega)
theorem midI {n : Int} (h : -4611686018427387904 < n) (h2 : n < 4611686018427387904) : mid n = true := by
  unfold mid
  exact Nat.blt_eq.mpr (by omega)
@[simp] theorem eqT_i (a b : Int) : eqT a b = decide (a = b) := eqT_eq a b
@[simp] theorem eqT_s (a b : Str) : eqT a b = decide (a = b) := eqT_eq a b
@[simp] theorem inL_i (a : Int) (b : List Int) : inL a b = decide (a ∈ b) := inL_eq a b
@[simp] theorem inL_s (a : Str) (b : List Str) : inL a b = decide (a ∈ b) := inL_eq a b
theorem appT_ok {xs : List α} {y : α} (h : xs.length < 1000000) : appT xs y = some (xs ++ [y]) := by unfold appT; rw [if_pos h]
theorem addL_ok [Enc α] {xs ys : List α} (h : xs.length + ys.length ≤ 1000000) : addL xs ys = some (xs ++ ys) := by unfold addL; rw [if_pos h]
theorem mulL_ok [Enc α] {xs : List α} {k : Nat} (h : k ≤ 1000) (h2 : xs.length ≤ 1000) : mulL xs (k : Int) = some (List.replicate k xs).flatten := by
  unfold mulL
  rw [if_pos ⟨by omega, by omega, h2⟩, Int.toNat_natCast]
end
/-! rows -/
theorem p_look_name_ok {n : Int} (h : okName n) : P_look_name n = .ok () := by simp [P_look_name, h.1, h.2]
theorem p_look_name_bad {n : Int} (h : ¬ okName n) : P_look_name n = .er 0 := by
  unfold okName at h
  by_cases h1 : 0 ≤ n
  · have h2 : ¬ n ≤ 19 := fun z => h ⟨h1, z⟩
    simp [P_look_name, h1, h2]
  · simp [P_look_name, h1]
theorem p_look_room_ok {n : Int} (h : 0 ≤ n ∧ n ≤ 12) : P_look_room n = .ok () := by simp [P_look_room, h.1, h.2]
theorem p_look_room_bad {n : Int} (h : ¬ (0 ≤ n ∧ n ≤ 12)) : P_look_room n = .er 1 := by
  by_cases h1 : 0 ≤ n
  · have h2 : ¬ n ≤ 12 := fun z => h ⟨h1, z⟩
    simp [P_look_room, h1, h2]
  · simp [P_look_room, h1]
theorem look_lp : ∀ xs : List Int, lp B_look_row_1 xs () = if ∀ x ∈ xs, okName x then rt () else erT 0
  | [] => by simp [lp]
  | x :: xs => by
    rw [lp, B_look_row_1]
    by_cases h : okName x
    · simp [p_look_name_ok h, look_lp xs, h]
    · simp [p_look_name_bad h, h]
theorem p_look_row_ok {xs : List Int} (h : okRow xs) : P_look_row xs = .ok () := by
  have h1 : ¬ (24 : Int) < (xs.length : Int) := by have := h.1; omega
  have l := look_lp xs
  rw [if_pos h.2] at l
  simp [P_look_row, h1, l]
theorem p_look_row_bad {xs : List Int} (h : ¬ okRow xs) : P_look_row xs = .er 0 := by
  by_cases hl : xs.length ≤ 24
  · have h1 : ¬ (24 : Int) < (xs.length : Int) := by omega
    have l := look_lp xs
    rw [if_neg (fun z => h ⟨hl, z⟩)] at l
    simp [P_look_row, h1, l]
  · have h1 : (24 : Int) < (xs.length : Int) := by omega
    simp [P_look_row, h1]
theorem names_lp : ∀ (xs acc : List Int), acc.length + xs.length < 1000000 → lp B_names_1 xs acc = rt (uniq xs acc)
  | [], acc, _ => rfl
  | x :: xs, acc, h => by
    rw [lp, uniq, B_names_1]
    by_cases hx : x ∈ acc
    · simp [hx, names_lp xs acc (by simp at h; omega)]
    · simp [hx, appT_ok (xs := acc) (y := x) (by simp at h; omega), names_lp xs (acc ++ [x]) (by simp at h ⊢; omega)]
theorem p_names_ok {xs : List Int} (h : okRow xs) : P_names xs = .ok (nms xs) := by
  have l := names_lp xs [] (by have := h.1; simp; omega)
  simp [P_names, p_look_row_ok h]
  rw [l]
  simp [nms]
theorem p_names_bad {xs : List Int} (h : ¬ okRow xs) : P_names xs = .er 0 := by simp [P_names, p_look_row_bad h]
theorem p_renamed_ok {xs : List Int} (h : okRow xs) : P_renamed xs = .ok (renP xs) := by
  have hm : ∀ x ∈ xs, x ∈ nms xs := fun x hx => ((nms_all xs).2.1 x).mpr hx
  have c := cmpG_map (τ := Unit) (f := fun x => bd (lo (idxT (nms xs) x)) fun y => rt (some y)) (fun x => ((nms xs).idxOf x : Int)) (xs := xs) (by have := h.1; omega) (fun x hx => by rw [idxT_eq (hm x hx), bd_lo])
  simp [P_renamed, p_names_ok h]
  rw [c]
  simp [renP]
theorem p_renamed_bad {xs : List Int} (h : ¬ okRow xs) : P_renamed xs = .er 0 := by simp [P_renamed, p_names_bad h]
theorem p_are_alike {xs ys : List Int} (h : okRow xs) (h2 : okRow ys) : P_are_alike xs ys = .ok (eqT (renP xs) (renP ys)) := by
  simp [P_are_alike, p_renamed_ok h, p_renamed_ok h2]
end G8
namespace G8
open PySem L2
open Enc (enc dec)
theorem atI_some {α : Type} {xs : List α} {k : Nat} (h : k < xs.length) : atI xs (k : Int) = some xs[k] := by
  rw [G8.atI_nat, List.getElem?_eq_getElem h]
/-- a part of a range, by what stands there -/
theorem cmpG_rng {τ β : Type} {f : Int → T τ (Option β)} (n : Nat) (g : Nat → Option β) (hn : n ≤ 1000000) (h : ∀ i, i < n → f (i : Int) = rt (g i)) : cmpG (rng 0 (n : Int)) f = rt ((List.range n).filterMap g) := by
  rw [rng0, cmpG_mapL]
  exact cmpG_pure g (by simpa using hn) fun i hi => h i (List.mem_range.mp hi)
theorem occ_fm (row : List Int) (k : Nat) (x : Int) : (List.range k).filterMap (fun (j : Nat) => if row[j]? = some x then some (j : Int) else none) = (occ row k x).map fun (i : Nat) => (i : Int) := by
  unfold occ
  rw [← List.filterMap_eq_map, List.filterMap_filter]
  congr 1
  funext j
  by_cases h : row[j]? = some x <;> simp [h]
theorem occ_ne {row : List Int} {k : Nat} {x : Int} (hx : x ∈ row.take k) : ∃ y ys, occ row k x = y :: ys := by
  obtain ⟨j, hj, e⟩ := List.mem_iff_getElem.mp hx
  rw [List.length_take] at hj
  rw [List.getElem_take] at e
  have : j ∈ occ row k x := occ_mem.mpr ⟨by omega, by rw [List.getElem?_eq_getElem (by omega), e]⟩
  cases h : occ row k x with
  | nil => rw [h] at this; cases this
  | cons y ys => exact ⟨y, ys, rfl⟩
theorem max_occ {row : List Int} {k : Nat} {x : Int} (hx : x ∈ row.take k) : maxL ((occ row k x).map fun (i : Nat) => (i : Int)) = some (lastIx row k x : Nat) := by
  obtain ⟨y, ys, ho⟩ := occ_ne hx
  have pw : (occ row k x).Pairwise (· < ·) := List.Pairwise.filter _ List.pairwise_lt_range
  unfold lastIx
  rw [ho] at pw ⊢
  rw [List.map_cons, maxL, foldl_max_last ys y pw]
  cases ys <;> rfl
theorem p_last_of (row : List Int) (k : Nat) (x : Int) (hk : k ≤ row.length) (hl : row.length ≤ 24) (hx : x ∈ row.take k) : P_last_of row k x = .ok (lastIx row k x : Nat) := by
  have hm : mid (k : Int) = true := midN (by omega)
  have m := max_occ hx
  rw [← occ_fm] at m
  simp only [P_last_of, bd_rt, hm, if_true, lo_some, bd_bd, eqT_i]
  rw [cmpG_rng k (fun j => if row[j]? = some x then some (j : Int) else none) (by omega) fun i hi => by
    rw [atI_some (show i < row.length by omega), List.getElem?_eq_getElem (show i < row.length by omega)]
    by_cases h : row[i] = x <;> simp [h]]
  simp [m]
theorem p_rank_last (row : List Int) (k : Nat) (x : Int) (hk : k ≤ row.length) (hl : row.length ≤ 24) (hx : x ∈ row.take k) : P_rank "last" row k x = .ok (rkLast row k x) := by
  simp [P_rank, p_last_of row k x hk hl hx, rkLast]
/-! moved, walked, by any rank -/
theorem moved_lpx (rule : Str) (row : List Int) (k : Int) (name : Int) (rk : Int → Int × Int) : ∀ (xs found : List Int) (c : Option Int), found.length + xs.length < 1000000 → (∀ x, (x ∈ xs ∨ c = some x) → P_rank rule row k x = .ok (rk x)) →
    lpx (B_moved_1 name rule row k) xs (found, c) = rt (.inl (mv (fun a b => lt2 (rk a) (rk b)) name xs found c))
  | [], found, c, _, _ => rfl
  | x :: xs, found, c, hl, hr => by
    rw [lpx, B_moved_1]
    by_cases hn : x = name
    · simp [hn, mv]
    · have r1 := hr x (.inl (List.mem_cons_self ..))
      have hl1 : found.length < 1000000 := by simp at hl; omega
      cases c with
      | none =>
        have ih := moved_lpx rule row k name rk xs found (some x) (by simp at hl; omega) fun y hy => hr y (by
          rcases hy with hy | hy
          · exact .inl (List.mem_cons_of_mem _ hy)
          · cases hy; exact .inl (List.mem_cons_self ..))
        simp [hn, ih, mv]
      | some d =>
        have r2 := hr d (.inr rfl)
        by_cases hlt : lt2 (rk x) (rk d) = true
        · have ih := moved_lpx rule row k name rk xs (found ++ [d]) (some x) (by simp at hl ⊢; omega) fun y hy => hr y (by
            rcases hy with hy | hy
            · exact .inl (List.mem_cons_of_mem _ hy)
            · cases hy; exact .inl (List.mem_cons_self ..))
          simp [hn, r1, r2, hlt, appT_ok hl1, ih, mv]
        · have ih := moved_lpx rule row k name rk xs (found ++ [x]) (some d) (by simp at hl ⊢; omega) fun y hy => hr y (by
            rcases hy with hy | hy
            · exact .inl (List.mem_cons_of_mem _ hy)
            · exact .inr hy)
          simp [hn, r1, r2, hlt, appT_ok hl1, ih, mv]
theorem p_moved (rule : Str) (row stack : List Int) (k : Nat) (name : Int) (rk : Int → Int × Int) (hk : row[k]? = some name) (hl : stack.length < 1000) (hr : ∀ x ∈ stack, P_rank rule row k x = .ok (rk x)) :
    P_moved rule row k stack = .ok (moveP (fun a b => lt2 (rk a) (rk b)) name stack) := by
  have e := moved_lpx rule row k name rk stack [name] none (by simp; omega) (fun x hx => hr x (by
    rcases hx with hx | hx
    · exact hx
    · cases hx))
  have e1 : atI row (k : Int) = some name := by rw [G8.atI_nat, hk]
  have hlen := mv_len (fun a b => lt2 (rk a) (rk b)) name stack [name] none
  unfold moveP
  generalize hmv : mv (fun a b => lt2 (rk a) (rk b)) name stack [name] none = r at e hlen
  obtain ⟨f, c⟩ := r
  simp at hlen
  cases c with
  | none =>
    have ct := cut_1 stack f.length
    simp [P_moved, e1, e, ct, addL_ok (xs := f) (ys := stack.drop f.length) (by simp; omega)]
  | some d =>
    have h1 : f.length < 1000000 := by omega
    have ct := cut_1 stack (f.length + 1)
    simp at ct
    simp [P_moved, e1, e, appT_ok h1, ct, addL_ok (xs := f ++ [d]) (ys := stack.drop (f.length + 1)) (by simp; omega)]
theorem p_walked (rule : Str) (row : List Int) (rk : Nat → Int → Int × Int) (hl : row.length ≤ 24) (hst : ∀ k, k ≤ row.length → (stackAt (fun k a b => lt2 (rk k a) (rk k b)) row k).length < 1000)
    (hr : ∀ k, k < row.length → ∀ x ∈ stackAt (fun k a b => lt2 (rk k a) (rk k b)) row k, P_rank rule row k x = .ok (rk k x)) :
    P_walked rule row = .ok (depthsP (fun k a b => lt2 (rk k a) (rk k b)) row row.length, stackAt (fun k a b => lt2 (rk k a) (rk k b)) row row.length) := by
  have hm : mid (row.length : Int) = true := midN (by omega)
  generalize hlt : (fun k a b => lt2 (rk k a) (rk k b)) = lt at hst hr ⊢
  have key : ∀ (n m : Nat), n + m = row.length → lp (fun (i : Nat) => B_walked_1 row rule (i : Int)) ((List.range m).map fun i => n + i) (stackAt lt row n, depthsP lt row n) = rt (stackAt lt row row.length, depthsP lt row row.length) := by
    intro n m
    induction m generalizing n with
    | zero => intro h; rw [show n = row.length by omega]; rfl
    | succ m ih =>
      intro h
      have hn : n < row.length := by omega
      have hk := List.getElem?_eq_getElem hn
      have mo := p_moved rule row (stackAt lt row n) n row[n] (rk n) hk (hst n (by omega)) (hr n hn)
      have eq1 : (fun a b => lt2 (rk n a) (rk n b)) = lt n := by rw [← hlt]
      rw [eq1] at mo
      have es : stackAt lt row (n + 1) = moveP (lt n) row[n] (stackAt lt row n) := by rw [stackAt, hk]
      have ed := depthsP_succ lt row n
      have hdl : (depthsP lt row n).length < 1000000 := by simp [depthsP]; omega
      have ih := ih (n + 1) (by omega)
      rw [es, ed] at ih
      rw [List.range_succ_eq_map, List.map_cons, List.map_map, lp, B_walked_1]
      have em : (List.range m).map ((fun i => n + i) ∘ Nat.succ) = (List.range m).map fun i => n + 1 + i := List.map_congr_left fun i _ => by simp; omega
      have e1 : atI row (n : Int) = some row[n] := atI_some hn
      by_cases hmem : row[n] ∈ stackAt lt row n
      · have da : depthAt lt row n = some ((stackAt lt row n).idxOf row[n] + 1 : Nat) := by
          unfold depthAt
          rw [hk]
          simp [hmem]
        rw [da] at ih
        simp only [Nat.add_zero, bd_rt, bd_bd, e1, lo_some, inL_i, hmem, decide_true, if_true, idxT_eq hmem, appT_ok hdl, mo, bd_up, em]
        exact ih
      · have da : depthAt lt row n = none := by
          unfold depthAt
          rw [hk]
          simp [hmem]
        rw [da] at ih
        simp only [Nat.add_zero, bd_rt, bd_bd, e1, lo_some, inL_i, hmem, decide_false, Bool.false_eq_true, if_false, appT_ok hdl, mo, bd_up, em]
        exact ih
  have k0 := key 0 row.length (by omega)
  rw [← lp_mapL (fun (i : Nat) => (i : Int)), List.map_map] at k0
  have er : (List.range row.length).map ((fun (i : Nat) => (i : Int)) ∘ fun i => 0 + i) = rng 0 (row.length : Int) := by
    rw [rng0]
    exact List.map_congr_left fun i _ => by simp
  rw [er] at k0
  simp [P_walked, hm]
  rw [show (stackAt lt row 0, depthsP lt row 0) = (([] : List Int), ([] : List (Option Int))) from rfl] at k0
  rw [k0]
  simp
theorem p_walked_last (row : List Int) (hl : row.length ≤ 24) : P_walked "last" row = .ok (depsL row, lru row) := by
  have hs := stackAt_last row
  have w := p_walked "last" row (rkLast row) hl (fun k hk => by
    rw [hs k hk]
    have := lru_len (row.take k)
    simp at this
    omega) (fun k hk x hx => by
    rw [hs k (by omega)] at hx
    exact p_rank_last row k x (by omega) hl ((lru_all _).2 x |>.mp hx))
  rw [hs row.length (Nat.le_refl _), List.take_length] at w
  have e : depthsP (fun k a b => lt2 (rkLast row k a) (rkLast row k b)) row row.length = depsL row := by
    unfold depthsP depsL
    refine List.map_congr_left fun k hk => ?_
    have hk := List.mem_range.mp hk
    unfold depthAt depL
    rw [hs k (by omega)]
    all_goals (cases row[k]? <;> rfl)
  rw [e] at w
  exact w
theorem p_rule_last : P_look_stacked "last" = .ok () := by
  simp [P_look_stacked, P_look_rule, l_RULES, l_STACKED]
theorem p_depths_last {row : List Int} (h : okRow row) : P_depths "last" row = .ok (depsL row) := by
  simp [P_depths, p_rule_last, p_look_row_ok h, p_walked_last row h.1]
theorem p_stack_last {row : List Int} (h : okRow row) : P_stack "last" row = .ok (lru row) := by
  simp [P_stack, p_rule_last, p_look_row_ok h, p_walked_last row h.1]
end G8
namespace G8
open PySem L2
open Enc (enc dec)
/-! a drawn row -/
theorem wp_if {τ α : Type} {c : Prop} [Decidable c] {f g : T τ α} {t : τ} {Q : α → τ → Prop} (h1 : c → wp f t Q) (h2 : ¬ c → wp g t Q) : wp (if c then f else g) t Q := by
  split
  · rename_i h; exact h1 h
  · rename_i h; exact h2 h
theorem wp_noEr {τ α : Type} {m : T τ α} {t : τ} {Q : α → τ → Prop} (h : wp m t Q) : wp (noEr m) t Q := by
  obtain ⟨a, t', e, h⟩ := h
  exact ⟨a, t', by unfold noEr; rw [e], h⟩
@[simp] theorem eqT_li (a b : List Int) : eqT a b = decide (a = b) := eqT_eq a b
@[simp] theorem eqT_lo (a b : List (Option Int)) : eqT a b = decide (a = b) := eqT_eq a b
@[simp] theorem eqT_o (a b : Option Int) : eqT a b = decide (a = b) := eqT_eq a b
@[simp] theorem eqT_b (a b : Bool) : eqT a b = decide (a = b) := eqT_eq a b
theorem wp_row {ns : List Int} {most kinds : Int} {t : Nat} {Q : List Int → Nat → Prop} (hm : 0 ≤ most ∧ most ≤ 24) (hk : 0 < kinds) (ht : t < 800000)
    (h : ∀ row t', row.length ≤ most.toNat → (∀ x ∈ row, 0 ≤ x ∧ x < kinds) → t' ≤ t + 200 → Q row t') : wp (P__law_row ns most kinds) t Q := by
  unfold P__law_row
  refine wp_noEr ?_
  simp only [bd_rt, bd_bd, lo_some, List.length_nil, Nat.zero_le, if_true]
  refine wp_bd (wp_draw hk (by omega) fun many m0 m1 => ?_)
  refine wp_bd (wp_draw (by omega) (by omega) fun n n0 n1 => ?_)
  have hmid : mid n = true := midI (by omega) (by omega)
  simp only [hmid, if_true, lo_some, bd_rt]
  refine wp_bd (wp_lp (fun xs s t' => (∀ x ∈ s, 0 ≤ x ∧ x < kinds) ∧ s.length + xs.length ≤ most.toNat ∧ t' + 3 * xs.length ≤ t + 2 + 3 * n.toNat) _ _ _ _ ⟨by simp, by rw [rng]; simp; omega, by rw [rng]; simp⟩ ?_ ?_)
  · rintro x xs s t' ⟨h1, h2, h3⟩
    unfold B__law_row_1
    simp at h2 h3
    simp only [bd_rt, bd_bd, lo_some, List.length_nil, Nat.zero_le, if_true, eqT_i, eqT_li]
    refine wp_bd (wp_draw (by omega) (by omega) fun name a0 a1 => ?_)
    have fin : ∀ (v : Int) (t'' : Nat), 0 ≤ v → v < kinds → t'' ≤ t' + 3 → wp (bd (lo (appT s v)) fun v_found34 => rt v_found34) t'' fun s' t'' => (∀ x ∈ s', 0 ≤ x ∧ x < kinds) ∧ s'.length + xs.length ≤ most.toNat ∧ t'' + 3 * xs.length ≤ t + 2 + 3 * n.toNat := by
      intro v t'' v0 v1 ht''
      rw [appT_ok (by omega), lo_some, bd_rt]
      refine wp_rt ⟨fun y hy => ?_, by simp; omega, by omega⟩
      rcases List.mem_append.mp hy with hy | hy
      · exact h1 y hy
      · rw [List.mem_singleton.mp hy]; exact ⟨v0, v1⟩
    by_cases hs : s = []
    · simp only [hs, decide_true, Bool.not_true, Bool.false_eq_true, if_false, bd_rt]
      rw [hs] at fin
      exact fin name _ a0 (by omega) (by omega)
    · simp only [hs, decide_false, Bool.not_false, if_true, bd_bd]
      refine wp_bd (wp_draw (by decide) (by omega) fun c c0 c1 => ?_)
      simp only [bd_rt]
      by_cases hc : c = 0
      · simp only [hc, decide_true, if_true, bd_bd, bd_rt]
        have hp := List.length_pos_iff.mpr hs
        refine wp_bd (wp_draw (by omega) (by omega) fun i i0 i1 => ?_)
        obtain ⟨y, hy, _, hi⟩ := atI_nat' i0 i1
        simp only [hi, lo_some, bd_rt]
        have := h1 y hy
        exact fin y _ this.1 this.2 (by omega)
      · simp only [hc, decide_false, Bool.false_eq_true, if_false, bd_rt]
        exact fin name _ a0 (by omega) (by omega)
  · rintro s t' ⟨h1, h2, h3⟩
    simp at h2 h3
    exact wp_rt (h s t' (by omega) h1 (by omega))
/-! counts -/
def countsP (s : List (Option Int)) : List Int := ((s.count none : Nat) : Int) :: (List.range 12).map fun (i : Nat) => ((s.count (some ((i : Int) + 1)) : Nat) : Int)
theorem rng_1_13 : rng 1 13 = (List.range 12).map fun (i : Nat) => ((i : Int) + 1) := by
  unfold rng
  exact List.map_congr_left fun i _ => by omega
theorem p_counts_last {row : List Int} (h : okRow row) : P_counts "last" row = .ok (countsP (depsL row)) := by
  have m13 : mid 13 = true := rfl
  have m1 : mid 1 = true := rfl
  simp only [P_counts, bd_rt, p_depths_last h, bd_up, lo_some, cnt_eq, bd_bd, List.length_cons, List.length_nil, show (12 : Int) + 1 = 13 from rfl, m13, m1, Bool.and_self, if_true, show 0 + 1 ≤ 1000 from by decide]
  rw [rng_1_13, cmpG_mapL, cmpG_map (fun (i : Nat) => (((depsL row).count (some ((i : Int) + 1)) : Nat) : Int)) (by simp) (fun i _ => rfl)]
  rw [bd_rt, addL_ok (by simp), lo_some, bd_rt]
  rfl
/-! can_count -/
def deepB (s : List Int) (x : Int) : Bool := (List.range (s.length - 1)).any fun (i : Nat) => decide (0 < s.getD (i + 1) 0) && decide (x < (i : Int) + 1)
def canC : List Int → Bool
  | [] => false
  | x :: xs => decide (0 ≤ xs.foldl min x) && decide ((x :: xs).sum ≤ 24) && decide (x ≤ 20) && !deepB (x :: xs) x
theorem rng_1n (n : Nat) : rng 1 (n : Int) = (List.range (n - 1)).map fun (i : Nat) => ((i + 1 : Nat) : Int) := by
  unfold rng
  rw [show ((n : Int) - 1).toNat = n - 1 by omega]
  exact List.map_congr_left fun i _ => by omega
theorem getD_lt {s : List Int} {i : Nat} (h : i < s.length) : atI s (i : Int) = some (s.getD i 0) := by
  rw [atI_some h, List.getD_eq_getElem?_getD, List.getElem?_eq_getElem h]
  rfl
theorem p_can_count (s : List Int) (hl : s.length ≤ 1000) : P_can_count s = .ok (canC s) := by
  cases s with
  | nil => simp [P_can_count, canC, show Tr.tr ([] : List Int) = false from rfl]
  | cons x xs =>
    have m1 : mid 1 = true := rfl
    have ml : mid ((x :: xs).length : Int) = true := midN (by omega)
    have a0 : atI (x :: xs) 0 = some x := atI_some (xs := x :: xs) (k := 0) (by simp)
    have hmin : minL (x :: xs) = some (xs.foldl min x) := rfl
    have tr : Tr.tr (x :: xs) = true := rfl
    have c : cmpG (τ := Unit) (rng 1 ((x :: xs).length : Int)) (fun x1 => bd (lo (atI (x :: xs) x1)) fun a => bd (if decide (0 < a) = true then rt (decide (x < x1)) else rt false) fun y => rt (some y)) = rt ((List.range ((x :: xs).length - 1)).map fun (i : Nat) => decide (0 < (x :: xs).getD (i + 1) 0) && decide (x < (i : Int) + 1)) := by
      rw [rng_1n, cmpG_mapL]
      refine cmpG_map _ (by simp; simp at hl; omega) fun i hi => ?_
      rw [getD_lt (by simp at hi; simp; omega), bd_lo]
      generalize (x :: xs).getD (i + 1) 0 = v
      by_cases h : 0 < v <;> simp [h]
    unfold P_can_count canC deepB
    simp only [bd_rt, bd_bd, tr, Bool.not_true, Bool.false_eq_true, if_false, hmin, lo_some, a0, show (19 : Int) + 1 = 20 from rfl]
    by_cases h1 : xs.foldl min x < 0
    · simp [h1]
      omega
    · have h1' : 0 ≤ xs.foldl min x := by omega
      by_cases h2 : 24 < (x :: xs).sum
      · have h2' : ¬ (x :: xs).sum ≤ 24 := by omega
        simp only [h1, decide_false, Bool.false_eq_true, if_false, bd_rt, h2, decide_true, if_true, h2', Bool.and_false, Bool.false_and, run1_rt]
      · have h2' : (x :: xs).sum ≤ 24 := by omega
        by_cases h3 : 20 < x
        · have h3' : ¬ x ≤ 20 := by omega
          simp only [h1, decide_false, Bool.false_eq_true, if_false, bd_rt, h2, h3, decide_true, if_true, h3', Bool.and_false, Bool.false_and, run1_rt]
        · have h3' : x ≤ 20 := by omega
          simp only [h1, decide_false, Bool.false_eq_true, if_false, bd_rt, h2, h3, h1', h2', h3', decide_true, if_true, m1, ml, Bool.and_self, lo_some, bd_bd]
          rw [c]
          simp [List.any_map]
end G8
namespace G8
open PySem L2
open Enc (enc dec)
/-! row_with -/
def wd (s : List Int) (d : Nat) : List (Option Int) := List.replicate (s.getD d 0).toNat (some (d : Int))
def tk (s : List Int) : Nat → List (Option Int)
  | 0 => []
  | m + 1 => wd s (m + 1) ++ tk s m
def depW (s : List Int) : List (Option Int) := List.replicate (s.getD 0 0).toNat none ++ tk s (s.length - 1)
theorem dwn_succ (m : Nat) : dwn ((m + 1 : Nat) : Int) 0 = ((m + 1 : Nat) : Int) :: dwn (m : Int) 0 := by
  unfold dwn
  rw [show (((m + 1 : Nat) : Int) - 0).toNat = m + 1 by omega, show ((m : Int) - 0).toNat = m by omega, List.range_succ_eq_map, List.map_cons, List.map_map]
  have h1 : ((m + 1 : Nat) : Int) - ((0 : Nat) : Int) = ((m + 1 : Nat) : Int) := by omega
  rw [h1]
  refine congrArg _ (List.map_congr_left fun i _ => ?_)
  show ((m + 1 : Nat) : Int) - ((i + 1 : Nat) : Int) = (m : Int) - (i : Int)
  omega
theorem dwn_zero : dwn 0 0 = [] := by
  unfold dwn
  rfl
theorem canC_all {s : List Int} (h : canC s = true) : s ≠ [] ∧ (∀ y ∈ s, 0 ≤ y) ∧ s.sum ≤ 24 ∧ s.getD 0 0 ≤ 20 ∧ deepB s (s.getD 0 0) = false := by
  cases s with
  | nil => cases h
  | cons x xs =>
    unfold canC at h
    simp only [Bool.and_eq_true, decide_eq_true_eq, Bool.not_eq_true'] at h
    obtain ⟨⟨⟨h1, h2⟩, h3⟩, h4⟩ := h
    refine ⟨by simp, ?_, h2, h3, h4⟩
    have key : ∀ (xs : List Int) (x : Int), 0 ≤ xs.foldl min x → ∀ y ∈ x :: xs, 0 ≤ y := by
      intro xs
      induction xs with
      | nil => intro x h y hy; simp at hy; subst hy; exact h
      | cons z zs ih =>
        intro x h y hy
        have h' := ih (min x z) h
        rcases List.mem_cons.mp hy with rfl | hy
        · have := h' _ (List.mem_cons_self ..); omega
        · rcases List.mem_cons.mp hy with rfl | hy
          · have := h' _ (List.mem_cons_self ..); omega
          · exact h' y (List.mem_cons_of_mem _ hy)
    exact key xs x h1
theorem le_sum : ∀ {s : List Int}, (∀ y ∈ s, 0 ≤ y) → 0 ≤ s.sum ∧ ∀ y ∈ s, y ≤ s.sum
  | [], _ => ⟨by simp, fun y hy => by cases hy⟩
  | x :: xs, h => by
    obtain ⟨h1, h2⟩ := le_sum fun y hy => h y (List.mem_cons_of_mem _ hy)
    have hx := h x (List.mem_cons_self ..)
    rw [List.sum_cons]
    refine ⟨by omega, fun y hy => ?_⟩
    rcases List.mem_cons.mp hy with rfl | hy
    · omega
    · have := h2 y hy; omega
theorem getD_mem {s : List Int} {d : Nat} (h : d < s.length) : s.getD d 0 ∈ s := by
  rw [List.getD_eq_getElem?_getD, List.getElem?_eq_getElem h]
  exact List.getElem_mem h
structure Cn (s : List Int) : Prop where
  ne : s ≠ []
  lo : ∀ y ∈ s, 0 ≤ y
  hi : s.sum ≤ 24
  fi : s.getD 0 0 ≤ 20
  dp : deepB s (s.getD 0 0) = false
theorem cn_of {s : List Int} (h : canC s = true) : Cn s := by
  obtain ⟨a, b, c, d, e⟩ := canC_all h
  exact ⟨a, b, c, d, e⟩
theorem Cn.at {s : List Int} (h : Cn s) {d : Nat} (hd : d < s.length) : 0 ≤ s.getD d 0 ∧ s.getD d 0 ≤ 24 := by
  have := h.lo _ (getD_mem hd)
  have := (le_sum h.lo).2 _ (getD_mem hd)
  have := h.hi
  omega
theorem tk_len {s : List Int} (h : Cn s) : ∀ m, m < s.length → (tk s m).length ≤ 24 * m
  | 0, _ => by simp [tk]
  | m + 1, hm => by
    have ih := tk_len h m (by omega)
    have := h.at hm
    unfold tk wd
    rw [List.length_append, List.length_replicate]
    omega
theorem with_lp {s : List Int} (h : Cn s) (hl : s.length ≤ 1000) : ∀ (m : Nat) (acc : List (Option Int)), m < s.length → acc.length + 24 * m ≤ 100000 → lp (B_row_with_1 s) (dwn (m : Int) 0) acc = rt (acc ++ tk s m)
  | 0, acc, _, _ => by
    rw [show ((0 : Nat) : Int) = 0 from rfl, dwn_zero]
    simp [lp, tk]
  | m + 1, acc, hm, ha => by
    have hd := h.at hm
    rw [dwn_succ, lp, B_row_with_1]
    obtain ⟨n, hn⟩ : ∃ n : Nat, s.getD (m + 1) 0 = n := ⟨(s.getD (m + 1) 0).toNat, by omega⟩
    have e1 := getD_lt hm
    rw [hn] at e1
    have hn2 : n ≤ 24 := by omega
    have hw : wd s (m + 1) = List.replicate n (some ((m + 1 : Nat) : Int)) := by unfold wd; rw [hn]; rfl
    simp only [bd_rt, bd_bd, lo_some, List.length_cons, List.length_nil, show 0 + 1 ≤ 1000 from by decide, if_true, e1]
    rw [mulL_ok (by omega) (by simp)]
    simp only [lo_some, bd_rt]
    have ef : (List.replicate n [some ((m + 1 : Nat) : Int)]).flatten = List.replicate n (some ((m + 1 : Nat) : Int)) := by simp
    rw [ef]
    unfold extT
    rw [if_pos (by simp; omega), lo_some, bd_rt, with_lp h hl m _ (by omega) (by simp; omega), tk, hw, List.append_assoc]
theorem canGo_none : ∀ (n : Nat) (r : List (Option Int)) (f : Int), canGo (List.replicate n none ++ r) f = canGo r (f + n)
  | 0, r, f => by simp
  | n + 1, r, f => by
    rw [List.replicate_succ, List.cons_append, canGo, canGo_none n r (f + 1)]
    congr 1
    omega
theorem canGo_some : ∀ (r : List (Option Int)) (f : Int), (∀ o ∈ r, ∃ d, o = some d ∧ 1 ≤ d ∧ d ≤ f) → canGo r f = some f
  | [], f, _ => rfl
  | o :: r, f, h => by
    obtain ⟨d, rfl, h1, h2⟩ := h o (List.mem_cons_self ..)
    rw [canGo, if_pos ⟨h1, h2⟩, canGo_some r f fun o ho => h o (List.mem_cons_of_mem _ ho)]
theorem tk_mem {s : List Int} {o : Option Int} : ∀ {m : Nat}, o ∈ tk s m → ∃ d : Nat, o = some (d : Int) ∧ 1 ≤ d ∧ d ≤ m ∧ 0 < s.getD d 0
  | 0, h => by cases h
  | m + 1, h => by
    unfold tk at h
    rcases List.mem_append.mp h with h | h
    · unfold wd at h
      obtain ⟨h1, h2⟩ := List.mem_replicate.mp h
      exact ⟨m + 1, h2, by omega, by omega, by omega⟩
    · obtain ⟨d, h1, h2, h3, h4⟩ := tk_mem h
      exact ⟨d, h1, h2, by omega, h4⟩
theorem deep_no {s : List Int} (h : Cn s) {d : Nat} (h1 : 1 ≤ d) (h2 : d < s.length) (h3 : 0 < s.getD d 0) : (d : Int) ≤ s.getD 0 0 := by
  have hd := h.dp
  unfold deepB at hd
  rw [List.any_eq_false] at hd
  have := hd (d - 1) (List.mem_range.mpr (by omega))
  rw [show d - 1 + 1 = d by omega] at this
  simp only [Bool.and_eq_true, decide_eq_true_eq, not_and] at this
  have := this h3
  omega
theorem tk_sum {s : List Int} (h : Cn s) : ∀ m, m < s.length → ((tk s m).length : Int) = ((s.drop 1).take m).sum
  | 0, _ => by simp [tk]
  | m + 1, hm => by
    have ih := tk_sum h m (by omega)
    have hd := h.at hm
    have e : (s.drop 1)[m]? = some (s.getD (m + 1) 0) := by
      rw [List.getElem?_drop, List.getD_eq_getElem?_getD, show 1 + m = m + 1 by omega, List.getElem?_eq_getElem hm]
      rfl
    rw [List.take_succ, e, List.sum_append]
    unfold tk wd
    rw [List.length_append, List.length_replicate]
    simp only [Option.toList_some, List.sum_cons, List.sum_nil]
    omega
theorem depW_len {s : List Int} (h : Cn s) : ((depW s).length : Int) = s.sum := by
  have hp := List.length_pos_iff.mpr h.ne
  have := tk_sum h (s.length - 1) (by omega)
  have h0 := h.at hp
  unfold depW
  rw [List.length_append, List.length_replicate]
  cases s with
  | nil => exact absurd rfl h.ne
  | cons x xs =>
    simp at this h0
    simp
    omega
theorem depW_can {s : List Int} (h : Cn s) : canB (depW s) = true := by
  have hp := List.length_pos_iff.mpr h.ne
  have hl := depW_len h
  have hs := h.hi
  have hf := h.fi
  have h0 := h.at hp
  unfold canB
  have e : canGo (depW s) 0 = some (s.getD 0 0) := by
    unfold depW
    rw [canGo_none, show (0 : Int) + ((s.getD 0 0).toNat : Int) = s.getD 0 0 by omega]
    refine canGo_some _ _ fun o ho => ?_
    obtain ⟨d, h1, h2, h3, h4⟩ := tk_mem ho
    exact ⟨d, h1, by omega, deep_no h h2 (by omega) h4⟩
  rw [e]
  simp only [Bool.and_eq_true, decide_eq_true_eq]
  omega
theorem p_row_with_ok {s : List Int} (hl : s.length ≤ 1000) (hc : canC s = true) : P_row_with s = .ok (rowP (depW s)) := by
  have h := cn_of hc
  have hp := List.length_pos_iff.mpr h.ne
  have h0 := h.at hp
  obtain ⟨n, hn⟩ : ∃ n : Nat, s.getD 0 0 = n := ⟨(s.getD 0 0).toNat, by omega⟩
  have e1 := getD_lt hp
  rw [hn] at e1
  obtain ⟨m, hm⟩ : ∃ m, s.length = m + 1 := ⟨s.length - 1, by omega⟩
  have mm : mid (m : Int) = true := midN (by omega)
  have m0 : mid 0 = true := rfl
  have w := with_lp h hl m (List.replicate n none) (by omega) (by simp; omega)
  have e1' : atI s 0 = some (n : Int) := e1
  have es : ((s.length : Nat) : Int) - 1 = (m : Int) := by omega
  unfold P_row_with
  simp only [bd_rt, bd_bd, p_can_count s hl, hc, bd_up, Bool.not_true, Bool.false_eq_true, if_false, lo_some, List.length_cons, List.length_nil, show 0 + 1 ≤ 1000 from by decide, if_true, e1']
  rw [mulL_ok (by omega) (by simp), lo_some, bd_rt, es]
  simp only [mm, m0, Bool.and_self, decide_true, if_true, lo_some, bd_rt]
  rw [show (List.replicate n [(none : Option Int)]).flatten = List.replicate n none by simp, w, bd_rt]
  have ed : List.replicate n none ++ tk s m = depW s := by
    unfold depW
    rw [hn, hm]
    rfl
  rw [ed]
  unfold P_row_of
  rw [depW_can h]
  simp
theorem p_row_with_bad {s : List Int} (hl : s.length ≤ 1000) (hc : canC s = false) : P_row_with s = .er 4 := by
  unfold P_row_with
  simp [p_can_count s hl, hc]
theorem rowP_len (s : List (Option Int)) : (rowP s).length = s.length := by
  unfold rowP
  have key : ∀ (xs : List (Option Int)) (row : List Int), (xs.foldl rowStep row).length = row.length + xs.length := by
    intro xs
    induction xs with
    | nil => intro row; simp
    | cons o xs ih =>
      intro row
      rw [List.foldl_cons, ih]
      cases o <;> simp [rowStep] <;> omega
  simpa using key s []
theorem rowP_ok {s : List (Option Int)} (h : canB s = true) : okRow (rowP s) := by
  obtain ⟨hl, g, hg, h20⟩ := canB_go h
  refine ⟨by rw [rowP_len]; exact hl, ?_⟩
  have key : ∀ (xs : List (Option Int)) (row : List Int) (g : Int), Full row → canGo xs ((lru row).length : Int) = some g → Full (xs.foldl rowStep row) ∧ ((lru (xs.foldl rowStep row)).length : Int) = g := by
    intro xs
    induction xs with
    | nil =>
      intro row g hf hg
      simp [canGo] at hg
      exact ⟨hf, hg⟩
    | cons o xs ih =>
      intro row g hf hg
      cases o with
      | none =>
        obtain ⟨f1, f2⟩ := full_step hf none (fun d e => by cases e)
        simp at f2
        rw [canGo, ← f2] at hg
        exact ih _ g f1 hg
      | some d =>
        rw [canGo] at hg
        by_cases hd : 1 ≤ d ∧ d ≤ ((lru row).length : Int)
        · rw [if_pos hd] at hg
          obtain ⟨f1, f2⟩ := full_step hf (some d) (fun d' e => by cases e; exact hd)
          simp at f2
          exact ih _ g f1 (by rw [f2]; exact hg)
        · rw [if_neg hd] at hg
          cases hg
  obtain ⟨f1, f2⟩ := key s [] g full_nil (by simpa [lru] using hg)
  intro x hx
  have := f1 x hx
  unfold okName
  show 0 ≤ x ∧ x ≤ 19
  omega
theorem eqD_l_ref (xs : List Int) (k : Nat) : eqD (enc xs) (refD k) = some false := by
  unfold eqD refD
  rw [show (enc xs : Dt) = .list (xs.map PyData.int) from rfl, shal_il, eqv_lt]
  have : shal (PyData.tuple [PyData.str "refused", PyData.str (wordN k)]) = true := shal_nice (nice_up (nice_tuple (n := 0) fun x hx => by
    simp only [List.mem_cons, List.not_mem_nil, or_false] at hx
    rcases hx with rfl | rfl <;> exact nice_str _ _) (by decide))
  rw [this]
  rfl
theorem ite_rt_f {τ : Type} {c : Prop} [Decidable c] (b : Bool) : (if c then (rt b : T τ Bool) else rt false) = rt (decide c && b) := by
  split <;> simp [*]
theorem ite_rt_t {τ : Type} {c : Prop} [Decidable c] (b : Bool) : (if c then (rt true : T τ Bool) else rt b) = rt (decide c || b) := by
  split <;> simp [*]
end G8
namespace G8
open PySem L2
open Enc (enc dec)
/-! loops that search -/
theorem lpx_find {τ α ω : Type} {body : α → Unit → T τ (Lx Unit ω)} (p : α → Bool) (f : α → ω) : ∀ {xs : List α}, (∀ x ∈ xs, body x () = if p x then rt (.out (f x)) else rt (.nx ())) → lpx body xs () = rt (match xs.find? p with
    | some x => .inr (f x)
    | none => .inl ())
  | [], _ => rfl
  | x :: xs, h => by
    rw [lpx, h x (List.mem_cons_self ..)]
    have ih := lpx_find p f fun y hy => h y (List.mem_cons_of_mem _ hy)
    cases e : p x with
    | true => simp [e]
    | false => simp [e, ih]
/-! later, holds -/
def laterP (row : List Int) (k : Nat) : Option Nat := ((List.range (row.length - (k + 1))).map fun i => k + 1 + i).find? fun j => decide (row[j]? = row[k]?)
theorem p_later {row : List Int} {k : Nat} (hk : k < row.length) (hl : row.length ≤ 24) : P_later row k = .ok ((laterP row k).map fun (j : Nat) => (j : Int)) := by
  have m1 : mid ((k : Int) + 1) = true := midI (by omega) (by omega)
  have m2 : mid (row.length : Int) = true := midN (by omega)
  have er : rng ((k : Int) + 1) (row.length : Int) = ((List.range (row.length - (k + 1))).map fun i => k + 1 + i).map fun (j : Nat) => (j : Int) := by
    have := rngA (k + 1) row.length (by omega)
    rw [List.map_map]
    exact this
  have l := lpx_find (τ := Unit) (body := fun (j : Nat) => B_later_1 row k (j : Int)) (fun j => decide (row[j]? = row[k]?)) (fun (j : Nat) => some (j : Int)) (xs := (List.range (row.length - (k + 1))).map fun i => k + 1 + i) (fun j hj => by
    obtain ⟨i, hi, rfl⟩ := List.mem_map.mp hj
    have hi := List.mem_range.mp hi
    have hj : k + 1 + i < row.length := by omega
    unfold B_later_1
    simp only [bd_rt, bd_bd, lo_some, eqT_i, atI_some hj, atI_some hk, List.getElem?_eq_getElem hj, List.getElem?_eq_getElem hk, Option.some.injEq])
  unfold P_later
  simp only [bd_rt, bd_bd, lo_some, m1, m2, Bool.and_self, if_true]
  rw [er, lpx_mapL, l, bd_rt]
  unfold laterP
  cases ((List.range (row.length - (k + 1))).map fun i => k + 1 + i).find? fun j => decide (row[j]? = row[k]?) <;> simp
def holdsP (row : List Int) : List (Int × Int) := (List.range row.length).filterMap fun (k : Nat) => (laterP row k).map fun (j : Nat) => ((k : Int), (j : Int))
theorem p_holds_ok {row : List Int} (h : okRow row) : P_holds row = .ok (holdsP row) := by
  have hl := h.1
  have m2 : mid (row.length : Int) = true := midN (by omega)
  unfold P_holds
  simp only [bd_rt, bd_bd, p_look_row_ok h, bd_up, m2, if_true, lo_some]
  rw [rng0, cmpG_mapL, cmpG_map (fun (k : Nat) => ((k : Int), (laterP row k).map fun (j : Nat) => (j : Int))) (by simp; omega) (fun k hk => by
    rw [p_later (List.mem_range.mp hk) hl, bd_up]), bd_rt, cmpG_mapL, cmpG_pure (fun (k : Nat) => (laterP row k).map fun (j : Nat) => ((k : Int), (j : Int))) (by simp; omega) (fun k hk => by
    cases laterP row k <;> simp)]
  simp [holdsP]
theorem p_holds_bad {row : List Int} (h : ¬ okRow row) : P_holds row = .er 0 := by simp [P_holds, p_look_row_bad h]
/-! squeezed, apart -/
def sqP (row : List Int) : List Int := (List.range row.length).filterMap fun k => if k = 0 ∨ row[k]? ≠ row[k - 1]? then row[k]? else none
theorem p_squeezed_ok {row : List Int} (h : okRow row) : P_squeezed row = .ok (sqP row) := by
  have hl := h.1
  have m2 : mid (row.length : Int) = true := midN (by omega)
  unfold P_squeezed
  simp only [bd_rt, bd_bd, p_look_row_ok h, bd_up, m2, if_true, lo_some]
  rw [cmpG_rng row.length (fun k => if k = 0 ∨ row[k]? ≠ row[k - 1]? then row[k]? else none) (by omega) fun k hk => by
    rw [atI_some hk]
    by_cases h0 : k = 0
    · subst h0
      simp [hk]
    · have hk1 : k - 1 < row.length := by omega
      have e : ((k : Int) - 1) = ((k - 1 : Nat) : Int) := by omega
      have h0' : ¬ ((k : Int) = 0) := by omega
      rw [e, atI_some hk1]
      simp only [eqT_i, h0', decide_false, Bool.false_eq_true, if_false, bd_lo, bd_rt, List.getElem?_eq_getElem hk, List.getElem?_eq_getElem hk1, h0, false_or, ne_eq, Option.some.injEq]
      by_cases hq : row[k] = row[k - 1] <;> simp [hq]]
  simp [sqP]
theorem p_squeezed_bad {row : List Int} (h : ¬ okRow row) : P_squeezed row = .er 0 := by simp [P_squeezed, p_look_row_bad h]
theorem p_apart_ok {row : List Int} (h : okRow row) (h9 : ∀ x ∈ row, x < 10) : P_apart row = .ok (row.map (· + 10)) := by
  have hl := h.1
  unfold P_apart
  simp only [bd_rt, bd_bd, p_look_row_ok h, bd_up, if_true, lo_some]
  rw [cmpG_map (fun x => decide (x < 10)) (by omega) (fun x _ => rfl), bd_rt]
  have ha : (row.map fun x => decide (x < 10)).all id = true := by
    rw [List.all_map, List.all_eq_true]
    exact fun x hx => decide_eq_true (h9 x hx)
  rw [ha, cmpG_map (fun x => x + 10) (by omega) (fun x _ => rfl)]
  simp
theorem p_apart_big {row : List Int} (h : okRow row) (h9 : ¬ ∀ x ∈ row, x < 10) : P_apart row = .er 0 := by
  have hl := h.1
  unfold P_apart
  simp only [bd_rt, bd_bd, p_look_row_ok h, bd_up, if_true, lo_some]
  rw [cmpG_map (fun x => decide (x < 10)) (by omega) (fun x _ => rfl), bd_rt]
  have ha : (row.map fun x => decide (x < 10)).all id = false := by
    rw [List.all_map, List.all_eq_false]
    refine Classical.byContradiction fun hn => h9 fun x hx => ?_
    refine Classical.byContradiction fun hx2 => hn ⟨x, hx, by simp; omega⟩
  rw [ha]
  simp
theorem p_apart_bad {row : List Int} (h : ¬ okRow row) : P_apart row = .er 0 := by simp [P_apart, p_look_row_bad h]
theorem p_are_alike_bad {xs ys : List Int} (h : ¬ okRow xs) : P_are_alike xs ys = .er 0 := by simp [P_are_alike, p_renamed_bad h]
/-! names exchanged -/
theorem nms_map (f : Int → Int) (xs : List Int) (h : ∀ a ∈ xs, ∀ b ∈ xs, f a = f b → a = b) : nms (xs.map f) = (nms xs).map f := by
  induction xs using snocInd with
  | h0 => rfl
  | h1 xs x ih =>
    have ih := ih fun a ha b hb => h a (List.mem_append_left _ ha) b (List.mem_append_left _ hb)
    rw [List.map_append, List.map_singleton, nms_snoc, nms_snoc, ih]
    have hm : f x ∈ (nms xs).map f ↔ x ∈ nms xs := by
      constructor
      · intro hx
        obtain ⟨y, hy, e⟩ := List.mem_map.mp hx
        have hy' := ((nms_all xs).2.1 y).mp hy
        have := h y (List.mem_append_left _ hy') x (by simp) e
        exact this ▸ hy
      · exact fun hx => List.mem_map_of_mem hx
    by_cases hx : x ∈ nms xs
    · rw [if_pos hx, if_pos (hm.mpr hx)]
    · rw [if_neg hx, if_neg (fun z => hx (hm.mp z)), List.map_append, List.map_singleton]
theorem idxOf_map (f : Int → Int) : ∀ (l : List Int) (x : Int), (∀ a ∈ l, f a = f x → a = x) → (l.map f).idxOf (f x) = l.idxOf x
  | [], x, _ => rfl
  | a :: l, x, h => by
    rw [List.map_cons, List.idxOf_cons, List.idxOf_cons, idxOf_map f l x fun b hb => h b (List.mem_cons_of_mem _ hb)]
    by_cases e : a = x
    · subst e
      rw [beq_self_eq_true, beq_self_eq_true]
    · have h1 : (a == x) = false := beq_false_of_ne e
      have h2 : (f a == f x) = false := beq_false_of_ne fun z => e (h a (List.mem_cons_self ..) z)
      rw [h1, h2]
theorem ren_map (f : Int → Int) (xs : List Int) (h : ∀ a ∈ xs, ∀ b ∈ xs, f a = f b → a = b) : renP (xs.map f) = renP xs := by
  unfold renP
  rw [nms_map f xs h, List.map_map]
  refine List.map_congr_left fun x hx => ?_
  show (((nms xs).map f).idxOf (f x) : Int) = _
  rw [idxOf_map f (nms xs) x fun a ha e => h a (((nms_all xs).2.1 a).mp ha) x hx e]
end G8
namespace G8
open PySem L2
open Enc (enc dec)
/-! counts of depths -/
theorem canGo_all : ∀ (s : List (Option Int)) (f g : Int), canGo s f = some g → g = f + (s.count none : Nat) ∧ ∀ d, some d ∈ s → 1 ≤ d ∧ d ≤ g
  | [], f, g, h => by simp [canGo] at h; simp [h]
  | none :: r, f, g, h => by
    rw [canGo] at h
    obtain ⟨h1, h2⟩ := canGo_all r (f + 1) g h
    refine ⟨by simp; omega, fun d hd => h2 d (by simpa using hd)⟩
  | some d :: r, f, g, h => by
    rw [canGo] at h
    split at h
    · rename_i hd
      obtain ⟨h1, h2⟩ := canGo_all r f g h
      refine ⟨by simp; omega, fun d' hd' => ?_⟩
      rcases List.mem_cons.mp hd' with e | e
      · cases e
        exact ⟨hd.1, by omega⟩
      · exact h2 d' e
    · cases h
theorem sum_counts : ∀ (s : List (Option Int)), (∀ d, some d ∈ s → 1 ≤ d ∧ d ≤ 12) → (countsP s).sum = s.length
  | [], _ => by rfl
  | none :: s, h => by
    have ih := sum_counts s fun d hd => h d (List.mem_cons_of_mem _ hd)
    simp [countsP, List.range_succ] at ih ⊢
    omega
  | some d :: s, h => by
    have ih := sum_counts s fun d hd => h d (List.mem_cons_of_mem _ hd)
    have hd := h d (List.mem_cons_self ..)
    have : d = 1 ∨ d = 2 ∨ d = 3 ∨ d = 4 ∨ d = 5 ∨ d = 6 ∨ d = 7 ∨ d = 8 ∨ d = 9 ∨ d = 10 ∨ d = 11 ∨ d = 12 := by omega
    simp [countsP, List.range_succ] at ih ⊢
    rcases this with rfl | rfl | rfl | rfl | rfl | rfl | rfl | rfl | rfl | rfl | rfl | rfl <;> simp [List.count_cons] <;> omega
theorem counts_len (s : List (Option Int)) : (countsP s).length = 13 := by simp [countsP]
theorem counts_0 (s : List (Option Int)) : (countsP s).getD 0 0 = (s.count none : Nat) := by simp [countsP]
theorem counts_i (s : List (Option Int)) (i : Nat) (h : i < 12) : (countsP s).getD (i + 1) 0 = (s.count (some ((i : Int) + 1)) : Nat) := by
  simp [countsP, h]
theorem foldl_min_ge : ∀ (xs : List Int) (x : Int), 0 ≤ x → (∀ y ∈ xs, 0 ≤ y) → 0 ≤ xs.foldl min x
  | [], x, h, _ => h
  | y :: ys, x, h, k => foldl_min_ge ys (min x y) (by have := k y (List.mem_cons_self ..); omega) fun z hz => k z (List.mem_cons_of_mem _ hz)
theorem canC_counts {row : List Int} (h : okRow row) (hd : ∀ d, some d ∈ depsL row → d ≤ 12) : canC (countsP (depsL row)) = true := by
  have hg := canGo_deps row
  obtain ⟨g1, g2⟩ := canGo_all _ _ _ hg
  have hs := sum_counts (depsL row) fun d hm => ⟨(g2 d hm).1, hd d hm⟩
  have hn := lru_le_names h.2
  have hl := depsL_len row
  have hdeep : deepB (countsP (depsL row)) ((depsL row).count none : Nat) = false := by
    unfold deepB
    rw [List.any_eq_false, counts_len]
    intro i hi
    have hi := List.mem_range.mp hi
    rw [counts_i _ i (by omega)]
    simp only [Bool.and_eq_true, decide_eq_true_eq, not_and]
    intro hp
    have hm : some ((i : Int) + 1) ∈ depsL row := List.count_pos_iff.mp (by omega)
    have := (g2 _ hm).2
    omega
  have hr := h.1
  generalize hc : countsP (depsL row) = c at hs hdeep
  have hc2 := hc
  unfold countsP at hc2
  rw [← hc2] at hs hdeep ⊢
  dsimp only [canC]
  rw [hdeep, hs]
  have hmin : 0 ≤ ((List.range 12).map fun (i : Nat) => (((depsL row).count (some ((i : Int) + 1)) : Nat) : Int)).foldl min (((depsL row).count none : Nat) : Int) := by
    refine foldl_min_ge _ _ (by omega) fun y hy => ?_
    obtain ⟨i, _, rfl⟩ := List.mem_map.mp hy
    omega
  simp only [decide_eq_true hmin, Bool.true_and, Bool.not_false, Bool.and_true, Bool.and_eq_true, decide_eq_true_eq]
  omega
theorem tk_none (s : List Int) : ∀ m, (tk s m).count none = 0
  | 0 => rfl
  | m + 1 => by
    unfold tk wd
    rw [List.count_append, tk_none s m, List.count_replicate]
    simp
theorem tk_count (s : List Int) (i : Nat) (hi : 1 ≤ i) : ∀ m, (tk s m).count (some (i : Int)) = if i ≤ m then (s.getD i 0).toNat else 0
  | 0 => by rw [if_neg (by omega)]; rfl
  | m + 1 => by
    unfold tk wd
    rw [List.count_append, tk_count s i hi m, List.count_replicate]
    by_cases h1 : i = m + 1
    · subst h1
      rw [if_neg (show ¬ m + 1 ≤ m by omega), if_pos (Nat.le_refl _), if_pos (by simp), Nat.add_zero]
    · have h2 : (some ((m + 1 : Nat) : Int) == some (i : Int)) = false := by
        simp
        omega
      rw [h2, if_neg (by decide), Nat.zero_add]
      by_cases h3 : i ≤ m
      · rw [if_pos h3, if_pos (show i ≤ m + 1 by omega)]
      · rw [if_neg h3, if_neg (show ¬ i ≤ m + 1 by omega)]
theorem counts_ext {a b : List (Option Int)} (h0 : a.count none = b.count none) (h : ∀ i : Nat, i < 12 → a.count (some ((i : Int) + 1)) = b.count (some ((i : Int) + 1))) : countsP a = countsP b := by
  unfold countsP
  rw [h0]
  congr 1
  exact List.map_congr_left fun i hi => by rw [h i (List.mem_range.mp hi)]
theorem counts_depW (d : List (Option Int)) : countsP (depW (countsP d)) = countsP d := by
  have h0 := counts_0 d
  have c0 : (depW (countsP d)).count none = d.count none := by
    unfold depW
    rw [List.count_append, tk_none, List.count_replicate, h0]
    simp
  have ci : ∀ i : Nat, i < 12 → (depW (countsP d)).count (some ((i : Int) + 1)) = d.count (some ((i : Int) + 1)) := by
    intro i hi
    have e := tk_count (countsP d) (i + 1) (by omega) 12
    rw [if_pos (by omega), counts_i d i hi] at e
    unfold depW
    rw [List.count_append, counts_len, List.count_replicate]
    have e' : List.count (some ((i : Int) + 1)) (tk (countsP d) 12) = d.count (some ((i : Int) + 1)) := by
      rw [show ((i : Int) + 1) = ((i + 1 : Nat) : Int) by omega] at e ⊢
      omega
    rw [show 13 - 1 = 12 from rfl, e']
    simp
  exact counts_ext c0 ci
/-! the curve of "last" -/
def over (r : Nat) (o : Option Int) : Bool := match o with
  | none => true
  | some d => decide ((r : Int) < d)
def curveP (s : List (Option Int)) : List Int := (List.range 13).map fun (r : Nat) => ((s.countP (over r) : Nat) : Int)
theorem curve_perm {a b : List (Option Int)} (h : a.Perm b) : curveP a = curveP b := List.map_congr_left fun r _ => by rw [h.countP_eq]
theorem counts_perm {a b : List (Option Int)} (h : a.Perm b) : countsP a = countsP b := counts_ext (h.count_eq _) fun i _ => h.count_eq _
theorem p_look_rule_last : P_look_rule "last" = .ok () := by simp [P_look_rule, l_RULES]
theorem p_curve_last {row : List Int} (h : okRow row) : P_curve "last" row = .ok (curveP (depsL row)) := by
  have m13 : mid 13 = true := rfl
  have hl := depsL_len row
  have hr := h.1
  have hin : inL ("last" : Str) l_STACKED = true := by simp [l_STACKED]
  simp only [P_curve, bd_rt, p_look_rule_last, bd_up, p_look_row_ok h, lo_some, hin, Bool.not_true, Bool.false_eq_true, if_false, p_depths_last h, show (12 : Int) + 1 = 13 from rfl, m13, if_true, bd_bd]
  rw [show (13 : Int) = ((13 : Nat) : Int) from rfl, rng0, cmpG_mapL, cmpG_map (fun (r : Nat) => (((depsL row).countP (over r) : Nat) : Int)) (by simp) (fun r _ => by
    rw [cmpG_filter (over r) id (by omega) (fun o _ => by
      cases o with
      | none => simp [over]
      | some d => simp [over])]
    simp [List.countP_eq_length_filter])]
  simp [curveP]
/-- depths of 1 to 12 are told by their counts, but for the order -/
theorem perm_of_counts {a b : List (Option Int)} (ha : ∀ d, some d ∈ a → 1 ≤ d ∧ d ≤ 12) (hb : ∀ d, some d ∈ b → 1 ≤ d ∧ d ≤ 12) (h : countsP a = countsP b) : a.Perm b := by
  rw [List.perm_iff_count]
  intro o
  cases o with
  | none =>
    have := congrArg (fun l => l.getD 0 0) h
    simp only [counts_0] at this
    omega
  | some d =>
    by_cases hd : 1 ≤ d ∧ d ≤ 12
    · obtain ⟨n, rfl⟩ : ∃ n : Nat, d = (n : Int) + 1 := ⟨(d - 1).toNat, by omega⟩
      have := congrArg (fun l => l.getD (n + 1) 0) h
      simp only [counts_i _ n (show n < 12 by omega)] at this
      omega
    · rw [List.count_eq_zero_of_not_mem (fun z => hd (ha d z)), List.count_eq_zero_of_not_mem (fun z => hd (hb d z))]
theorem row_ok' {s : List Int} (h : Cn s) : okRow (rowP (depW s)) := rowP_ok (depW_can h)
end G8
namespace G8
open PySem L2
open Enc (enc dec)
/-! levels -/
theorem mem_take_idx (x : Int) : ∀ (s : List Int) (n : Nat), x ∈ s.take n ↔ (x ∈ s ∧ s.idxOf x < n)
  | [], n => by simp
  | y :: s, 0 => by simp
  | y :: s, n + 1 => by
    rw [List.take_succ_cons, List.mem_cons, List.mem_cons, mem_take_idx x s n, List.idxOf_cons]
    by_cases h : y = x
    · simp [h]
    · have h2 : ¬ x = y := fun z => h z.symm
      have h3 : (y == x) = false := beq_false_of_ne h
      rw [h3]
      simp [h2]
theorem mem_part (x : Int) (s : List Int) (hs : s.Nodup) (n f : Nat) : x ∈ (s.drop n).take f ↔ (x ∈ s ∧ n ≤ s.idxOf x ∧ s.idxOf x < n + f) := by
  have h1 := mem_take_idx x s (n + f)
  have h2 := mem_take_idx x s n
  have e : s.take (n + f) = s.take n ++ (s.drop n).take f := List.take_add
  rw [e, List.mem_append] at h1
  have hd : x ∈ s.take n → x ∉ (s.drop n).take f := fun a b => by
    have hn : (s.take n ++ (s.drop n).take f).Nodup := by
      rw [← e]
      exact hs.sublist (List.take_sublist _ _)
    exact (List.nodup_append.mp hn).2.2 x a x b rfl
  constructor
  · intro h
    have h3 := h1.mp (.inr h)
    refine ⟨h3.1, ?_, h3.2⟩
    refine Classical.byContradiction fun z => hd (h2.mpr ⟨h3.1, by omega⟩) h
  · rintro ⟨a, b, c⟩
    rcases h1.mpr ⟨a, c⟩ with h | h
    · have := (h2.mp h).2
      omega
    · exact h
def lvl (n f : Nat) : Option Int → Str
  | none => "none"
  | some d => if d ≤ n then "near" else if d ≤ n + f then "far" else "none"
theorem filter_ne_len (x : Int) (l : List Int) (hl : l.Nodup) : l.length ≤ (l.filter fun y => !decide (y = x)).length + 1 ∧ (x ∉ l → l.filter (fun y => !decide (y = x)) = l) := by
  constructor
  · induction l with
    | nil => simp
    | cons y l ih =>
      have hn := List.nodup_cons.mp hl
      by_cases h : y = x
      · subst h
        have e : (y :: l).filter (fun z => !decide (z = y)) = l := by
          rw [List.filter_cons_of_neg (by simp)]
          exact List.filter_eq_self.mpr fun z hz => by simp; exact fun q => hn.1 (q ▸ hz)
        rw [e]
        simp
      · rw [List.filter_cons_of_pos (by simp [h])]
        have := ih hn.2
        simp
        omega
  · intro hx
    exact List.filter_eq_self.mpr fun z hz => by simp; exact fun q => hx (q ▸ hz)
/-- the stack in two parts behind an ask -/
theorem levels_step (s : List Int) (hs : s.Nodup) (x : Int) (n f : Nat) :
    (x :: (s.take n).filter fun y => !decide (y = x)).take n = (push s x).take n ∧
    ((x :: (s.take n).filter fun y => !decide (y = x)).drop n ++ ((s.drop n).take f).filter fun y => !decide (y = x)).take f = ((push s x).drop n).take f := by
  have he : s.erase x = s.filter fun y => !decide (y = x) := by
    rw [hs.erase_eq_filter]
    refine List.filter_congr fun y _ => ?_
    by_cases h : y = x <;> simp [h]
  have ht : (s.take n).Nodup := hs.sublist (List.take_sublist _ _)
  have hr : (s.drop n).Nodup := hs.sublist (List.drop_sublist _ _)
  have l1 := filter_ne_len x (s.take n) ht
  unfold push
  rw [he]
  have sp : s.filter (fun y => !decide (y = x)) = (s.take n).filter (fun y => !decide (y = x)) ++ (s.drop n).filter fun y => !decide (y = x) := by
    rw [← List.filter_append, List.take_append_drop]
  rw [sp]
  generalize ha : (s.take n).filter (fun y => !decide (y = x)) = a at l1
  have lt : (s.take n).length = min n s.length := List.length_take
  by_cases hsn : s.length < n
  · have e0 : s.drop n = [] := List.drop_eq_nil_of_le (by omega)
    rw [e0]
    simp
  · have la : n ≤ (x :: a).length := by simp; omega
    rw [← List.cons_append]
    refine ⟨by rw [List.take_append_of_le_length la], ?_⟩
    rw [List.drop_append_of_le_length la]
    generalize hp : (x :: a).drop n = p
    have lp : p.length = a.length + 1 - n := by rw [← hp]; simp
    have sr : (s.drop n).filter (fun y => !decide (y = x)) = ((s.drop n).take f).filter (fun y => !decide (y = x)) ++ ((s.drop n).drop f).filter fun y => !decide (y = x) := by
      rw [← List.filter_append, List.take_append_drop]
    rw [sr, ← List.append_assoc]
    by_cases hf : (s.drop n).length ≤ f
    · have e0 : (s.drop n).drop f = [] := List.drop_eq_nil_of_le hf
      rw [e0]
      simp
    · have hn2 : ((s.drop n).take f).Nodup := hr.sublist (List.take_sublist _ _)
      have l2 := filter_ne_len x ((s.drop n).take f) hn2
      have lf : ((s.drop n).take f).length = f := by rw [List.length_take]; omega
      have big : f ≤ (p ++ ((s.drop n).take f).filter fun y => !decide (y = x)).length := by
        rw [List.length_append]
        by_cases hx : x ∈ (s.drop n).take f
        · have hnot : x ∉ s.take n := fun z => by
            have := (mem_take_idx x s n).mp z
            have := (mem_part x s hs n f).mp hx
            omega
          have ea := l1.2 hnot
          rw [ea] at lp
          omega
        · rw [l2.2 hx]
          omega
      rw [List.take_append_of_le_length big]
def lst8 (n f : Nat) (pre : List Int) : List Int × List Int × List Str := ((lru pre).take n, ((lru pre).drop n).take f, (depsL pre).map (lvl n f))
theorem lvl_word (s : List Int) (hs : s.Nodup) (x : Int) (n f : Nat) : lvl n f (dep1 s x) = if x ∈ s.take n then "near" else if x ∈ (s.drop n).take f then "far" else "none" := by
  have h1 := mem_take_idx x s n
  have h2 := mem_part x s hs n f
  unfold dep1
  by_cases hx : x ∈ s
  · rw [if_pos hx]
    by_cases c1 : s.idxOf x < n
    · rw [if_pos (h1.mpr ⟨hx, c1⟩)]
      show (if ((s.idxOf x : Int) + 1) ≤ n then _ else _) = _
      rw [if_pos (by omega)]
    · rw [if_neg (fun z => c1 (h1.mp z).2)]
      show (if ((s.idxOf x : Int) + 1) ≤ n then _ else _) = _
      rw [if_neg (by omega)]
      by_cases c2 : s.idxOf x < n + f
      · rw [if_pos (h2.mpr ⟨hx, by omega, c2⟩), if_pos (by omega)]
      · rw [if_neg (fun z => c2 (h2.mp z).2.2), if_neg (by omega)]
  · rw [if_neg hx, if_neg (fun z => hx (h1.mp z).1), if_neg (fun z => hx (h2.mp z).1)]
    rfl
theorem cmp_ne (x : Int) (l : List Int) (hl : l.length ≤ 1000) : cmpG (τ := Unit) l (fun y => if (!eqT y x) = true then rt (some y) else rt none) = rt (l.filter fun y => !decide (y = x)) := by
  have := cmpG_filter (τ := Unit) (f := fun y => if (!eqT y x) = true then rt (some y) else rt none) (fun y => !decide (y = x)) id (xs := l) (by omega) (fun y _ => by rw [eqT_i]; rfl)
  rw [this]
  simp
theorem levels_lp (n f : Nat) : ∀ (xs pre : List Int), pre.length + xs.length ≤ 24 → lp (B_levels_1 (n : Int) (f : Int)) xs (lst8 n f pre) = rt (lst8 n f (pre ++ xs))
  | [], pre, _ => by rw [List.append_nil]; rfl
  | x :: xs, pre, h => by
    have hl := lru_len pre
    have hs := (lru_all pre).1
    simp at h
    have st := levels_step (lru pre) hs x n f
    have w := lvl_word (lru pre) hs x n f
    have ih := levels_lp n f xs (pre ++ [x]) (by simp; omega)
    rw [List.append_assoc, List.singleton_append] at ih
    rw [← ih, lp]
    congr 1
    unfold B_levels_1 lst8
    have f1 := cmp_ne x ((lru pre).take n) (by simp; omega)
    have f2 := cmp_ne x (((lru pre).drop n).take f) (by simp; omega)
    have word : (if inL x ((lru pre).take n) = true then (rt "near" : T Unit Str) else if inL x (((lru pre).drop n).take f) = true then rt "far" else rt "none") = rt (lvl n f (dep1 (lru pre) x)) := by
      rw [w, inL_i, inL_i]
      by_cases c1 : x ∈ (lru pre).take n
      · simp [c1]
      · by_cases c2 : x ∈ ((lru pre).drop n).take f <;> simp [c1, c2]
    have sz1 : ((lru pre).take n).length ≤ 24 := by simp; omega
    have sz2 : (((lru pre).drop n).take f).length ≤ 24 := by simp; omega
    have sf1 := List.length_filter_le (fun y => !decide (y = x)) ((lru pre).take n)
    have sf2 := List.length_filter_le (fun y => !decide (y = x)) (((lru pre).drop n).take f)
    simp only [bd_rt, bd_bd, lo_some, List.length_cons, List.length_nil, show 0 + 1 ≤ 1000 from by decide, if_true]
    rw [word, bd_rt, appT_ok (by simp [depsL_len]; omega), bd_lo, f1, bd_rt, addL_ok (by simp; omega), bd_lo, f2, bd_rt, List.singleton_append, cut_1, addL_ok (by simp; omega), bd_lo, cut_0, cut_0, st.1, st.2, lru_snoc, depsL_snoc, List.map_append]
    rfl
theorem p_levels_ok {row : List Int} (h : okRow row) (n f : Nat) (hn : n ≤ 12) (hf : f ≤ 12) : P_levels n f row = .ok ((depsL row).map (lvl n f)) := by
  have l := levels_lp n f row [] (by have := h.1; simpa using this)
  have e0 : lst8 n f [] = ([], [], []) := by
    unfold lst8
    simp [lru]
    rfl
  rw [e0, List.nil_append] at l
  have r1 := p_look_room_ok (n := n) ⟨by omega, by omega⟩
  have r2 := p_look_room_ok (n := f) ⟨by omega, by omega⟩
  unfold P_levels
  simp only [bd_rt, bd_up, r1, r2, p_look_row_ok h, List.length_nil, Nat.zero_le, if_true, lo_some]
  rw [l]
  simp [lst8]
end G8
namespace G8
open PySem L2
open Enc (enc dec)
/-! the least of a list of triples -/
def lt3 (p q : (Int × Int) × Int) : Bool := decide (p.1.1 < q.1.1 ∨ (p.1.1 = q.1.1 ∧ (p.1.2 < q.1.2 ∨ (p.1.2 = q.1.2 ∧ p.2 < q.2))))
theorem leE3 (p q : (Int × Int) × Int) : leD (enc p) (enc q) = !lt3 q p := by
  show (!PySem.W.dataLt (.tuple [enc q.1, enc q.2]) (.tuple [enc p.1, enc p.2])) = _
  rw [PySem.W.dataLt_pair (Alk.al q.1 p.1) (Alk.al q.2 p.2), EncQ.eq, EncQ.eq]
  have h1 : PySem.W.dataLt (enc q.1) (enc p.1) = decide (q.1.1 < p.1.1 ∨ (q.1.1 = p.1.1 ∧ q.1.2 < p.1.2)) := PySem.W.dataLt_ii ..
  have h2 : PySem.W.dataLt (enc q.2) (enc p.2) = decide (q.2 < p.2) := PySem.W.dataLt_int ..
  rw [h1, h2]
  obtain ⟨⟨a, b⟩, c⟩ := p
  obtain ⟨⟨d, e⟩, f⟩ := q
  unfold lt3
  simp only [Prod.mk.injEq, decide_eq_true_eq]
  congr 1
  by_cases h3 : d = a ∧ e = b
  · rw [if_pos h3]
    by_cases h4 : f = c
    · rw [if_pos h4]
      symm
      rw [decide_eq_false_iff_not]
      omega
    · rw [if_neg h4]
      rw [decide_eq_decide]
      omega
  · rw [if_neg h3, decide_eq_decide]
    omega
theorem srt3_head {ys : List ((Int × Int) × Int)} (h : ys ≠ []) : ∃ m r, srtE ys = m :: r ∧ m ∈ ys ∧ ∀ y ∈ ys, lt3 y m = false := by
  have ef : (fun (x y : (Int × Int) × Int) => leD (enc x) (enc y)) = fun x y => !lt3 y x := by
    funext x y
    exact leE3 x y
  have hs : (srtE ys).Pairwise fun a b => (!lt3 b a) = true := by
    unfold srtE
    rw [ef]
    refine List.pairwise_mergeSort (fun a b c => ?_) (fun a b => ?_) ys
    · unfold lt3
      simp only [Bool.not_eq_true', decide_eq_false_iff_not]
      intro u v
      omega
    · unfold lt3
      simp only [Bool.or_eq_true, Bool.not_eq_true', decide_eq_false_iff_not]
      omega
  have hp : (srtE ys).Perm ys := List.mergeSort_perm ..
  cases e : srtE ys with
  | nil =>
    rw [e] at hp
    exact absurd (List.nil_perm.mp hp) h
  | cons m r =>
    rw [e] at hs hp
    refine ⟨m, r, rfl, hp.mem_iff.mp (List.mem_cons_self ..), fun y hy => ?_⟩
    rcases List.mem_cons.mp (hp.mem_iff.mpr hy) with rfl | hy
    · unfold lt3
      rw [decide_eq_false_iff_not]
      omega
    · have := (List.pairwise_cons.mp hs).1 y hy
      simpa using this
def vict (w : Int → Int × Int) (xs : List Int) : Int := ((srtE (xs.map fun x => (w x, x))).headD ((0, 0), 0)).2
theorem vict_all (w : Int → Int × Int) {xs : List Int} (h : xs ≠ []) : vict w xs ∈ xs ∧ (∀ y ∈ xs, lt3 (w y, y) (w (vict w xs), vict w xs) = false) ∧ atI (srtE (xs.map fun x => (w x, x))) 0 = some (w (vict w xs), vict w xs) := by
  obtain ⟨m, r, e, hm, hl⟩ := srt3_head (ys := xs.map fun x => (w x, x)) (by simpa using h)
  obtain ⟨x, hx, rfl⟩ := List.mem_map.mp hm
  have ev : vict w xs = x := by
    unfold vict
    rw [e]
    rfl
  rw [ev, e]
  exact ⟨hx, fun y hy => hl _ (List.mem_map.mpr ⟨y, hy, rfl⟩), by rw [show (0 : Int) = ((0 : Nat) : Int) from rfl, G8.atI_nat]; rfl⟩
theorem vict_uniq (w : Int → Int × Int) {xs : List Int} {m : Int} (h : m ∈ xs) (k : ∀ y ∈ xs, y ≠ m → lt3 (w m, m) (w y, y) = true) : vict w xs = m := by
  have hn : xs ≠ [] := fun z => by rw [z] at h; cases h
  obtain ⟨h1, h2, _⟩ := vict_all w hn
  refine Classical.byContradiction fun z => ?_
  have := h2 m h
  rw [k _ h1 z] at this
  cases this
theorem vict_congr {w w' : Int → Int × Int} {xs : List Int} (h : ∀ x ∈ xs, w x = w' x) : vict w xs = vict w' xs := by
  unfold vict
  rw [List.map_congr_left fun x hx => by rw [h x hx]]
theorem lt3_tot {p q : (Int × Int) × Int} (h : p ≠ q) (k : lt3 p q = false) : lt3 q p = true := by
  obtain ⟨⟨a, b⟩, c⟩ := p
  obtain ⟨⟨d, e⟩, f⟩ := q
  unfold lt3 at k ⊢
  simp only [ne_eq, Prod.mk.injEq, not_and, decide_eq_false_iff_not, decide_eq_true_eq] at h k ⊢
  omega
theorem vict_mem (w : Int → Int × Int) {xs ys : List Int} (h : ∀ x, x ∈ xs ↔ x ∈ ys) : vict w xs = vict w ys := by
  by_cases hn : xs = []
  · subst hn
    cases ys with
    | nil => rfl
    | cons y ys => exact absurd ((h y).mpr (List.mem_cons_self ..)) (by simp)
  · have hn2 : ys ≠ [] := fun z => by
      cases xs with
      | nil => exact hn rfl
      | cons x xs =>
        have := (h x).mp (List.mem_cons_self ..)
        rw [z] at this
        cases this
    obtain ⟨h1, h2, _⟩ := vict_all w hn2
    refine vict_uniq w ((h _).mpr h1) fun y hy hne => ?_
    exact lt3_tot (fun z => hne (by have := congrArg Prod.snd z; exact this)) (h2 y ((h y).mp hy))
/-! rules are not alike -/
@[simp] theorem ru_last_first : (Str.ofString "last" = Str.ofString "first") = False := eq_false (by decide)
@[simp] theorem ru_last_old : (Str.ofString "last" = Str.ofString "old") = False := eq_false (by decide)
@[simp] theorem ru_last_young : (Str.ofString "last" = Str.ofString "young") = False := eq_false (by decide)
@[simp] theorem ru_last_far : (Str.ofString "last" = Str.ofString "far") = False := eq_false (by decide)
@[simp] theorem ru_last_often : (Str.ofString "last" = Str.ofString "often") = False := eq_false (by decide)
@[simp] theorem ru_first_last : (Str.ofString "first" = Str.ofString "last") = False := eq_false (by decide)
@[simp] theorem ru_first_old : (Str.ofString "first" = Str.ofString "old") = False := eq_false (by decide)
@[simp] theorem ru_first_young : (Str.ofString "first" = Str.ofString "young") = False := eq_false (by decide)
@[simp] theorem ru_first_far : (Str.ofString "first" = Str.ofString "far") = False := eq_false (by decide)
@[simp] theorem ru_first_often : (Str.ofString "first" = Str.ofString "often") = False := eq_false (by decide)
@[simp] theorem ru_old_last : (Str.ofString "old" = Str.ofString "last") = False := eq_false (by decide)
@[simp] theorem ru_old_first : (Str.ofString "old" = Str.ofString "first") = False := eq_false (by decide)
@[simp] theorem ru_old_young : (Str.ofString "old" = Str.ofString "young") = False := eq_false (by decide)
@[simp] theorem ru_old_far : (Str.ofString "old" = Str.ofString "far") = False := eq_false (by decide)
@[simp] theorem ru_old_often : (Str.ofString "old" = Str.ofString "often") = False := eq_false (by decide)
@[simp] theorem ru_young_last : (Str.ofString "young" = Str.ofString "last") = False := eq_false (by decide)
@[simp] theorem ru_young_first : (Str.ofString "young" = Str.ofString "first") = False := eq_false (by decide)
@[simp] theorem ru_young_old : (Str.ofString "young" = Str.ofString "old") = False := eq_false (by decide)
@[simp] theorem ru_young_far : (Str.ofString "young" = Str.ofString "far") = False := eq_false (by decide)
@[simp] theorem ru_young_often : (Str.ofString "young" = Str.ofString "often") = False := eq_false (by decide)
@[simp] theorem ru_far_last : (Str.ofString "far" = Str.ofString "last") = False := eq_false (by decide)
@[simp] theorem ru_far_first : (Str.ofString "far" = Str.ofString "first") = False := eq_false (by decide)
@[simp] theorem ru_far_old : (Str.ofString "far" = Str.ofString "old") = False := eq_false (by decide)
@[simp] theorem ru_far_young : (Str.ofString "far" = Str.ofString "young") = False := eq_false (by decide)
@[simp] theorem ru_far_often : (Str.ofString "far" = Str.ofString "often") = False := eq_false (by decide)
@[simp] theorem ru_often_last : (Str.ofString "often" = Str.ofString "last") = False := eq_false (by decide)
@[simp] theorem ru_often_first : (Str.ofString "often" = Str.ofString "first") = False := eq_false (by decide)
@[simp] theorem ru_often_old : (Str.ofString "often" = Str.ofString "old") = False := eq_false (by decide)
@[simp] theorem ru_often_young : (Str.ofString "often" = Str.ofString "young") = False := eq_false (by decide)
@[simp] theorem ru_often_far : (Str.ofString "often" = Str.ofString "far") = False := eq_false (by decide)
/-! the worth of a name -/
def nextIx (row : List Int) (k : Nat) (x : Int) : Nat := (((List.range (row.length - k)).map fun i => k + i).find? fun j => decide (row[j]? = some x)).getD row.length
theorem p_next_of {row : List Int} {k : Nat} (x : Int) (hk : k ≤ row.length) (hl : row.length ≤ 24) : P_next_of row k x = .ok (nextIx row k x : Nat) := by
  have hm : (mid (k : Int) && mid (row.length : Int)) = true := by rw [midN (by omega), midN (by omega)]; rfl
  have l := lpx_find (τ := Unit) (body := fun (j : Nat) => B_next_of_1 row x (j : Int)) (fun (j : Nat) => decide (row[j]? = some x)) (fun (j : Nat) => (j : Int)) (xs := (List.range (row.length - k)).map fun i => k + i) (fun j hj => by
    obtain ⟨i, hi, rfl⟩ := List.mem_map.mp hj
    have hi := List.mem_range.mp hi
    unfold B_next_of_1
    simp only [bd_rt, atI_some (show k + i < row.length by omega), lo_some, eqT_i, List.getElem?_eq_getElem (show k + i < row.length by omega), Option.some.injEq])
  rw [← lpx_mapL (fun (j : Nat) => (j : Int)), List.map_map] at l
  unfold P_next_of nextIx
  simp only [bd_rt, hm, if_true, lo_some]
  rw [rngA k row.length hk]
  rw [show ((fun (j : Nat) => (j : Int)) ∘ fun i => k + i) = fun (i : Nat) => ((k + i : Nat) : Int) from rfl] at l
  rw [l]
  cases h : (List.map (fun i => k + i) (List.range (row.length - k))).find? fun j => decide (row[j]? = some x) <;> simp [h]
def rkW (rule : Str) (row : List Int) (k : Nat) (x : Int) : Int × Int :=
  if rule = "last" then ((lastIx row k x : Nat), 0) else if rule = "first" then (0 - ((lastIx row k x : Nat) : Int), 0)
  else if rule = "far" then (0 - ((nextIx row k x : Nat) : Int), x) else (((row.take k).count x : Nat), (lastIx row k x : Nat))
theorem p_worth (rule : Str) {row : List Int} {k : Nat} {x c : Int} {came : List (Int × Int)} (hk : k ≤ row.length) (hl : row.length ≤ 24) (hx : x ∈ row.take k) (hc : dGet came x = some c) :
    P_worth rule row k x came = .ok (if rule = "old" then (c, 0) else if rule = "young" then (0 - c, 0) else rkW rule row k x) := by
  have l := p_last_of row k x hk hl hx
  have n := p_next_of x hk hl
  have ct : cut row none (some (k : Int)) = row.take k := cut_0 row k
  have cn : cnt (row.take k) x = ((row.take k).count x : Nat) := cnt_eq _ _
  unfold P_worth rkW
  simp only [bd_rt, bd_bd, lo_some, eqT_s]
  by_cases h1 : rule = "last"
  · subst h1
    simp [l]
  by_cases h2 : rule = "first"
  · subst h2
    simp [l]
  by_cases h3 : rule = "old"
  · subst h3
    simp [hc]
  by_cases h4 : rule = "young"
  · subst h4
    simp [hc]
  by_cases h5 : rule = "far"
  · subst h5
    simp [n]
  simp [h1, h2, h3, h4, h5, l, ct, cn]
theorem p_victim (rule : Str) {row : List Int} {k : Nat} {came : List (Int × Int)} (w : Int → Int × Int) (hne : came ≠ []) (hlen : came.length ≤ 1000) (hw : ∀ x ∈ came.map (·.1), P_worth rule row k x came = .ok (w x)) :
    P_victim rule row k came = .ok (vict w (came.map (·.1))) := by
  have h1 := cmpG_map (τ := Unit) (f := fun x => bd (rt true) fun b => if b then bd (bd (up (P_worth rule row k x came)) fun a => rt (a, x)) fun y => rt (some y) else rt none) (fun x => (w x, x)) (xs := came.map (·.1)) (by simp; omega) (fun x hx => by simp [hw x hx])
  have h2 := (vict_all w (xs := came.map (·.1)) (by simpa using hne)).2.2
  unfold P_victim
  simp only [bd_rt, bd_bd, lo_some, if_true] at h1 ⊢
  rw [h1]
  simp only [bd_rt, h2, lo_some]
  rfl
end G8
namespace G8
open PySem L2
open Enc (enc dec)
/-! a room, by any choice of what goes -/
def stepR (g : List Int → Int) (room : Nat) (x : Int) (there : List Int) : List Int × (Bool × Option Int) :=
  if x ∈ there then (there, true, none) else if room = 0 then (there, false, none)
  else if there.length = room then ((there.filter fun y => decide (y ≠ g there)) ++ [x], false, some (g there)) else (there ++ [x], false, none)
def roomAt (g : Nat → List Int → Int) (room : Nat) (row : List Int) : Nat → List Int
  | 0 => []
  | k + 1 => match row[k]? with
    | none => roomAt g room row k
    | some x => (stepR (g k) room x (roomAt g room row k)).1
def outAt (g : Nat → List Int → Int) (room : Nat) (row : List Int) (k : Nat) : Bool × Option Int := match row[k]? with
  | none => (false, none)
  | some x => (stepR (g k) room x (roomAt g room row k)).2
def outsP (g : Nat → List Int → Int) (room : Nat) (row : List Int) (n : Nat) : List (Bool × Option Int) := (List.range n).map (outAt g room row)
theorem outsP_succ (g : Nat → List Int → Int) (room : Nat) (row : List Int) (n : Nat) : outsP g room row (n + 1) = outsP g room row n ++ [outAt g room row n] := by
  unfold outsP
  rw [List.range_succ, List.map_append]
  rfl
theorem filter_out_len {x : Int} : ∀ {l : List Int}, l.Nodup → x ∈ l → (l.filter fun y => decide (y ≠ x)).length + 1 = l.length
  | [], _, h => by cases h
  | y :: l, hn, h => by
    have hn := List.nodup_cons.mp hn
    by_cases e : y = x
    · subst e
      rw [List.filter_cons_of_neg (by simp), List.filter_eq_self.mpr fun z hz => by simp; exact fun q => hn.1 (q ▸ hz)]
      rfl
    · have hx : x ∈ l := by
        rcases List.mem_cons.mp h with h | h
        · exact absurd h.symm e
        · exact h
      rw [List.filter_cons_of_pos (by simp [e]), List.length_cons, List.length_cons, filter_out_len hn.2 hx]
theorem room_inv {g : Nat → List Int → Int} (hg : ∀ k l, l ≠ [] → g k l ∈ l) (room : Nat) (row : List Int) : ∀ k, k ≤ row.length → (roomAt g room row k).Nodup ∧ (∀ x ∈ roomAt g room row k, x ∈ row.take k) ∧ (roomAt g room row k).length ≤ room
  | 0, _ => ⟨List.nodup_nil, fun x hx => (by cases hx), Nat.zero_le _⟩
  | k + 1, hk => by
    obtain ⟨h1, h2, h3⟩ := room_inv hg room row k (by omega)
    have hkk : k < row.length := by omega
    have ex := List.getElem?_eq_getElem hkk
    have et : row.take (k + 1) = row.take k ++ [row[k]] := List.take_succ_eq_append_getElem hkk
    rw [roomAt, ex]
    generalize row[k] = x at et
    rw [et]
    have h2' : ∀ y ∈ roomAt g room row k, y ∈ row.take k ++ [x] := fun y hy => List.mem_append.mpr (.inl (h2 y hy))
    dsimp only
    generalize roomAt g room row k = l at h1 h2' h3 ⊢
    unfold stepR
    by_cases hx : x ∈ l
    · rw [if_pos hx]
      exact ⟨h1, h2', h3⟩
    rw [if_neg hx]
    by_cases h0 : room = 0
    · rw [if_pos h0]
      exact ⟨h1, h2', h3⟩
    rw [if_neg h0]
    by_cases hf : l.length = room
    · rw [if_pos hf]
      have hm := hg k l (fun z => by rw [z] at hf; exact h0 hf.symm)
      have hl := filter_out_len h1 hm
      refine ⟨?_, fun y hy => ?_, ?_⟩
      · refine List.nodup_append.mpr ⟨h1.sublist List.filter_sublist, by simp, fun a ha b hb e => ?_⟩
        rw [List.mem_singleton.mp hb] at e
        exact hx (e ▸ (List.mem_filter.mp ha).1)
      · rcases List.mem_append.mp hy with hy | hy
        · exact h2' y (List.mem_filter.mp hy).1
        · exact List.mem_append.mpr (.inr hy)
      · rw [List.length_append, List.length_singleton]
        omega
    · rw [if_neg hf]
      refine ⟨?_, fun y hy => ?_, ?_⟩
      · refine List.nodup_append.mpr ⟨h1, by simp, fun a ha b hb e => ?_⟩
        rw [List.mem_singleton.mp hb] at e
        exact hx (e ▸ ha)
      · rcases List.mem_append.mp hy with hy | hy
        · exact h2' y hy
        · exact List.mem_append.mpr (.inr hy)
      · rw [List.length_append, List.length_singleton]
        omega
/-! the program's own -/
def goes (rule : Str) (row : List Int) (k : Nat) (there : List Int) : Int := if rule = "old" then there.headD 0 else if rule = "young" then there.getLastD 0 else vict (rkW rule row k) there
theorem goes_mem (rule : Str) (row : List Int) (k : Nat) (there : List Int) (h : there ≠ []) : goes rule row k there ∈ there := by
  unfold goes
  split
  · cases there with
    | nil => exact absurd rfl h
    | cons x l => exact List.mem_cons_self ..
  · split
    · rw [List.getLastD_eq_getLast?, List.getLast?_eq_some_getLast h]
      exact List.getLast_mem h
    · exact (vict_all _ h).1
structure Cm (came : List (Int × Int)) (there : List Int) (k : Nat) : Prop where
  mp : came.map (·.1) = there
  pw : came.Pairwise fun a b => a.2 < b.2
  lo : ∀ p ∈ came, p.2 < k
theorem dGet_some {came : List (Int × Int)} (x : Int) : (dGet came x).isSome = decide (x ∈ came.map (·.1)) := by
  unfold dGet
  induction came with
  | nil => rfl
  | cons p l ih =>
    rw [List.find?_cons]
    by_cases h : p.1 = x
    · simp [h]
    · have h2 : ¬ x = p.1 := fun z => h z.symm
      simp only [h, decide_false, ih, List.map_cons, List.mem_cons, h2, false_or]
theorem dGet_of : ∀ {came : List (Int × Int)}, (came.map (·.1)).Nodup → ∀ {p : Int × Int}, p ∈ came → dGet came p.1 = some p.2
  | [], _, p, h => by cases h
  | q :: l, hn, p, h => by
    have hn := List.nodup_cons.mp hn
    unfold dGet
    rw [List.find?_cons]
    by_cases e : q.1 = p.1
    · rcases List.mem_cons.mp h with h | h
      · simp [h]
      · exact absurd (show q.1 ∈ l.map (·.1) by rw [e]; exact List.mem_map.mpr ⟨p, h, rfl⟩) hn.1
    · rcases List.mem_cons.mp h with h | h
      · exact absurd (congrArg Prod.fst h.symm) e
      · simp only [e, decide_false]
        exact dGet_of hn.2 h
theorem dDrop_map (g : Int) : ∀ came : List (Int × Int), (dDrop came g).map (·.1) = (came.map (·.1)).filter fun y => decide (y ≠ g)
  | [] => rfl
  | p :: l => by
    have ih := dDrop_map g l
    unfold dDrop at ih ⊢
    by_cases h : p.1 = g
    · rw [List.map_cons, List.filter_cons_of_neg (by simp [h]), List.filter_cons_of_neg (by simp [h]), ih]
    · rw [List.map_cons, List.filter_cons_of_pos (by simp [h]), List.filter_cons_of_pos (by simp [h]), List.map_cons, ih]
theorem dPut_new {came : List (Int × Int)} {x v : Int} (h : x ∉ came.map (·.1)) : dPut came x v = came ++ [(x, v)] := by
  unfold dPut
  rw [if_neg]
  intro z
  obtain ⟨p, hp, e⟩ := List.any_eq_true.mp z
  exact h (List.mem_map.mpr ⟨p, hp, of_decide_eq_true e⟩)
theorem Cm.put {came : List (Int × Int)} {there : List Int} {k : Nat} (h : Cm came there k) (x : Int) : Cm (came ++ [(x, (k : Int))]) (there ++ [x]) (k + 1) := by
  refine ⟨by rw [List.map_append, h.mp]; rfl, ?_, fun p hp => ?_⟩
  · refine List.pairwise_append.mpr ⟨h.pw, List.pairwise_singleton .., fun a ha b hb => ?_⟩
    rw [List.mem_singleton.mp hb]
    exact h.lo a ha
  · rcases List.mem_append.mp hp with hp | hp
    · have := h.lo p hp
      omega
    · rw [List.mem_singleton.mp hp]
      show (k : Int) < _
      omega
theorem Cm.drop {came : List (Int × Int)} {there : List Int} {k : Nat} (h : Cm came there k) (g : Int) : Cm (dDrop came g) (there.filter fun y => decide (y ≠ g)) k :=
  ⟨by rw [dDrop_map, h.mp], h.pw.sublist List.filter_sublist, fun p hp => h.lo p (List.mem_filter.mp hp).1⟩
theorem Cm.up {came : List (Int × Int)} {there : List Int} {k : Nat} (h : Cm came there k) : Cm came there (k + 1) := ⟨h.mp, h.pw, fun p hp => by have := h.lo p hp; omega⟩
theorem p_victim' (rule : Str) {row : List Int} {k : Nat} {came : List (Int × Int)} {there : List Int} (c : Cm came there k) (hk : k ≤ row.length) (hl : row.length ≤ 24) (hn : there.Nodup) (hs : ∀ x ∈ there, x ∈ row.take k) (hne : there ≠ []) (hlen : there.length ≤ 1000) :
    P_victim rule row k came = .ok (goes rule row k there) := by
  have hmp := c.mp
  subst hmp
  have hget : ∀ x ∈ came.map (·.1), ∃ v, dGet came x = some v := fun x hx => by
    have := dGet_some (came := came) x
    rw [decide_eq_true hx] at this
    exact Option.isSome_iff_exists.mp this
  have hne' : came ≠ [] := by simpa using hne
  have v := p_victim rule (row := row) (k := k) (fun x => if rule = "old" then ((dGet came x).getD 0, 0) else if rule = "young" then (0 - (dGet came x).getD 0, 0) else rkW rule row k x) hne' (by simpa using hlen) (fun x hx => by
    obtain ⟨d, hd⟩ := hget x hx
    rw [p_worth rule hk hl (hs x hx) hd, hd]
    rfl)
  rw [v]
  congr 1
  unfold goes
  by_cases h1 : rule = "old"
  · simp only [h1, if_true]
    cases came with
    | nil => exact absurd rfl hne'
    | cons p l =>
      refine vict_uniq _ (List.mem_cons_self ..) fun y hy hyn => ?_
      obtain ⟨q, hq, rfl⟩ := List.mem_map.mp hy
      have e1 := dGet_of hn (List.mem_cons_self (a := p) (l := l))
      have e2 := dGet_of hn hq
      have hlt : p.2 < q.2 := by
        rcases List.mem_cons.mp hq with h | h
        · exact absurd (congrArg Prod.fst h) hyn
        · exact (List.pairwise_cons.mp c.pw).1 q h
      show lt3 (((dGet (p :: l) p.1).getD 0, 0), p.1) (((dGet (p :: l) q.1).getD 0, 0), q.1) = true
      rw [e1, e2]
      unfold lt3
      simp [hlt]
  by_cases h2 : rule = "young"
  · have h3 : ¬ (rule = "old") := h1
    simp only [h1, h2, if_true, if_false]
    subst h2
    simp only [h1, if_false, if_true]
    have sp := List.dropLast_concat_getLast hne'
    generalize came.getLast hne' = p at sp
    generalize came.dropLast = l at sp
    subst sp
    rw [List.map_append, List.map_singleton, List.getLastD_concat]
    refine vict_uniq _ (by simp) fun y hy hyn => ?_
    rw [← List.map_singleton (f := fun (p : Int × Int) => p.1), ← List.map_append] at hy
    obtain ⟨q, hq, rfl⟩ := List.mem_map.mp hy
    have e1 := dGet_of hn (p := p) (by simp)
    have e2 := dGet_of hn hq
    have hlt : q.2 < p.2 := by
      rcases List.mem_append.mp hq with h | h
      · exact (List.pairwise_append.mp c.pw).2.2 q h p (List.mem_singleton.mpr rfl)
      · exact absurd (congrArg Prod.fst (List.mem_singleton.mp h)) hyn
    rw [e1, e2]
    unfold lt3
    simp
    omega
  · simp only [h1, h2, if_false]
theorem walk_round (rule : Str) {room : Nat} {row : List Int} {k : Nat} {came : List (Int × Int)} {there : List Int} {found : List (Bool × Option Int)} (hr : room ≤ 12) (c : Cm came there k) (hk : k < row.length) (hl : row.length ≤ 24) (hn : there.Nodup) (hs : ∀ x ∈ there, x ∈ row.take k) (hlen : there.length ≤ room) (hf : found.length < 1000) :
    ∃ came', B_walk_1 row (room : Int) rule (k : Int) (came, found) = rt (came', found ++ [(stepR (goes rule row k) room row[k] there).2]) ∧ Cm came' (stepR (goes rule row k) room row[k] there).1 (k + 1) := by
  have e1 : atI row (k : Int) = some row[k] := atI_some hk
  have hsome : (dGet came row[k]).isSome = decide (row[k] ∈ there) := by rw [dGet_some, c.mp]
  have hcl : came.length = there.length := by rw [← c.mp]; simp
  have ap : ∀ y, appT found y = some (found ++ [y]) := fun y => appT_ok (by omega)
  unfold B_walk_1 stepR
  generalize row[k] = x at e1 hsome
  by_cases hx : x ∈ there
  · rw [if_pos hx]
    refine ⟨came, ?_, c.up⟩
    simp [e1, hsome, hx, ap]
  rw [if_neg hx]
  by_cases h0 : room = 0
  · rw [if_pos h0]
    refine ⟨came, ?_, c.up⟩
    simp [e1, hsome, hx, ap, h0]
  rw [if_neg h0]
  have h0' : 0 < room := by omega
  by_cases hfu : there.length = room
  · rw [if_pos hfu]
    have hne : there ≠ [] := fun z => by rw [z] at hfu; exact h0 hfu.symm
    have v := p_victim' rule c (Nat.le_of_lt hk) hl hn hs hne (by omega)
    have gm := goes_mem rule row k there hne
    have hg : (dGet came (goes rule row k there)).isSome = true := by rw [dGet_some, c.mp]; exact decide_eq_true gm
    obtain ⟨d, hd⟩ := Option.isSome_iff_exists.mp hg
    have c' := c.drop (goes rule row k there)
    have hx' : x ∉ (dDrop came (goes rule row k there)).map (·.1) := by
      rw [c'.mp]
      exact fun z => hx (List.mem_filter.mp z).1
    have dl : (dDrop came (goes rule row k there)).length < 1000000 := by
      have := List.length_filter_le (fun (p : Int × Int) => decide (p.1 ≠ goes rule row k there)) came
      unfold dDrop
      omega
    refine ⟨_, ?_, c'.put x⟩
    simp [e1, hsome, hx, ap, h0', hcl, hfu, v, hd, dl, dPut_new hx']
  · rw [if_neg hfu]
    refine ⟨_, ?_, c.put x⟩
    have hx' : x ∉ came.map (·.1) := by rw [c.mp]; exact hx
    have dl : there.length < 1000000 := by omega
    have hfu' : ¬ ((there.length : Int) = room) := by omega
    have := dPut_new (v := (k : Int)) hx'
    simp [e1, hsome, hx, ap, h0', hcl, hfu', hfu, dl, this]
theorem p_walk (rule : Str) {room : Nat} {row : List Int} (hr : room ≤ 12) (hl : row.length ≤ 24) : P_walk rule room row = .ok (outsP (goes rule row) room row row.length, srt (roomAt (goes rule row) room row row.length)) := by
  have key : ∀ (m n : Nat) (came : List (Int × Int)), n + m = row.length → Cm came (roomAt (goes rule row) room row n) n →
      ∃ came', lp (fun (i : Nat) => B_walk_1 row (room : Int) rule (i : Int)) ((List.range m).map fun i => n + i) (came, outsP (goes rule row) room row n) = rt (came', outsP (goes rule row) room row row.length) ∧ Cm came' (roomAt (goes rule row) room row row.length) row.length := by
    intro m
    induction m with
    | zero =>
      intro n came h c
      rw [Nat.add_zero] at h
      subst h
      exact ⟨came, rfl, c⟩
    | succ m ih =>
      intro n came h c
      have hn : n < row.length := by omega
      obtain ⟨i1, i2, i3⟩ := room_inv (g := goes rule row) (fun k l hl => goes_mem rule row k l hl) room row n (by omega)
      obtain ⟨c1, r1, r2⟩ := walk_round rule hr c hn hl i1 i2 i3 (found := outsP (goes rule row) room row n) (by simp [outsP]; omega)
      have e1 : roomAt (goes rule row) room row (n + 1) = (stepR (goes rule row n) room row[n] (roomAt (goes rule row) room row n)).1 := by rw [roomAt, List.getElem?_eq_getElem hn]
      have e2 : outAt (goes rule row) room row n = (stepR (goes rule row n) room row[n] (roomAt (goes rule row) room row n)).2 := by rw [outAt, List.getElem?_eq_getElem hn]
      rw [← e1] at r2
      rw [← e2, ← outsP_succ] at r1
      obtain ⟨c2, r3, r4⟩ := ih (n + 1) c1 (by omega) r2
      refine ⟨c2, ?_, r4⟩
      rw [List.range_succ_eq_map, List.map_cons, List.map_map, lp]
      have em : (List.range m).map ((fun i => n + i) ∘ Nat.succ) = (List.range m).map fun i => n + 1 + i := List.map_congr_left fun i _ => by simp; omega
      rw [em, Nat.add_zero, r1, bd_rt, r3]
  obtain ⟨c, k1, k2⟩ := key row.length 0 [] (by omega) ⟨rfl, List.Pairwise.nil, fun p hp => by cases hp⟩
  rw [← lp_mapL (fun (i : Nat) => (i : Int)), List.map_map] at k1
  have er : (List.range row.length).map ((fun (i : Nat) => (i : Int)) ∘ fun i => 0 + i) = rng 0 (row.length : Int) := by
    rw [rng0]
    exact List.map_congr_left fun i _ => by simp
  rw [er] at k1
  have hm : mid (row.length : Int) = true := midN (by omega)
  have i3 := (room_inv (g := goes rule row) (fun k l hl => goes_mem rule row k l hl) room row row.length (Nat.le_refl _)).2.2
  have hc : c.length ≤ 1000 := by
    have : c.length = (c.map (·.1)).length := by simp
    rw [this, k2.mp]
    omega
  unfold P_walk
  simp only [bd_rt, bd_bd, hm, if_true, lo_some, List.length_nil, Nat.zero_le]
  rw [show (([] : List (Int × Int)), outsP (goes rule row) room row 0) = (([] : List (Int × Int)), ([] : List (Bool × Option Int))) from rfl] at k1
  rw [k1]
  simp only [bd_rt, hc, if_true, lo_some, k2.mp]
  rfl
theorem p_run {rule : Str} {room : Nat} {row : List Int} (h : okRow row) (hr : room ≤ 12) (hu : P_look_rule rule = .ok ()) : P_run rule room row = .ok ((outsP (goes rule row) room row row.length).map (·.1)) := by
  have r1 := p_look_room_ok (n := room) ⟨by omega, by omega⟩
  have c := cmpG_map (τ := Unit) (f := fun (x : Bool × Option Int) => rt (some x.1)) (fun x => x.1) (xs := outsP (goes rule row) room row row.length) (by have := h.1; simp [outsP]; omega) fun x _ => rfl
  unfold P_run
  simp only [bd_rt, bd_up, bd_bd, hu, r1, p_look_row_ok h, p_walk rule hr h.1, if_true, c]
  rfl
theorem p_kept {rule : Str} {room : Nat} {row : List Int} (h : okRow row) (hr : room ≤ 12) (hu : P_look_rule rule = .ok ()) : P_kept rule room row = .ok (srt (roomAt (goes rule row) room row row.length)) := by
  have r1 := p_look_room_ok (n := room) ⟨by omega, by omega⟩
  unfold P_kept
  simp only [bd_rt, bd_up, bd_bd, hu, r1, p_look_row_ok h, p_walk rule hr h.1]
  rfl
theorem p_gone {rule : Str} {room : Nat} {row : List Int} (h : okRow row) (hr : room ≤ 12) (hu : P_look_rule rule = .ok ()) : P_gone rule room row = .ok ((outsP (goes rule row) room row row.length).map (·.2)) := by
  have r1 := p_look_room_ok (n := room) ⟨by omega, by omega⟩
  have c := cmpG_map (τ := Unit) (f := fun (x : Bool × Option Int) => rt (some x.2)) (fun x => x.2) (xs := outsP (goes rule row) room row row.length) (by have := h.1; simp [outsP]; omega) fun x _ => rfl
  unfold P_gone
  simp only [bd_rt, bd_up, bd_bd, hu, r1, p_look_row_ok h, p_walk rule hr h.1, if_true, c]
  rfl
theorem p_misses {rule : Str} {room : Nat} {row : List Int} (h : okRow row) (hr : room ≤ 12) (hu : P_look_rule rule = .ok ()) : P_misses rule room row = .ok ((((outsP (goes rule row) room row row.length).map (·.1)).count false : Nat) : Int) := by
  unfold P_misses
  simp only [bd_rt, bd_up, bd_bd, p_run h hr hu, cnt_eq, lo_some]
  rfl
end G8
namespace G8
open PySem L2
open Enc (enc dec)
/-! stacks: a room keeps the first names of the stack -/
def cst (lt : Int → Int → Bool) (s : List Int × Option Int) (x : Int) : List Int × Option Int := match s.2 with
  | none => (s.1, some x)
  | some d => if lt x d then (s.1 ++ [d], some x) else (s.1 ++ [x], some d)
theorem mv_cst (lt : Int → Int → Bool) (name : Int) : ∀ (xs found : List Int) (c : Option Int), mv lt name xs found c = (xs.takeWhile fun x => decide (x ≠ name)).foldl (cst lt) (found, c)
  | [], found, c => rfl
  | x :: xs, found, c => by
    by_cases h : x = name
    · simp [mv, h]
    · rw [List.takeWhile_cons_of_pos (by simp [h]), List.foldl_cons]
      cases c with
      | none =>
        have := mv_cst lt name xs found (some x)
        simp only [mv, if_neg h, cst]
        exact this
      | some d =>
        simp only [mv, if_neg h]
        rw [show cst lt (found, some d) x = if lt x d then (found ++ [d], some x) else (found ++ [x], some d) from rfl]
        by_cases hl : lt x d = true
        · rw [if_pos hl, if_pos hl]
          exact mv_cst lt name xs _ _
        · rw [if_neg hl, if_neg hl]
          exact mv_cst lt name xs _ _
theorem cst_pre (lt : Int → Int → Bool) : ∀ (q : List Int) (s : List Int × Option Int), ∃ t, (q.foldl (cst lt) s).1 = s.1 ++ t
  | [], s => ⟨[], by simp⟩
  | x :: q, s => by
    rw [List.foldl_cons]
    obtain ⟨t, h⟩ := cst_pre lt q (cst lt s x)
    have h2 : ∃ u, (cst lt s x).1 = s.1 ++ u := by
      unfold cst
      cases s.2 with
      | none => exact ⟨[], by simp⟩
      | some d =>
        dsimp only
        by_cases hl : lt x d = true
        · rw [if_pos hl]
          exact ⟨_, rfl⟩
        · rw [if_neg hl]
          exact ⟨_, rfl⟩
    obtain ⟨u, h2⟩ := h2
    exact ⟨u ++ t, by rw [h, h2, List.append_assoc]⟩
theorem cst_perm (lt : Int → Int → Bool) : ∀ (q : List Int) (s : List Int × Option Int), ((q.foldl (cst lt) s).1 ++ (q.foldl (cst lt) s).2.toList).Perm (s.1 ++ s.2.toList ++ q)
  | [], s => by simp
  | x :: q, s => by
    rw [List.foldl_cons]
    refine (cst_perm lt q (cst lt s x)).trans ?_
    have e : s.1 ++ s.2.toList ++ x :: q = (s.1 ++ s.2.toList ++ [x]) ++ q := by simp
    rw [e]
    refine List.Perm.append_right q ?_
    unfold cst
    obtain ⟨f, c⟩ := s
    cases c with
    | none => simp
    | some d =>
      dsimp only
      by_cases hl : lt x d = true
      · rw [if_pos hl]
        simp
      · rw [if_neg hl]
        simp only [Option.toList_some, List.append_assoc]
        exact List.Perm.append_left f (List.Perm.swap ..)
theorem cst_min (lt : Int → Int → Bool) (tr : ∀ a b c, lt a b = true → lt b c = true → lt a c = true) (F : List Int) (p : List Int) : p ≠ [] → (∀ a ∈ p, ∀ b ∈ p, a ≠ b → lt a b = true ∨ lt b a = true) → ∃ m, (p.foldl (cst lt) (F, none)).2 = some m ∧ m ∈ p ∧ ∀ y ∈ p, y ≠ m → lt m y = true := by
  induction p using snocInd with
  | h0 => exact fun h => absurd rfl h
  | h1 xs x ih =>
    intro _ tot
    rw [List.foldl_append, List.foldl_cons, List.foldl_nil]
    by_cases hx : xs = []
    · subst hx
      exact ⟨x, rfl, by simp, fun y hy hn => absurd (List.mem_singleton.mp hy) hn⟩
    · obtain ⟨m, h1, h2, h3⟩ := ih hx fun a ha b hb => tot a (List.mem_append.mpr (.inl ha)) b (List.mem_append.mpr (.inl hb))
      have ec : cst lt (xs.foldl (cst lt) (F, none)) x = if lt x m then ((xs.foldl (cst lt) (F, none)).1 ++ [m], some x) else ((xs.foldl (cst lt) (F, none)).1 ++ [x], some m) := by
        generalize xs.foldl (cst lt) (F, none) = z at h1
        obtain ⟨z1, z2⟩ := z
        dsimp only at h1
        rw [h1]
        rfl
      rw [ec]
      by_cases hl : lt x m = true
      · rw [if_pos hl]
        refine ⟨x, rfl, by simp, fun y hy hn => ?_⟩
        rcases List.mem_append.mp hy with hy | hy
        · by_cases e : y = m
          · rw [e]; exact hl
          · exact tr _ _ _ hl (h3 y hy e)
        · exact absurd (List.mem_singleton.mp hy) hn
      · rw [if_neg hl]
        refine ⟨m, rfl, List.mem_append.mpr (.inl h2), fun y hy hn => ?_⟩
        rcases List.mem_append.mp hy with hy | hy
        · exact h3 y hy hn
        · have e := List.mem_singleton.mp hy
          subst e
          rcases tot m (List.mem_append.mpr (.inl h2)) y (by simp) (fun z => hn z.symm) with h | h
          · exact h
          · exact absurd h hl
theorem tw_take (name : Int) : ∀ (S : List Int) (n : Nat), name ∉ S.take n → n ≤ S.length → S.take n = (S.takeWhile fun x => decide (x ≠ name)).take n ∧ n ≤ (S.takeWhile fun x => decide (x ≠ name)).length
  | [], n, _, h => by
    have : n = 0 := by simpa using h
    subst this
    simp
  | x :: S, 0, _, _ => by simp
  | x :: S, n + 1, h, hl => by
    have hx : ¬ x = name := fun z => h (by rw [z]; simp)
    obtain ⟨h1, h2⟩ := tw_take name S n (fun z => h (by rw [List.take_succ_cons]; exact List.mem_cons_of_mem _ z)) (by simpa using hl)
    rw [List.takeWhile_cons_of_pos (by simp [hx]), List.take_succ_cons, List.take_succ_cons, ← h1, List.length_cons]
    exact ⟨rfl, by omega⟩
theorem tw_split (name : Int) : ∀ (S : List Int), name ∈ S → ∃ r, S = (S.takeWhile fun x => decide (x ≠ name)) ++ name :: r
  | [], h => by cases h
  | x :: S, h => by
    by_cases hx : x = name
    · subst hx
      exact ⟨S, by simp⟩
    · rcases List.mem_cons.mp h with h | h
      · exact absurd h.symm hx
      · obtain ⟨r, e⟩ := tw_split name S h
        refine ⟨r, ?_⟩
        rw [List.takeWhile_cons_of_pos (by simp [hx]), List.cons_append, ← e]
theorem tw_self (name : Int) (S : List Int) (h : name ∉ S) : (S.takeWhile fun x => decide (x ≠ name)) = S := by
  induction S with
  | nil => rfl
  | cons x S ih =>
    rw [List.takeWhile_cons_of_pos (by simp; exact fun z => h (z ▸ List.mem_cons_self ..)), ih fun z => h (List.mem_cons_of_mem _ z)]
theorem tw_not (name : Int) (S : List Int) : name ∉ S.takeWhile fun x => decide (x ≠ name) := by
  induction S with
  | nil => simp
  | cons x S ih =>
    by_cases h : x = name
    · rw [List.takeWhile_cons_of_neg (by simp [h])]
      simp
    · rw [List.takeWhile_cons_of_pos (by simp [h])]
      exact fun z => by
        rcases List.mem_cons.mp z with q | q
        · exact h q.symm
        · exact ih q
theorem moveP_f (lt : Int → Int → Bool) (name : Int) (S : List Int) : ∃ f, f.Perm (name :: S.takeWhile fun x => decide (x ≠ name)) ∧ moveP lt name S = f ++ S.drop f.length ∧ f = ((S.takeWhile fun x => decide (x ≠ name)).foldl (cst lt) ([name], none)).1 ++ ((S.takeWhile fun x => decide (x ≠ name)).foldl (cst lt) ([name], none)).2.toList := by
  refine ⟨_, ?_, ?_, rfl⟩
  · have := cst_perm lt (S.takeWhile fun x => decide (x ≠ name)) ([name], none)
    simpa using this
  · unfold moveP
    rw [mv_cst]
theorem moveP_perm_in (lt : Int → Int → Bool) (name : Int) (S : List Int) (h : name ∈ S) : (moveP lt name S).Perm S := by
  obtain ⟨f, h1, h2, _⟩ := moveP_f lt name S
  obtain ⟨r, e⟩ := tw_split name S h
  generalize (S.takeWhile fun x => decide (x ≠ name)) = p at e h1
  have hl : f.length = p.length + 1 := by rw [h1.length_eq]; rfl
  have hd : S.drop f.length = r := by rw [hl, e]; simp [List.drop_append]
  rw [h2, hd, e]
  refine (List.Perm.append_right r h1).trans ?_
  rw [List.cons_append]
  exact List.perm_middle.symm
theorem moveP_perm_out (lt : Int → Int → Bool) (name : Int) (S : List Int) (h : name ∉ S) : (moveP lt name S).Perm (name :: S) := by
  obtain ⟨f, h1, h2, _⟩ := moveP_f lt name S
  rw [tw_self name S h] at h1
  have hl : f.length = S.length + 1 := by rw [h1.length_eq]; rfl
  rw [h2, List.drop_eq_nil_of_le (by omega), List.append_nil]
  exact h1
theorem moveP_in (lt : Int → Int → Bool) (name : Int) (S : List Int) (n : Nat) (h : name ∈ S.take n) (y : Int) : y ∈ (moveP lt name S).take n ↔ y ∈ S.take n := by
  obtain ⟨f, h1, h2, _⟩ := moveP_f lt name S
  have hS : name ∈ S := List.mem_of_mem_take h
  obtain ⟨r, e⟩ := tw_split name S hS
  have hnp := tw_not name S
  generalize (S.takeWhile fun x => decide (x ≠ name)) = p at e h1 hnp
  have hl : f.length = p.length + 1 := by rw [h1.length_eq]; rfl
  have hd : S.drop f.length = r := by rw [hl, e]; simp [List.drop_append]
  have hn : p.length + 1 ≤ n := by
    refine Classical.byContradiction fun z => ?_
    rw [e, List.take_append_of_le_length (by omega)] at h
    exact hnp (List.mem_of_mem_take h)
  have e1 : (moveP lt name S).take n = f ++ r.take (n - (p.length + 1)) := by
    rw [h2, hd, List.take_append, List.take_of_length_le (by omega), hl]
  have e2 : S.take n = p ++ name :: r.take (n - (p.length + 1)) := by
    rw [e, List.take_append, List.take_of_length_le (by omega), show n - p.length = (n - (p.length + 1)) + 1 by omega, List.take_succ_cons]
  rw [e1, e2]
  simp only [List.mem_append, List.mem_cons, h1.mem_iff]
  constructor
  · rintro ((a | a) | a)
    · exact .inr (.inl a)
    · exact .inl a
    · exact .inr (.inr a)
  · rintro (a | a | a)
    · exact .inl (.inr a)
    · exact .inl (.inl a)
    · exact .inr a
theorem moveP_take (lt : Int → Int → Bool) (tr : ∀ a b c, lt a b = true → lt b c = true → lt a c = true) (name : Int) (S : List Int) (hS : S.Nodup) (tot : ∀ a ∈ S, ∀ b ∈ S, a ≠ b → lt a b = true ∨ lt b a = true) (n : Nat) (hx : name ∉ S.take n) (h1 : 0 < n) (hl : n ≤ S.length) :
    ∃ m, m ∈ S.take n ∧ (∀ y ∈ S.take n, y ≠ m → lt m y = true) ∧ ∀ y, y ∈ (moveP lt name S).take n ↔ y = name ∨ (y ∈ S.take n ∧ y ≠ m) := by
  obtain ⟨f, _, h2, h3⟩ := moveP_f lt name S
  obtain ⟨e1, e2⟩ := tw_take name S n hx hl
  generalize (S.takeWhile fun x => decide (x ≠ name)) = p at h3 e1 e2
  have hne : S.take n ≠ [] := fun z => by
    have := congrArg List.length z
    simp at this
    rcases this with h | h
    · omega
    · subst h; simp at hl; omega
  obtain ⟨m, a1, a2, a3⟩ := cst_min lt tr [name] (S.take n) hne fun a ha b hb => tot a (List.mem_of_mem_take ha) b (List.mem_of_mem_take hb)
  refine ⟨m, a2, a3, fun y => ?_⟩
  have pm := cst_perm lt (S.take n) ([name], none)
  rw [a1] at pm
  have hp : p = S.take n ++ p.drop n := by rw [e1, List.take_append_drop]
  obtain ⟨t, ht⟩ := cst_pre lt (p.drop n) ((S.take n).foldl (cst lt) ([name], none))
  rw [← List.foldl_append, ← hp] at ht
  generalize (S.take n).foldl (cst lt) ([name], none) = r at pm ht
  have lr : r.1.length = n := by
    have := pm.length_eq
    simp at this
    omega
  have em : (moveP lt name S).take n = r.1 := by
    rw [h2, h3, ht, List.append_assoc, List.append_assoc, List.take_append_of_le_length (by omega), List.take_of_length_le (by omega)]
  rw [em]
  have nd : (r.1 ++ [m]).Nodup := by
    refine (pm.nodup_iff).mpr ?_
    simp only [Option.toList_none, List.append_nil, List.singleton_append]
    exact List.nodup_cons.mpr ⟨hx, hS.sublist (List.take_sublist ..)⟩
  have hm : m ∉ r.1 := fun z => (List.nodup_append.mp nd).2.2 m z m (by simp) rfl
  have mi := pm.mem_iff (a := y)
  simp only [Option.toList_some, Option.toList_none, List.append_nil, List.singleton_append, List.mem_append, List.mem_singleton, List.mem_cons, List.not_mem_nil, or_false] at mi
  constructor
  · intro hy
    have hne : y ≠ m := fun z => hm (z ▸ hy)
    rcases mi.mp (.inl hy) with h | h
    · exact .inl h
    · exact .inr ⟨h, hne⟩
  · rintro (h | ⟨h, k⟩)
    · rcases mi.mpr (.inl h) with q | q
      · exact q
      · rw [← q, h] at a2
        exact absurd a2 hx
    · rcases mi.mpr (.inr h) with q | q
      · exact q
      · exact absurd q k
theorem lt2_eq (p q : Int × Int) : lt2 p q = decide (p.1 < q.1 ∨ (p.1 = q.1 ∧ p.2 < q.2)) := by
  unfold lt2
  rw [HT.lexLt_cons, HT.lexLt_cons, HT.lexLt_nil_nil]
  by_cases h : p.1 = q.1
  · rw [if_pos h]
    by_cases h2 : p.2 = q.2
    · rw [if_pos h2]
      symm
      rw [decide_eq_false_iff_not]
      omega
    · rw [if_neg h2, decide_eq_decide]
      omega
  · rw [if_neg h, decide_eq_decide]
    omega
theorem lt2_tr (rk : Int → Int × Int) (a b c : Int) (h : lt2 (rk a) (rk b) = true) (k : lt2 (rk b) (rk c) = true) : lt2 (rk a) (rk c) = true := by
  rw [lt2_eq, decide_eq_true_eq] at h k ⊢
  omega
theorem lt2_tot {p q : Int × Int} (h : p ≠ q) : lt2 p q = true ∨ lt2 q p = true := by
  obtain ⟨a, b⟩ := p
  obtain ⟨c, d⟩ := q
  rw [lt2_eq, lt2_eq, decide_eq_true_eq, decide_eq_true_eq]
  simp only [ne_eq, Prod.mk.injEq, not_and] at h
  dsimp only
  omega
theorem lt3_of {p q : Int × Int} {a b : Int} (h : lt2 p q = true) : lt3 (p, a) (q, b) = true := by
  rw [lt2_eq, decide_eq_true_eq] at h
  unfold lt3
  rw [decide_eq_true_eq]
  dsimp only
  omega
abbrev ltR (rk : Nat → Int → Int × Int) : Nat → Int → Int → Bool := fun k a b => lt2 (rk k a) (rk k b)
theorem stack_room {rk : Nat → Int → Int × Int} {row : List Int} (inj : ∀ k, k ≤ row.length → ∀ a ∈ row.take k, ∀ b ∈ row.take k, a ≠ b → rk k a ≠ rk k b) {g : Nat → List Int → Int} (gm : ∀ k l, l ≠ [] → g k l ∈ l)
    (hg : ∀ room k, k < row.length → roomAt g room row k ≠ [] → g k (roomAt g room row k) = vict (rk k) (roomAt g room row k)) : ∀ k, k ≤ row.length → (stackAt (ltR rk) row k).Nodup ∧ (∀ y, y ∈ stackAt (ltR rk) row k ↔ y ∈ row.take k) ∧ ∀ room y, y ∈ roomAt g room row k ↔ y ∈ (stackAt (ltR rk) row k).take room
  | 0, _ => ⟨List.nodup_nil, fun y => by simp [stackAt], fun room y => by simp [stackAt, roomAt]⟩
  | k + 1, hk => by
    obtain ⟨i1, i2, i3⟩ := stack_room inj gm hg k (by omega)
    have hkk : k < row.length := by omega
    have ex := List.getElem?_eq_getElem hkk
    have et : row.take (k + 1) = row.take k ++ [row[k]] := List.take_succ_eq_append_getElem hkk
    have inj' := inj k (by omega)
    have hg' := fun room => hg room k hkk
    have ri := fun room => room_inv gm room row k (by omega)
    have es : stackAt (ltR rk) row (k + 1) = moveP (fun a b => lt2 (rk k a) (rk k b)) row[k] (stackAt (ltR rk) row k) := by rw [stackAt, ex]
    have er : ∀ room, roomAt g room row (k + 1) = (stepR (g k) room row[k] (roomAt g room row k)).1 := fun room => by rw [roomAt, ex]
    rw [es]
    generalize row[k] = x at et es er
    generalize hS : stackAt (ltR rk) row k = S at i1 i2 i3
    have tot : ∀ a ∈ S, ∀ b ∈ S, a ≠ b → lt2 (rk k a) (rk k b) = true ∨ lt2 (rk k b) (rk k a) = true := fun a ha b hb h => lt2_tot (inj' a ((i2 a).mp ha) b ((i2 b).mp hb) h)
    refine ⟨?_, fun y => ?_, fun room y => ?_⟩
    · by_cases hx : x ∈ S
      · exact (moveP_perm_in _ x S hx).nodup_iff.mpr i1
      · exact (moveP_perm_out _ x S hx).nodup_iff.mpr (List.nodup_cons.mpr ⟨hx, i1⟩)
    · rw [et, List.mem_append, List.mem_singleton, ← i2 y]
      by_cases hx : x ∈ S
      · rw [(moveP_perm_in _ x S hx).mem_iff]
        constructor
        · exact .inl
        · rintro (h | h)
          · exact h
          · rw [h]; exact hx
      · rw [(moveP_perm_out _ x S hx).mem_iff, List.mem_cons]
        exact Or.comm
    · rw [er room]
      have i3 := i3 room
      have hg' := hg' room
      have ri := ri room
      generalize roomAt g room row k = l at i3 hg' ri
      have pl : l.Perm (S.take room) := (List.perm_ext_iff_of_nodup ri.1 (i1.sublist (List.take_sublist ..))).mpr i3
      have ll : l.length = min room S.length := by rw [pl.length_eq, List.length_take]
      unfold stepR
      by_cases hx : x ∈ l
      · rw [if_pos hx, moveP_in _ x S room ((i3 x).mp hx) y]
        exact i3 y
      rw [if_neg hx]
      have hx' : x ∉ S.take room := fun z => hx ((i3 x).mpr z)
      by_cases h0 : room = 0
      · rw [if_pos h0]
        subst h0
        have := i3 y
        simp at this ⊢
        exact this
      rw [if_neg h0]
      by_cases hf : l.length = room
      · rw [if_pos hf]
        obtain ⟨m, m1, m2, m3⟩ := moveP_take _ (lt2_tr (rk k)) x S i1 tot room hx' (by omega) (by omega)
        have hv : g k l = m := by
          rw [hg' (fun z => by rw [z] at hf; exact h0 hf.symm)]
          refine vict_uniq _ ((i3 m).mpr m1) fun y hy hn => lt3_of (m2 y ((i3 y).mp hy) hn)
        rw [m3 y, ← i3 y, hv]
        simp only [List.mem_append, List.mem_filter, List.mem_singleton, decide_eq_true_eq, ne_eq]
        exact Or.comm
      · rw [if_neg hf]
        have hsl : S.length < room := by
          have := ri.2.2
          omega
        have es : S.take room = S := List.take_of_length_le (by omega)
        rw [es] at hx' i3
        have pm := moveP_perm_out (fun a b => lt2 (rk k a) (rk k b)) x S hx'
        rw [List.take_of_length_le (by rw [pm.length_eq, List.length_cons]; omega), pm.mem_iff, List.mem_append, i3 y, List.mem_singleton, List.mem_cons]
        exact Or.comm
/-- what a room finds, by depths -/
theorem outs_depths {rk : Nat → Int → Int × Int} {row : List Int} {g : Nat → List Int → Int} {room : Nat} (hi : ∀ k, k < row.length → ∀ y, y ∈ roomAt g room row k ↔ y ∈ (stackAt (ltR rk) row k).take room) : (outsP g room row row.length).map (·.1) = (depthsP (ltR rk) row row.length).map fun d => !over room d := by
  unfold outsP depthsP
  rw [List.map_map, List.map_map]
  refine List.map_congr_left fun k hk => ?_
  have hk := List.mem_range.mp hk
  have ex := List.getElem?_eq_getElem hk
  show (outAt g room row k).1 = !over room (depthAt (ltR rk) row k)
  have hi := hi k hk row[k]
  unfold outAt depthAt
  rw [ex]
  dsimp only
  rw [mem_take_idx] at hi
  have e : (stepR (g k) room row[k] (roomAt g room row k)).2.1 = decide (row[k] ∈ roomAt g room row k) := by
    unfold stepR
    by_cases h1 : row[k] ∈ roomAt g room row k
    · rw [if_pos h1, decide_eq_true h1]
    · rw [if_neg h1, decide_eq_false h1]
      split
      · rfl
      · split <;> rfl
  rw [e]
  by_cases h1 : row[k] ∈ stackAt (ltR rk) row k
  · rw [if_pos h1]
    unfold over
    by_cases h2 : (stackAt (ltR rk) row k).idxOf row[k] < room
    · rw [decide_eq_true (hi.mpr ⟨h1, h2⟩)]
      simp
      omega
    · rw [decide_eq_false fun z => h2 (hi.mp z).2]
      simp
      omega
  · rw [if_neg h1, decide_eq_false fun z => h1 (hi.mp z).1]
    rfl
/-! the rule "last" -/
theorem lastIx_of {row : List Int} {k : Nat} {x : Int} (h : x ∈ row.take k) : row[lastIx row k x]? = some x := by
  obtain ⟨y, ys, e⟩ := occ_ne h
  have : lastIx row k x ∈ occ row k x := by
    unfold lastIx
    rw [e]
    cases ys with
    | nil => simp
    | cons z zs =>
      rw [List.getLastD_eq_getLast?, List.getLast?_eq_some_getLast (by simp)]
      exact List.getLast_mem (by simp)
  exact (occ_mem.mp this).2
theorem lastIx_inj {row : List Int} {k : Nat} {a b : Int} (ha : a ∈ row.take k) (hb : b ∈ row.take k) (h : lastIx row k a = lastIx row k b) : a = b := by
  have := lastIx_of ha
  rw [h, lastIx_of hb] at this
  exact (Option.some.inj this).symm
theorem goes_last (row : List Int) (k : Nat) (l : List Int) : goes "last" row k l = vict (rkLast row k) l := by
  unfold goes
  rw [if_neg (by decide), if_neg (by decide)]
  refine vict_congr fun x _ => ?_
  unfold rkW rkLast
  rw [if_pos rfl]
theorem inj_last (row : List Int) : ∀ k, k ≤ row.length → ∀ a ∈ row.take k, ∀ b ∈ row.take k, a ≠ b → rkLast row k a ≠ rkLast row k b := fun k _ a ha b hb h e => by
  have := congrArg Prod.fst e
  unfold rkLast at this
  exact h (lastIx_inj ha hb (Int.ofNat.inj this))
theorem room_last (row : List Int) (room : Nat) {k : Nat} (hk : k ≤ row.length) (y : Int) : y ∈ roomAt (goes "last" row) room row k ↔ y ∈ (lru (row.take k)).take room := by
  have := (stack_room (inj_last row) (goes_mem "last" row) (fun room k _ _ => goes_last row k _) k hk).2.2 room y
  rw [stackAt_last row k hk] at this
  exact this
theorem depths_last_eq (row : List Int) : depthsP (ltR (rkLast row)) row row.length = depsL row := by
  unfold depthsP depsL
  refine List.map_congr_left fun k hk => ?_
  have hk := List.mem_range.mp hk
  unfold depthAt depL
  rw [stackAt_last row k (by omega)]
  all_goals (cases row[k]? <;> rfl)
theorem p_run_last {row : List Int} (h : okRow row) {room : Nat} (hr : room ≤ 12) : P_run "last" room row = .ok ((depsL row).map fun d => !over room d) := by
  rw [p_run h hr p_look_rule_last, ← depths_last_eq, ← outs_depths (g := goes "last" row) (room := room) fun k hk y => by
    rw [stackAt_last row k (by omega)]
    exact room_last row room (by omega) y]
end G8
namespace G8
open PySem L2
open Enc (enc dec)
/-! filtered, below -/
theorem idxOf_ne {x y : Int} {l : List Int} (h : ¬ x = y) : (x :: l).idxOf y = l.idxOf y + 1 := by
  rw [List.idxOf_cons, beq_false_of_ne h]
  rfl
theorem fm_congr {α β : Type} {f g : α → Option β} : ∀ {l : List α}, (∀ x ∈ l, f x = g x) → l.filterMap f = l.filterMap g
  | [], _ => rfl
  | x :: l, h => by rw [List.filterMap_cons, List.filterMap_cons, h x (List.mem_cons_self ..), fm_congr fun y hy => h y (List.mem_cons_of_mem _ hy)]
theorem depL_app (row ys : List Int) {k : Nat} (hk : k < row.length) : depL (row ++ ys) k = depL row k := by
  unfold depL
  rw [List.getElem?_append_left hk, List.take_append_of_le_length (by omega)]
theorem depL_mid (A C : List Int) (x : Int) : depL (A ++ x :: C) A.length = dep1 (lru A) x := by
  unfold depL dep1
  rw [List.getElem?_append_right (Nat.le_refl _), Nat.sub_self, List.take_append_of_le_length (Nat.le_refl _), List.take_length]
  simp
theorem row_split {row : List Int} {k : Nat} (hk : k < row.length) : row = row.take k ++ row[k] :: row.drop (k + 1) := by
  have := List.take_append_drop k row
  rw [List.drop_eq_getElem_cons hk] at this
  exact this.symm
theorem depL_at {row : List Int} {k : Nat} (hk : k < row.length) : depL row k = dep1 (lru (row.take k)) row[k] := by
  have e := row_split hk
  have := depL_mid (row.take k) (row.drop (k + 1)) row[k]
  rw [← e, List.length_take, Nat.min_eq_left (by omega)] at this
  exact this
theorem depsL_take (row : List Int) (k : Nat) : (depsL row).take k = depsL (row.take k) := by
  unfold depsL
  rw [← List.map_take, List.take_range, List.length_take]
  refine List.map_congr_left fun i hi => ?_
  have hi := List.mem_range.mp hi
  have := depL_app (row.take k) (row.drop k) (k := i) (by simp; omega)
  rw [List.take_append_drop] at this
  exact this
def filG (n : Nat) : List Int → List Int → List Int
  | _, [] => []
  | pre, x :: xs => (if over n (dep1 (lru pre) x) = true then [x] else []) ++ filG n (pre ++ [x]) xs
theorem filG_app (n : Nat) : ∀ (a b pre : List Int), filG n pre (a ++ b) = filG n pre a ++ filG n (pre ++ a) b
  | [], b, pre => by simp [filG]
  | x :: a, b, pre => by rw [List.cons_append, filG, filG, filG_app n a b (pre ++ [x]), List.append_assoc, List.append_assoc]; rfl
def fil (n : Nat) (row : List Int) : List Int := filG n [] row
theorem fil_snoc (n : Nat) (row : List Int) (x : Int) : fil n (row ++ [x]) = fil n row ++ if over n (dep1 (lru row) x) = true then [x] else [] := by
  unfold fil
  rw [filG_app, List.nil_append, filG, filG, List.append_nil]
theorem fil_len (n : Nat) (row : List Int) : (fil n row).length = (depsL row).countP (over n) := by
  induction row using snocInd with
  | h0 => rfl
  | h1 xs x ih =>
    rw [fil_snoc, depsL_snoc, List.length_append, List.countP_append, ih]
    by_cases h : over n (dep1 (lru xs) x) = true <;> simp [h]
theorem fil_le (n : Nat) (row : List Int) : (fil n row).length ≤ row.length := by
  rw [fil_len, ← depsL_len row]
  exact List.countP_le_length
theorem fil_sub (n : Nat) (row : List Int) : ∀ x ∈ fil n row, x ∈ row := by
  induction row using snocInd with
  | h0 => exact fun x h => by cases h
  | h1 xs x ih =>
    intro y hy
    rw [fil_snoc, List.mem_append] at hy
    rcases hy with hy | hy
    · exact List.mem_append.mpr (.inl (ih y hy))
    · split at hy
      · exact List.mem_append.mpr (.inr hy)
      · cases hy
theorem fil_ok {n : Nat} {row : List Int} (h : okRow row) : okRow (fil n row) := ⟨by have := fil_le n row; have := h.1; omega, fun x hx => h.2 x (fil_sub n row x hx)⟩
theorem fil_fm (n : Nat) (row : List Int) : (List.range row.length).filterMap (fun k => if over n (depL row k) = true then row[k]? else none) = fil n row := by
  induction row using snocInd with
  | h0 => rfl
  | h1 xs x ih =>
    rw [List.length_append, List.length_singleton, List.range_succ, List.filterMap_append, fil_snoc, ← ih]
    congr 1
    · refine fm_congr fun k hk => ?_
      have hk := List.mem_range.mp hk
      rw [depL_app xs [x] hk, List.getElem?_append_left hk]
    · rw [List.filterMap_cons, List.filterMap_nil, depL_mid]
      by_cases h : over n (dep1 (lru xs) x) = true
      · simp [h]
      · simp [h]
theorem fnd_at {row : List Int} {k : Nat} (n : Nat) (hk : k < row.length) : atI ((depsL row).map fun d => !over n d) (k : Int) = some (!over n (depL row k)) := by
  rw [atI_some (by simp [depsL_len]; exact hk)]
  simp [depsL]
theorem p_filtered_ok {row : List Int} (h : okRow row) {n : Nat} (hn : n ≤ 12) : P_filtered n row = .ok (fil n row) := by
  have hm : mid (row.length : Int) = true := midN (by have := h.1; omega)
  unfold P_filtered
  simp only [bd_rt, bd_bd, p_run_last h hn, bd_up, hm, if_true, lo_some]
  rw [cmpG_rng row.length (fun k => if over n (depL row k) = true then row[k]? else none) (by have := h.1; omega) fun k hk => by
    rw [fnd_at n hk, bd_lo, atI_some hk, List.getElem?_eq_getElem hk]
    cases over n (depL row k) <;> simp]
  rw [fil_fm, bd_rt]
  rfl
def blw (n f : Nat) (row : List Int) (k : Nat) : Str := if over n (depL row k) = true then (if over f (match row[k]? with
  | some x => dep1 (lru (fil n (row.take k))) x
  | none => none) = true then "none" else "far") else "near"
theorem lp_app {τ α β : Type} {body : α → List β → T τ (List β)} (g : α → β) : ∀ (xs : List α) (s : List β), s.length + xs.length ≤ 1000 → (∀ x ∈ xs, ∀ s : List β, s.length < 1000 → body x s = rt (s ++ [g x])) → lp body xs s = rt (s ++ xs.map g)
  | [], s, _, _ => by simp [lp]
  | x :: xs, s, h, k => by
    simp at h
    rw [lp, k x (List.mem_cons_self ..) s (by omega), bd_rt, lp_app g xs _ (by simp; omega) fun y hy => k y (List.mem_cons_of_mem _ hy)]
    simp
theorem p_below_ok {row : List Int} (h : okRow row) {n f : Nat} (hn : n ≤ 12) (hf : f ≤ 12) : P_below n f row = .ok ((List.range row.length).map (blw n f row)) := by
  have hl := h.1
  have hm : mid (row.length : Int) = true := midN (by omega)
  have r1 := p_look_room_ok (n := n) ⟨by omega, by omega⟩
  have r2 := p_look_room_ok (n := f) ⟨by omega, by omega⟩
  have fo := fil_ok (n := n) h
  unfold P_below
  simp only [bd_rt, bd_bd, r1, r2, bd_up, p_look_row_ok h, p_run_last h hn, p_filtered_ok h hn, p_run_last fo hf, hm, if_true, lo_some, List.length_nil, Nat.zero_le]
  rw [rng0, lp_mapL, lp_app (blw n f row) _ _ (by simp; omega) fun k hk s hs => by
    have hk := List.mem_range.mp hk
    unfold B_below_1 blw
    simp only [bd_rt, bd_bd, cut_0, cnt_eq, lo_some, fnd_at n hk]
    cases ho : over n (depL row k) with
    | false => simp [appT_ok (xs := s) (y := ("near" : Str)) (by omega)]
    | true =>
      have ec : ((((depsL row).map fun d => !over n d).take k).count false : Nat) = (fil n (row.take k)).length := by
        rw [← List.map_take, depsL_take, fil_len, List.count_eq_countP, List.countP_map]
        refine List.countP_congr fun d _ => ?_
        simp
      rw [ec, List.getElem?_eq_getElem hk]
      have es : fil n row = fil n (row.take k) ++ row[k] :: filG n (row.take k ++ [row[k]]) (row.drop (k + 1)) := by
        have e := row_split hk
        have : filG n [] (row.take k ++ row[k] :: row.drop (k + 1)) = filG n [] (row.take k) ++ row[k] :: filG n (row.take k ++ [row[k]]) (row.drop (k + 1)) := by
          rw [filG_app, List.nil_append, filG]
          rw [depL_at hk] at ho
          rw [if_pos ho]
          rfl
        rw [← e] at this
        exact this
      have hlt : (fil n (row.take k)).length < (fil n row).length := by rw [es]; simp
      rw [fnd_at f hlt]
      have ed : depL (fil n row) (fil n (row.take k)).length = dep1 (lru (fil n (row.take k))) row[k] := by
        rw [es]
        exact depL_mid _ _ _
      rw [ed]
      cases over f (dep1 (lru (fil n (row.take k))) row[k]) with
      | true => simp [appT_ok (xs := s) (y := ("none" : Str)) (by omega)]
      | false => simp [appT_ok (xs := s) (y := ("far" : Str)) (by omega)]]
  rw [bd_rt]
  rfl
/-- what the far room keeps is not far -/
theorem erase_take_sub {s : List Int} (hs : s.Nodup) (x y : Int) (n : Nat) : y ∈ s.take n → y ≠ x → y ∈ (s.erase x).take n := fun h k => by
  rw [mem_take_idx] at h ⊢
  refine ⟨(List.mem_erase_of_ne k).mpr h.1, Nat.lt_of_le_of_lt ?_ h.2⟩
  have := h.1
  clear h hs
  induction s with
  | nil => cases this
  | cons z s ih =>
    by_cases hz : z = x
    · subst hz
      rw [List.erase_cons_head, idxOf_ne (fun q => k q.symm)]
      omega
    · rw [List.erase_cons_tail (by simp [hz])]
      by_cases hy : z = y
      · subst hy
        simp
      · rw [idxOf_ne hy, idxOf_ne hy]
        rcases List.mem_cons.mp this with q | q
        · exact absurd q.symm hy
        · have := ih q
          omega
theorem erase_take_in {s : List Int} (hs : s.Nodup) (x y : Int) (n : Nat) : x ∈ s.take n → y ∈ s.take n → y ≠ x → y ∈ (s.erase x).take (n - 1) := fun hx h k => by
  rw [mem_take_idx] at h hx ⊢
  refine ⟨(List.mem_erase_of_ne k).mpr h.1, ?_⟩
  have hy := h.1
  have hxs := hx.1
  have h1 := h.2
  have h2 := hx.2
  clear h hx
  induction s generalizing n with
  | nil => cases hy
  | cons z s ih =>
    have hn := List.nodup_cons.mp hs
    by_cases hz : z = x
    · subst hz
      rw [List.erase_cons_head]
      rw [idxOf_ne (fun q => k q.symm)] at h1
      omega
    · rw [List.erase_cons_tail (by simp [hz])]
      rw [idxOf_ne hz] at h2
      by_cases hzy : z = y
      · subst hzy
        simp
        omega
      · rw [idxOf_ne hzy] at h1 ⊢
        rcases List.mem_cons.mp hy with q | q
        · exact absurd q.symm hzy
        rcases List.mem_cons.mp hxs with q2 | q2
        · exact absurd q2.symm hz
        have := ih hn.2 (n - 1) q q2 (by omega) (by omega)
        omega
theorem push_take_hit {s : List Int} (hs : s.Nodup) {x : Int} {n : Nat} (hx : x ∈ s.take n) (y : Int) : y ∈ s.take n → y ∈ (push s x).take n := fun hy => by
  unfold push
  have h0 : n ≠ 0 := fun z => by subst z; simp at hx
  obtain ⟨m, rfl⟩ : ∃ m, n = m + 1 := ⟨n - 1, by omega⟩
  rw [List.take_succ_cons]
  by_cases e : y = x
  · rw [e]; exact List.mem_cons_self ..
  · exact List.mem_cons_of_mem _ (erase_take_in hs x y (m + 1) hx hy e)
theorem idx_erase_lt {x y : Int} (hne : y ≠ x) : ∀ (f : Nat) (s : List Int), y ∈ s → x ∈ s → f + 1 ≤ s.idxOf x → (s.erase x).idxOf y < f → s.idxOf y < f
  | _, [], h, _, _, _ => by cases h
  | f, w :: s, hin, hxm, hxi, h2 => by
    by_cases hw : w = x
    · subst hw
      simp at hxi
    · rw [List.erase_cons_tail (by simp [hw])] at h2
      rw [idxOf_ne hw] at hxi
      by_cases hy : w = y
      · subst hy
        simp at h2 ⊢
        omega
      · rw [idxOf_ne hy] at h2 ⊢
        rcases List.mem_cons.mp hin with q | q
        · exact absurd q.symm hy
        rcases List.mem_cons.mp hxm with q2 | q2
        · exact absurd q2.symm hw
        cases f with
        | zero => omega
        | succ f =>
          have := idx_erase_lt hne f s q q2 (by omega) (by omega)
          omega
theorem far_sub (n : Nat) (row : List Int) : ∀ (f : Nat) (y : Int), y ∈ (lru (fil n row)).take f → y ∈ (lru row).take (n + f) := by
  induction row using snocInd with
  | h0 => intro f y h; simp [fil, filG, lru] at h
  | h1 xs x ih =>
    intro f y h
    have hs := (lru_all xs).1
    have hm := (lru_all (fil n xs)).1
    rw [lru_snoc]
    rw [fil_snoc] at h
    by_cases ho : over n (dep1 (lru xs) x) = true
    · rw [if_pos ho, lru_snoc] at h
      unfold push at h ⊢
      cases f with
      | zero => simp at h
      | succ f =>
        rw [List.take_succ_cons] at h
        rw [show n + (f + 1) = (n + f) + 1 by omega, List.take_succ_cons]
        rcases List.mem_cons.mp h with h | h
        · rw [h]; exact List.mem_cons_self ..
        · have hne : y ≠ x := fun z => by
            rw [z] at h
            exact (List.Nodup.not_mem_erase hm) (List.mem_of_mem_take h)
          refine List.mem_cons_of_mem _ ?_
          by_cases hx : x ∈ (lru xs).take (n + (f + 1))
          · have hy : y ∈ (lru (fil n xs)).take (f + 1) := by
              refine Classical.byContradiction fun z => ?_
              rw [mem_take_idx] at h z
              have hin : y ∈ lru (fil n xs) := List.mem_of_mem_erase h.1
              have hi : f + 1 ≤ (lru (fil n xs)).idxOf y := by
                refine Classical.byContradiction fun q => z ⟨hin, by omega⟩
              have hle : (lru (fil n xs)).idxOf y ≤ ((lru (fil n xs)).erase x).idxOf y + 1 := by
                clear ih hi z h hm
                generalize lru (fil n xs) = s at hin
                induction s with
                | nil => cases hin
                | cons w s ih =>
                  by_cases hw : w = x
                  · subst hw
                    rw [List.erase_cons_head, idxOf_ne (fun q => hne q.symm)]
                    omega
                  · rw [List.erase_cons_tail (by simp [hw])]
                    by_cases hy : w = y
                    · subst hy; simp
                    · rw [idxOf_ne hy, idxOf_ne hy]
                      rcases List.mem_cons.mp hin with q | q
                      · exact absurd q.symm hy
                      · have := ih q
                        omega
              omega
            have := erase_take_in hs x y (n + (f + 1)) hx (ih (f + 1) y hy) hne
            exact this
          · have hxf : x ∉ (lru (fil n xs)).take (f + 1) := fun z => hx (ih (f + 1) x z)
            have hy : y ∈ (lru (fil n xs)).take f := by
              by_cases hxm : x ∈ lru (fil n xs)
              · rw [mem_take_idx] at h hxf ⊢
                have hin : y ∈ lru (fil n xs) := List.mem_of_mem_erase h.1
                refine ⟨hin, ?_⟩
                have hxi : f + 1 ≤ (lru (fil n xs)).idxOf x := by
                  refine Classical.byContradiction fun q => hxf ⟨hxm, by omega⟩
                have h2 := h.2
                exact idx_erase_lt hne f _ hin hxm hxi h2
              · rw [List.erase_of_not_mem hxm] at h
                exact h
            exact erase_take_sub hs x y (n + f) (ih f y hy) hne
    · rw [if_neg ho, List.append_nil] at h
      have h1 := ih f y h
      have hx : x ∈ (lru xs).take n := by
        rw [mem_take_idx]
        unfold dep1 at ho
        by_cases hx : x ∈ lru xs
        · rw [if_pos hx] at ho
          simp [over] at ho
          exact ⟨hx, by omega⟩
        · rw [if_neg hx] at ho
          simp [over] at ho
      have hx2 : x ∈ (lru xs).take (n + f) := by
        rw [mem_take_idx] at hx ⊢
        exact ⟨hx.1, by omega⟩
      exact push_take_hit hs hx2 y h1
end G8
namespace K62
open PySem L2 G8
def top (i : Nat) : Stmt := PySem.Challenge.pw_allrooms_k62_whole_near_and_far.main.body.getD i (.Pass ⟨0, 0, 0, 0⟩)
/-! look_name -/
abbrev s_look_name : Stmt := top 9
theorem sc_look_name : FnScope ["name"] ["name"] (defScope s_look_name) := ⟨rfl, rfl, rfl, by decide +kernel, rfl, by decide +kernel, by decide +kernel⟩
/-! look_row -/
abbrev s_look_row : Stmt := top 10
theorem sc_look_row : FnScope ["row", "name"] ["row"] (defScope s_look_row) := ⟨rfl, rfl, rfl, by decide +kernel, rfl, by decide +kernel, by decide +kernel⟩
/-! look_room -/
abbrev s_look_room : Stmt := top 11
theorem sc_look_room : FnScope ["room"] ["room"] (defScope s_look_room) := ⟨rfl, rfl, rfl, by decide +kernel, rfl, by decide +kernel, by decide +kernel⟩
/-! look_rule -/
abbrev s_look_rule : Stmt := top 14
theorem sc_look_rule : FnScope ["rule"] ["rule"] (defScope s_look_rule) := ⟨rfl, rfl, rfl, by decide +kernel, rfl, by decide +kernel, by decide +kernel⟩
/-! next_of -/
abbrev s_next_of : Stmt := top 15
theorem sc_next_of : FnScope ["row", "k", "name", "j"] ["row", "k", "name"] (defScope s_next_of) := ⟨rfl, rfl, rfl, by decide +kernel, rfl, by decide +kernel, by decide +kernel⟩
/-! last_of -/
abbrev s_last_of : Stmt := top 16
theorem sc_last_of : FnScope ["row", "k", "name", "j"] ["row", "k", "name"] (defScope s_last_of) := ⟨rfl, rfl, rfl, by decide +kernel, rfl, by decide +kernel, by decide +kernel⟩
/-! worth -/
abbrev s_worth : Stmt := top 17
theorem sc_worth : FnScope ["rule", "row", "k", "name", "came"] ["rule", "row", "k", "name", "came"] (defScope s_worth) := ⟨rfl, rfl, rfl, by decide +kernel, rfl, by decide +kernel, by decide +kernel⟩
/-! victim -/
abbrev s_victim : Stmt := top 18
theorem sc_victim : FnScope ["rule", "row", "k", "came", "some", "name"] ["rule", "row", "k", "came"] (defScope s_victim) := ⟨rfl, rfl, rfl, by decide +kernel, rfl, by decide +kernel, by decide +kernel⟩
/-! walk -/
abbrev s_walk : Stmt := top 19
theorem sc_walk : FnScope ["rule", "room", "row", "came", "found", "k", "gone", "is_kept"] ["rule", "room", "row"] (defScope s_walk) := ⟨rfl, rfl, rfl, by decide +kernel, rfl, by decide +kernel, by decide +kernel⟩
/-! run -/
abbrev s_run : Stmt := top 20
theorem sc_run : FnScope ["rule", "room", "row", "is_kept", "gone"] ["rule", "room", "row"] (defScope s_run) := ⟨rfl, rfl, rfl, by decide +kernel, rfl, by decide +kernel, by decide +kernel⟩
/-! levels -/
abbrev s_levels : Stmt := top 22
theorem sc_levels : FnScope ["near", "far", "row", "one", "other", "found", "name", "some"] ["near", "far", "row"] (defScope s_levels) := ⟨rfl, rfl, rfl, by decide +kernel, rfl, by decide +kernel, by decide +kernel⟩
/-! filtered -/
abbrev s_filtered : Stmt := top 23
theorem sc_filtered : FnScope ["near", "row", "some", "k"] ["near", "row"] (defScope s_filtered) := ⟨rfl, rfl, rfl, by decide +kernel, rfl, by decide +kernel, by decide +kernel⟩
/-! below -/
abbrev s_below : Stmt := top 24
theorem sc_below : FnScope ["near", "far", "row", "some", "rest", "found", "k", "at"] ["near", "far", "row"] (defScope s_below) := ⟨rfl, rfl, rfl, by decide +kernel, rfl, by decide +kernel, by decide +kernel⟩
/-! _law_cell -/
abbrev s__law_cell : Stmt := top 26
theorem sc__law_cell : FnScope ["script", "k"] ["script", "k"] (defScope s__law_cell) := ⟨rfl, rfl, rfl, by decide +kernel, rfl, by decide +kernel, by decide +kernel⟩
/-! _law_mix -/
abbrev s__law_mix : Stmt := top 27
theorem sc__law_mix : FnScope ["script", "k", "number"] ["script", "k"] (defScope s__law_mix) := ⟨rfl, rfl, rfl, by decide +kernel, rfl, by decide +kernel, by decide +kernel⟩
/-! _law_draw -/
abbrev s__law_draw : Stmt := top 28
theorem sc__law_draw : FnScope ["script", "town", "many"] ["script", "town", "many"] (defScope s__law_draw) := ⟨rfl, rfl, rfl, by decide +kernel, rfl, by decide +kernel, by decide +kernel⟩
/-! _law_row -/
abbrev s__law_row : Stmt := top 29
theorem sc__law_row : FnScope ["script", "town", "most", "kinds", "many", "found", "k", "name"] ["script", "town", "most", "kinds"] (defScope s__law_row) := ⟨rfl, rfl, rfl, by decide +kernel, rfl, by decide +kernel, by decide +kernel⟩
/-! law -/
abbrev s_law : Stmt := top 30
theorem sc_law : FnScope ["script", "town", "row", "near", "far", "found", "one", "other"] ["script"] (defScope s_law) := ⟨rfl, rfl, rfl, by decide +kernel, rfl, by decide +kernel, by decide +kernel⟩
def e_law_1 : M Av :=
    (cmpM eqD (varM 6) (retM (.d (.str "near"))))
theorem e_law_1_ap (ρ : Ev) : e_law_1 ρ =
    (cmpM eqD (varM 6) (retM (.d (.str "near")))) ρ := rfl
def e_law_2 : M Av :=
    (cmpM eqD (varM 6) (retM (.d (.str "near"))))
theorem e_law_2_ap (ρ : Ev) : e_law_2 ρ =
    (cmpM eqD (varM 6) (retM (.d (.str "near")))) ρ := rfl
def b_law_1 : M Fl :=
    (withS 2 (ifM (cmpT gtI (meM (lookD countD) (frzM (callM 3 F_levels (consM (varM 6) (consM (varM 7) (consM (varM 2) (retM [])))))) (consM (retM (.d (.str "none"))) (retM []))) (meM (lookD countD) (varM 5) (consM (retM (.d (.str "none"))) (retM [])))) (retS (dataM (retM (.d (.bool false))))) (retM .nx)))
theorem b_law_1_ap (ρ : Ev) : b_law_1 ρ =
    (withS 2 (ifM (cmpT gtI (meM (lookD countD) (frzM (callM 3 F_levels (consM (varM 6) (consM (varM 7) (consM (varM 2) (retM [])))))) (consM (retM (.d (.str "none"))) (retM []))) (meM (lookD countD) (varM 5) (consM (retM (.d (.str "none"))) (retM [])))) (retS (dataM (retM (.d (.bool false))))) (retM .nx))) ρ := rfl
def f_law : M Fl :=
    (seqM (setM 1 (lstM (retM [])))
    (seqM (setM 2 (callM 4 F__law_row (consM (varM 0) (consM (varM 1) (consM (retM (.d (.int 24))) (consM (retM (.d (.int 14))) (retM [])))))))
    (seqM (setM 3 (callM 3 F__law_draw (consM (varM 0) (consM (varM 1) (consM (retM (.d (.int 13))) (retM []))))))
    (seqM (setM 4 (callM 3 F__law_draw (consM (varM 0) (consM (varM 1) (consM (retM (.d (.int 13))) (retM []))))))
    (seqM (withS 2 (setM 5 (callM 3 F_levels (consM (varM 3) (consM (varM 4) (consM (varM 2) (retM [])))))))
    (seqM (withS 2 (ifM (orM (cmpT neD (meM (lookD countD) (varM 5) (consM (retM (.d (.str "none"))) (retM []))) (meM (lookD countD) (frzM (callM 3 F_levels (consM (varM 4) (consM (varM 3) (consM (varM 2) (retM [])))))) (consM (retM (.d (.str "none"))) (retM [])))) (cmpT inD (retM (.d (.str "far"))) (frzM (callM 3 F_levels (consM (varM 3) (consM (retM (.d (.int 0))) (consM (varM 2) (retM [])))))))) (retS (dataM (retM (.d (.bool false))))) (retM .nx)))
    (seqM (withS 2 (withS 5 (ifM (cmpT neD (frzM (lcM (itM (frzM (callM 3 F_below (consM (varM 3) (consM (varM 4) (consM (varM 2) (retM []))))))) (.one 6) (retM true) e_law_1)) (frzM (lcM (itM (varM 5)) (.one 6) (retM true) e_law_2))) (retS (dataM (retM (.d (.bool false))))) (retM .nx))))
    (seqM (withS 2 (ifM (orM (cmpT neD (frzM (callM 3 F_below (consM (retM (.d (.int 0))) (consM (varM 4) (consM (varM 2) (retM [])))))) (frzM (callM 3 F_levels (consM (retM (.d (.int 0))) (consM (varM 4) (consM (varM 2) (retM []))))))) (cmpT inD (retM (.d (.str "near"))) (frzM (callM 3 F_levels (consM (retM (.d (.int 0))) (consM (varM 4) (consM (varM 2) (retM [])))))))) (retS (dataM (retM (.d (.bool false))))) (retM .nx)))
    (seqM (withS 2 (ifM (cmpT ltI (meM (lookD countD) (frzM (callM 3 F_below (consM (varM 3) (consM (varM 4) (consM (varM 2) (retM [])))))) (consM (retM (.d (.str "none"))) (retM []))) (meM (lookD countD) (frzM (callM 3 F_levels (consM (frzM (biM (two2 fun i j => if j > i then j else i) (consM (varM 3) (consM (varM 4) (retM []))))) (consM (frzM (biM (two2 fun i j => if j < i then j else i) (consM (varM 3) (consM (varM 4) (retM []))))) (consM (varM 2) (retM [])))))) (consM (retM (.d (.str "none"))) (retM [])))) (retS (dataM (retM (.d (.bool false))))) (retM .nx)))
    (seqM (forM (itM (frzM (lstM (consM (tupM (consM (frzM (biM (two2 fun i j => if j < i then j else i) (consM (retM (.d (.int 12))) (consM (frzM (bin2 addD (varM 3) (retM (.d (.int 1))))) (retM []))))) (consM (varM 4) (retM [])))) (consM (tupM (consM (varM 3) (consM (frzM (biM (two2 fun i j => if j < i then j else i) (consM (retM (.d (.int 12))) (consM (frzM (bin2 addD (varM 4) (retM (.d (.int 1))))) (retM []))))) (retM [])))) (retM [])))))) (.tup [6, 7]) b_law_1)
    (retS (dataM (retM (.d (.bool true)))))))))))))))
def F_law : Fn := bodyF 8 f_law
structure Tx (K : Fg) (mg : Str → Option Value) : Prop where
  z_len : mg "len" = none
  z_max : mg "max" = none
  z_min : mg "min" = none
  z_range : mg "range" = none
  z_sorted : mg "sorted" = none
  c_MOST_ASKS : ∃ t, mg "MOST_ASKS" = some (.int 24 t)
  c_MOST_NAME : ∃ t, mg "MOST_NAME" = some (.int 19 t)
  c_MOST_ROOM : ∃ t, mg "MOST_ROOM" = some (.int 12 t)
  g_RULES : mg "RULES" = some (.ref (He.ga K "RULES"))
  c_RULES : ∀ H, SqT (bs K).K H (He.ga K "RULES") (l_RULES.map V.str)
  x_BadRow : ExFact K mg 0
  x_BadRoom : ExFact K mg 1
  x_BadRule : ExFact K mg 2
  g_look_name : mg "look_name" = some (.ref (He.ga K "look_name"))
  g_look_row : mg "look_row" = some (.ref (He.ga K "look_row"))
  g_look_room : mg "look_room" = some (.ref (He.ga K "look_room"))
  g_look_rule : mg "look_rule" = some (.ref (He.ga K "look_rule"))
  g_next_of : mg "next_of" = some (.ref (He.ga K "next_of"))
  g_last_of : mg "last_of" = some (.ref (He.ga K "last_of"))
  g_worth : mg "worth" = some (.ref (He.ga K "worth"))
  g_victim : mg "victim" = some (.ref (He.ga K "victim"))
  g_walk : mg "walk" = some (.ref (He.ga K "walk"))
  g_run : mg "run" = some (.ref (He.ga K "run"))
  g_levels : mg "levels" = some (.ref (He.ga K "levels"))
  g_filtered : mg "filtered" = some (.ref (He.ga K "filtered"))
  g_below : mg "below" = some (.ref (He.ga K "below"))
  g__law_cell : mg "_law_cell" = some (.ref (He.ga K "_law_cell"))
  g__law_mix : mg "_law_mix" = some (.ref (He.ga K "_law_mix"))
  g__law_draw : mg "_law_draw" = some (.ref (He.ga K "_law_draw"))
  g__law_row : mg "_law_row" = some (.ref (He.ga K "_law_row"))
  g_law : mg "law" = some (.ref (He.ga K "law"))
  d_look_name : ∃ fd, FunD K "look_name" "look_name" (defArgs s_look_name) (defBody s_look_name) (defScope s_look_name) [] [] (He.ga K "look_name") fd
  d_look_row : ∃ fd, FunD K "look_row" "look_row" (defArgs s_look_row) (defBody s_look_row) (defScope s_look_row) [] [] (He.ga K "look_row") fd
  d_look_room : ∃ fd, FunD K "look_room" "look_room" (defArgs s_look_room) (defBody s_look_room) (defScope s_look_room) [] [] (He.ga K "look_room") fd
  d_look_rule : ∃ fd, FunD K "look_rule" "look_rule" (defArgs s_look_rule) (defBody s_look_rule) (defScope s_look_rule) [] [] (He.ga K "look_rule") fd
  d_next_of : ∃ fd, FunD K "next_of" "next_of" (defArgs s_next_of) (defBody s_next_of) (defScope s_next_of) [] [] (He.ga K "next_of") fd
  d_last_of : ∃ fd, FunD K "last_of" "last_of" (defArgs s_last_of) (defBody s_last_of) (defScope s_last_of) [] [] (He.ga K "last_of") fd
  d_worth : ∃ fd, FunD K "worth" "worth" (defArgs s_worth) (defBody s_worth) (defScope s_worth) [] [] (He.ga K "worth") fd
  d_victim : ∃ fd, FunD K "victim" "victim" (defArgs s_victim) (defBody s_victim) (defScope s_victim) [] [] (He.ga K "victim") fd
  d_walk : ∃ fd, FunD K "walk" "walk" (defArgs s_walk) (defBody s_walk) (defScope s_walk) [] [] (He.ga K "walk") fd
  d_run : ∃ fd, FunD K "run" "run" (defArgs s_run) (defBody s_run) (defScope s_run) [] [] (He.ga K "run") fd
  d_levels : ∃ fd, FunD K "levels" "levels" (defArgs s_levels) (defBody s_levels) (defScope s_levels) [] [] (He.ga K "levels") fd
  d_filtered : ∃ fd, FunD K "filtered" "filtered" (defArgs s_filtered) (defBody s_filtered) (defScope s_filtered) [] [] (He.ga K "filtered") fd
  d_below : ∃ fd, FunD K "below" "below" (defArgs s_below) (defBody s_below) (defScope s_below) [] [] (He.ga K "below") fd
  d__law_cell : ∃ fd, FunD K "_law_cell" "_law_cell" (defArgs s__law_cell) (defBody s__law_cell) (defScope s__law_cell) [] [] (He.ga K "_law_cell") fd
  d__law_mix : ∃ fd, FunD K "_law_mix" "_law_mix" (defArgs s__law_mix) (defBody s__law_mix) (defScope s__law_mix) [] [] (He.ga K "_law_mix") fd
  d__law_draw : ∃ fd, FunD K "_law_draw" "_law_draw" (defArgs s__law_draw) (defBody s__law_draw) (defScope s__law_draw) [] [] (He.ga K "_law_draw") fd
  d__law_row : ∃ fd, FunD K "_law_row" "_law_row" (defArgs s__law_row) (defBody s__law_row) (defScope s__law_row) [] [] (He.ga K "_law_row") fd
  d_law : ∃ fd, FunD K "law" "law" (defArgs s_law) (defBody s_law) (defScope s_law) [] [] (He.ga K "law") fd
section
variable {P : Program} {w : World} {K : Fg} {mg : Str → Option Value} {base : Heap}
theorem ok_look_name (T : Tx K mg) : ∃ fd, FnOk P w K mg base (L2.CX P w) 1 (He.ga K "look_name") fd ["name"] (spF (bs K) 1 F_look_name) ∧ Binds K fd ["name"] [] ∧ PySem.W.keepIn K (.ref (He.ga K "look_name")) = true := by
  obtain ⟨fd, F⟩ := T.d_look_name
  refine ⟨fd, fn_body F sc_look_name (fun cdv A outer s H E hr => ?_), F.bindsN (fun _ _ _ _ _ _ us hl => match us, hl with | [_], _ => rfl), F.kp⟩
  have tk : Takes (cxOf (L2.CX P w) P w K mg base ["name"] "look_name" (defScope s_look_name) (He.ga K "look_name") cdv A outer s H E) (WF E) := takes_of rfl rfl rfl rfl
  have po : PassesOwn (model P w) (A.deeper (PyProof.Rows.envOfC "look_name" (defScope s_look_name) s.heap.objs.size (He.ga K "look_name") cdv)) (PyProof.Rows.envOfC "look_name" (defScope s_look_name) s.heap.objs.size (He.ga K "look_name") cdv) (cxOf (L2.CX P w) P w K mg base ["name"] "look_name" (defScope s_look_name) (He.ga K "look_name") cdv A outer s H E).xe := passes_of (X := cxOf (L2.CX P w) P w K mg base ["name"] "look_name" (defScope s_look_name) (He.ga K "look_name") cdv A outer s H E) rfl
  have hu1 := hu_of hr
  exact (s_one (s_if (m_not (m_chainT op_le t_le op_le t_le m_int (m_var 0 (pv 0)) (m_gint rfl T.c_MOST_NAME))) (s_one (s_raiseX (k := 0) rfl T.x_BadRow rfl rfl rfl tk)) s_nil))
theorem ok_look_row (T : Tx K mg) : ∃ fd, FnOk P w K mg base (L2.CX P w) 2 (He.ga K "look_row") fd ["row"] (spF (bs K) 1 F_look_row) ∧ Binds K fd ["row"] [] ∧ PySem.W.keepIn K (.ref (He.ga K "look_row")) = true := by
  obtain ⟨fd, F⟩ := T.d_look_row
  obtain ⟨fd_look_name, ok_look_name, b_look_name, k_look_name⟩ := ok_look_name (P := P) (w := w) (base := base) T
  refine ⟨fd, fn_body F sc_look_row (fun cdv A outer s H E hr => ?_), F.bindsN (fun _ _ _ _ _ _ us hl => match us, hl with | [_], _ => rfl), F.kp⟩
  have tk : Takes (cxOf (L2.CX P w) P w K mg base ["row", "name"] "look_row" (defScope s_look_row) (He.ga K "look_row") cdv A outer s H E) (WF E) := takes_of rfl rfl rfl rfl
  have po : PassesOwn (model P w) (A.deeper (PyProof.Rows.envOfC "look_row" (defScope s_look_row) s.heap.objs.size (He.ga K "look_row") cdv)) (PyProof.Rows.envOfC "look_row" (defScope s_look_row) s.heap.objs.size (He.ga K "look_row") cdv) (cxOf (L2.CX P w) P w K mg base ["row", "name"] "look_row" (defScope s_look_row) (He.ga K "look_row") cdv A outer s H E).xe := passes_of (X := cxOf (L2.CX P w) P w K mg base ["row", "name"] "look_row" (defScope s_look_row) (He.ga K "look_row") cdv A outer s H E) rfl
  have hu1 := hu_of hr
  exact (s_cons (s_if (m_tcmp op_gt t_gt (m_len rfl rfl T.z_len (m_var 0 (pv 0))) (m_gint rfl T.c_MOST_ASKS) (nomark _)) (s_one (s_raiseX (k := 0) rfl T.x_BadRow rfl rfl rfl tk)) s_nil)
    (s_one (s_for (t := (.one 1)) rfl po rfl (i_list rfl (m_var 0 (pv 0))) (pg_name (i := 1) sc_look_row.nd rfl (by first | exact Or.inl rfl | exact Or.inr rfl)) (s_one (s_expr (m_call ok_look_name (hr.mono (by decide)) rfl T.g_look_name k_look_name b_look_name tk (m_cons (m_var 1 (pv 1)) m_nil)))))))
theorem ok_look_room (T : Tx K mg) : ∃ fd, FnOk P w K mg base (L2.CX P w) 1 (He.ga K "look_room") fd ["room"] (spF (bs K) 1 F_look_room) ∧ Binds K fd ["room"] [] ∧ PySem.W.keepIn K (.ref (He.ga K "look_room")) = true := by
  obtain ⟨fd, F⟩ := T.d_look_room
  refine ⟨fd, fn_body F sc_look_room (fun cdv A outer s H E hr => ?_), F.bindsN (fun _ _ _ _ _ _ us hl => match us, hl with | [_], _ => rfl), F.kp⟩
  have tk : Takes (cxOf (L2.CX P w) P w K mg base ["room"] "look_room" (defScope s_look_room) (He.ga K "look_room") cdv A outer s H E) (WF E) := takes_of rfl rfl rfl rfl
  have po : PassesOwn (model P w) (A.deeper (PyProof.Rows.envOfC "look_room" (defScope s_look_room) s.heap.objs.size (He.ga K "look_room") cdv)) (PyProof.Rows.envOfC "look_room" (defScope s_look_room) s.heap.objs.size (He.ga K "look_room") cdv) (cxOf (L2.CX P w) P w K mg base ["room"] "look_room" (defScope s_look_room) (He.ga K "look_room") cdv A outer s H E).xe := passes_of (X := cxOf (L2.CX P w) P w K mg base ["room"] "look_room" (defScope s_look_room) (He.ga K "look_room") cdv A outer s H E) rfl
  have hu1 := hu_of hr
  exact (s_one (s_if (m_not (m_chainT op_le t_le op_le t_le m_int (m_var 0 (pv 0)) (m_gint rfl T.c_MOST_ROOM))) (s_one (s_raiseX (k := 1) rfl T.x_BadRoom rfl rfl rfl tk)) s_nil))
theorem ok_look_rule (T : Tx K mg) : ∃ fd, FnOk P w K mg base (L2.CX P w) 1 (He.ga K "look_rule") fd ["rule"] (spF (bs K) 1 F_look_rule) ∧ Binds K fd ["rule"] [] ∧ PySem.W.keepIn K (.ref (He.ga K "look_rule")) = true := by
  obtain ⟨fd, F⟩ := T.d_look_rule
  refine ⟨fd, fn_body F sc_look_rule (fun cdv A outer s H E hr => ?_), F.bindsN (fun _ _ _ _ _ _ us hl => match us, hl with | [_], _ => rfl), F.kp⟩
  have tk : Takes (cxOf (L2.CX P w) P w K mg base ["rule"] "look_rule" (defScope s_look_rule) (He.ga K "look_rule") cdv A outer s H E) (WF E) := takes_of rfl rfl rfl rfl
  have po : PassesOwn (model P w) (A.deeper (PyProof.Rows.envOfC "look_rule" (defScope s_look_rule) s.heap.objs.size (He.ga K "look_rule") cdv)) (PyProof.Rows.envOfC "look_rule" (defScope s_look_rule) s.heap.objs.size (He.ga K "look_rule") cdv) (cxOf (L2.CX P w) P w K mg base ["rule"] "look_rule" (defScope s_look_rule) (He.ga K "look_rule") cdv A outer s H E).xe := passes_of (X := cxOf (L2.CX P w) P w K mg base ["rule"] "look_rule" (defScope s_look_rule) (He.ga K "look_rule") cdv A outer s H E) rfl
  have hu1 := hu_of hr
  exact (s_one (s_if (m_tcmp (o_nin hr.units) (tells_two _) (m_var 0 (pv 0)) (m_gtup (ss := l_RULES) rfl T.g_RULES T.c_RULES) (by rfl)) (s_one (s_raiseX (k := 2) rfl T.x_BadRule rfl rfl rfl tk)) s_nil))
theorem ok_next_of (T : Tx K mg) : ∃ fd, FnOk P w K mg base (L2.CX P w) 1 (He.ga K "next_of") fd ["row", "k", "name"] (spF (bs K) 3 F_next_of) ∧ Binds K fd ["row", "k", "name"] [] ∧ PySem.W.keepIn K (.ref (He.ga K "next_of")) = true := by
  obtain ⟨fd, F⟩ := T.d_next_of
  refine ⟨fd, fn_body F sc_next_of (fun cdv A outer s H E hr => ?_), F.bindsN (fun _ _ _ _ _ _ us hl => match us, hl with | [_, _, _], _ => rfl), F.kp⟩
  have tk : Takes (cxOf (L2.CX P w) P w K mg base ["row", "k", "name", "j"] "next_of" (defScope s_next_of) (He.ga K "next_of") cdv A outer s H E) (WF E) := takes_of rfl rfl rfl rfl
  have po : PassesOwn (model P w) (A.deeper (PyProof.Rows.envOfC "next_of" (defScope s_next_of) s.heap.objs.size (He.ga K "next_of") cdv)) (PyProof.Rows.envOfC "next_of" (defScope s_next_of) s.heap.objs.size (He.ga K "next_of") cdv) (cxOf (L2.CX P w) P w K mg base ["row", "k", "name", "j"] "next_of" (defScope s_next_of) (He.ga K "next_of") cdv A outer s H E).xe := passes_of (X := cxOf (L2.CX P w) P w K mg base ["row", "k", "name", "j"] "next_of" (defScope s_next_of) (He.ga K "next_of") cdv A outer s H E) rfl
  have hu1 := hu_of hr
  exact (s_cons (s_for (t := (.one 3)) rfl po rfl (i_range2 rfl T.z_range (m_cons (m_var 1 (pv 1)) (m_cons (m_len rfl rfl T.z_len (m_var 0 (pv 0))) m_nil))) (pg_name (i := 3) sc_next_of.nd rfl (by first | exact Or.inl rfl | exact Or.inr rfl)) (s_one (s_if (m_tcmp (o_eq hr.units) (tells_two _) (m_frz (m_idx rfl (m_var 0 (pv 0)) (m_var 3 (pv 3)))) (m_var 2 (pv 2)) (nomark _)) (s_one (s_retO 3 (pv 3))) s_nil)))
    (s_one (s_ret (m_data (m_len rfl rfl T.z_len (m_var 0 (pv 0)))))))
theorem ok_last_of (T : Tx K mg) : ∃ fd, FnOk P w K mg base (L2.CX P w) 1 (He.ga K "last_of") fd ["row", "k", "name"] (spF (bs K) 3 F_last_of) ∧ Binds K fd ["row", "k", "name"] [] ∧ PySem.W.keepIn K (.ref (He.ga K "last_of")) = true := by
  obtain ⟨fd, F⟩ := T.d_last_of
  refine ⟨fd, fn_body F sc_last_of (fun cdv A outer s H E hr => ?_), F.bindsN (fun _ _ _ _ _ _ us hl => match us, hl with | [_, _, _], _ => rfl), F.kp⟩
  have tk : Takes (cxOf (L2.CX P w) P w K mg base ["row", "k", "name", "j"] "last_of" (defScope s_last_of) (He.ga K "last_of") cdv A outer s H E) (WF E) := takes_of rfl rfl rfl rfl
  have po : PassesOwn (model P w) (A.deeper (PyProof.Rows.envOfC "last_of" (defScope s_last_of) s.heap.objs.size (He.ga K "last_of") cdv)) (PyProof.Rows.envOfC "last_of" (defScope s_last_of) s.heap.objs.size (He.ga K "last_of") cdv) (cxOf (L2.CX P w) P w K mg base ["row", "k", "name", "j"] "last_of" (defScope s_last_of) (He.ga K "last_of") cdv A outer s H E).xe := passes_of (X := cxOf (L2.CX P w) P w K mg base ["row", "k", "name", "j"] "last_of" (defScope s_last_of) (He.ga K "last_of") cdv A outer s H E) rfl
  have hu1 := hu_of hr
  exact (s_one (s_ret (m_max1 rfl rfl hr.units rfl T.z_max (m_cons (m_frz (m_lc (t := (.one 3)) rfl rfl rfl sc_last_of.nd (i_range1 rfl T.z_range (m_cons (m_var 1 (pv 1)) m_nil)) (blkOk_by (own := [("j", 3)]) (by kernel_rfl)) (fun _ _ _ _ _ => (pg_name (i := 3) sc_last_of.nd rfl (by first | exact Or.inl rfl | exact Or.inr rfl))) (fun _ _ _ _ _ => (ts_one (m_tcmp (o_eq hr.units) (tells_two _) (m_frz (m_idx rfl (m_var 0 (pv 0)) (m_var 3 (pv 3)))) (m_var 2 (pv 2)) (nomark _)))) (fun _ _ _ _ _ => (m_var 3 (pv 3))))) m_nil))))
theorem ok_worth (T : Tx K mg) : ∃ fd, FnOk P w K mg base (L2.CX P w) 2 (He.ga K "worth") fd ["rule", "row", "k", "name", "came"] (spF (bs K) 5 F_worth) ∧ Binds K fd ["rule", "row", "k", "name", "came"] [] ∧ PySem.W.keepIn K (.ref (He.ga K "worth")) = true := by
  obtain ⟨fd, F⟩ := T.d_worth
  obtain ⟨fd_last_of, ok_last_of, b_last_of, k_last_of⟩ := ok_last_of (P := P) (w := w) (base := base) T
  obtain ⟨fd_next_of, ok_next_of, b_next_of, k_next_of⟩ := ok_next_of (P := P) (w := w) (base := base) T
  refine ⟨fd, fn_body F sc_worth (fun cdv A outer s H E hr => ?_), F.bindsN (fun _ _ _ _ _ _ us hl => match us, hl with | [_, _, _, _, _], _ => rfl), F.kp⟩
  have tk : Takes (cxOf (L2.CX P w) P w K mg base ["rule", "row", "k", "name", "came"] "worth" (defScope s_worth) (He.ga K "worth") cdv A outer s H E) (WF E) := takes_of rfl rfl rfl rfl
  have po : PassesOwn (model P w) (A.deeper (PyProof.Rows.envOfC "worth" (defScope s_worth) s.heap.objs.size (He.ga K "worth") cdv)) (PyProof.Rows.envOfC "worth" (defScope s_worth) s.heap.objs.size (He.ga K "worth") cdv) (cxOf (L2.CX P w) P w K mg base ["rule", "row", "k", "name", "came"] "worth" (defScope s_worth) (He.ga K "worth") cdv A outer s H E).xe := passes_of (X := cxOf (L2.CX P w) P w K mg base ["rule", "row", "k", "name", "came"] "worth" (defScope s_worth) (He.ga K "worth") cdv A outer s H E) rfl
  have hu1 := hu_of hr
  exact (s_cons (s_if (m_tcmp (o_eq hr.units) (tells_two _) (m_var 0 (pv 0)) m_str (nomark _)) (s_one (s_ret (m_data (m_tup (m_cons (m_frz (m_call ok_last_of (hr.mono (by decide)) rfl T.g_last_of k_last_of b_last_of tk (m_cons (m_var 1 (pv 1)) (m_cons (m_var 2 (pv 2)) (m_cons (m_var 3 (pv 3)) m_nil))))) (m_cons m_int m_nil)))))) s_nil)
    (s_cons (s_if (m_tcmp (o_eq hr.units) (tells_two _) (m_var 0 (pv 0)) m_str (nomark _)) (s_one (s_ret (m_data (m_tup (m_cons (m_frz (m_sub m_int (m_frz (m_call ok_last_of (hr.mono (by decide)) rfl T.g_last_of k_last_of b_last_of tk (m_cons (m_var 1 (pv 1)) (m_cons (m_var 2 (pv 2)) (m_cons (m_var 3 (pv 3)) m_nil))))))) (m_cons m_int m_nil)))))) s_nil)
    (s_cons (s_if (m_tcmp (o_eq hr.units) (tells_two _) (m_var 0 (pv 0)) m_str (nomark _)) (s_one (s_ret (m_data (m_tup (m_cons (m_getK hu1 (fun _ _ => rfl) 4 (pv 4) (m_var 3 (pv 3))) (m_cons m_int m_nil)))))) s_nil)
    (s_cons (s_if (m_tcmp (o_eq hr.units) (tells_two _) (m_var 0 (pv 0)) m_str (nomark _)) (s_one (s_ret (m_data (m_tup (m_cons (m_frz (m_sub m_int (m_getK hu1 (fun _ _ => rfl) 4 (pv 4) (m_var 3 (pv 3))))) (m_cons m_int m_nil)))))) s_nil)
    (s_cons (s_if (m_tcmp (o_eq hr.units) (tells_two _) (m_var 0 (pv 0)) m_str (nomark _)) (s_one (s_ret (m_data (m_tup (m_cons (m_frz (m_sub m_int (m_frz (m_call ok_next_of (hr.mono (by decide)) rfl T.g_next_of k_next_of b_next_of tk (m_cons (m_var 1 (pv 1)) (m_cons (m_var 2 (pv 2)) (m_cons (m_var 3 (pv 3)) m_nil))))))) (m_cons (m_var 3 (pv 3)) m_nil)))))) s_nil)
    (s_one (s_ret (m_data (m_tup (m_cons (m_count rfl hr.units (m_frz (m_slice rfl sl_any (m_var 1 (pv 1)) p_none (p_some (m_var 2 (pv 2))))) (m_cons (m_var 3 (pv 3)) m_nil) rfl (fun h1 h2 h3 => pe_bm PySem.F.plainAttrs_list PySem.F.slot_list_count PySem.F.type_list_count h1 h2 h3)) (m_cons (m_frz (m_call ok_last_of (hr.mono (by decide)) rfl T.g_last_of k_last_of b_last_of tk (m_cons (m_var 1 (pv 1)) (m_cons (m_var 2 (pv 2)) (m_cons (m_var 3 (pv 3)) m_nil))))) m_nil)))))))))))
theorem ok_victim (T : Tx K mg) : ∃ fd, FnOk P w K mg base (L2.CX P w) 3 (He.ga K "victim") fd ["rule", "row", "k", "came"] (spF (bs K) 4 F_victim) ∧ Binds K fd ["rule", "row", "k", "came"] [] ∧ PySem.W.keepIn K (.ref (He.ga K "victim")) = true := by
  obtain ⟨fd, F⟩ := T.d_victim
  obtain ⟨fd_worth, ok_worth, b_worth, k_worth⟩ := ok_worth (P := P) (w := w) (base := base) T
  refine ⟨fd, fn_body F sc_victim (fun cdv A outer s H E hr => ?_), F.bindsN (fun _ _ _ _ _ _ us hl => match us, hl with | [_, _, _, _], _ => rfl), F.kp⟩
  have tk : Takes (cxOf (L2.CX P w) P w K mg base ["rule", "row", "k", "came", "some", "name"] "victim" (defScope s_victim) (He.ga K "victim") cdv A outer s H E) (WF E) := takes_of rfl rfl rfl rfl
  have po : PassesOwn (model P w) (A.deeper (PyProof.Rows.envOfC "victim" (defScope s_victim) s.heap.objs.size (He.ga K "victim") cdv)) (PyProof.Rows.envOfC "victim" (defScope s_victim) s.heap.objs.size (He.ga K "victim") cdv) (cxOf (L2.CX P w) P w K mg base ["rule", "row", "k", "came", "some", "name"] "victim" (defScope s_victim) (He.ga K "victim") cdv A outer s H E).xe := passes_of (X := cxOf (L2.CX P w) P w K mg base ["rule", "row", "k", "came", "some", "name"] "victim" (defScope s_victim) (He.ga K "victim") cdv A outer s H E) rfl
  have hu1 := hu_of hr
  exact (s_cons (s_set (i := 4) sc_victim.nd rfl (by first | exact Or.inl rfl | exact Or.inr rfl) (m_sorted rfl hr.units rfl T.z_sorted (m_cons (m_frz (m_lc (t := (.one 5)) rfl rfl rfl sc_victim.nd (i_keys rfl 3 (pv 3)) (blkOk_by (own := [("name", 5)]) (by kernel_rfl)) (fun _ _ _ _ _ => (pg_name (i := 5) sc_victim.nd rfl (by first | exact Or.inl rfl | exact Or.inr rfl))) (fun _ _ _ _ _ => ts_nil) (fun _ _ _ _ _ => (m_tup (m_cons (m_frz (m_call ok_worth (hr.mono (by decide)) rfl T.g_worth k_worth b_worth takes0 (m_cons (m_var 0 (pv 0)) (m_cons (m_var 1 (pv 1)) (m_cons (m_var 2 (pv 2)) (m_cons (m_var 5 (pv 5)) (m_cons (m_var 3 (pv 3)) m_nil))))))) (m_cons (m_var 5 (pv 5)) m_nil)))))) m_nil)))
    (s_one (s_ret (m_idx rfl (m_frz (m_idx rfl (m_var 4 (pv 4)) m_int)) m_int))))
theorem ok_walk (T : Tx K mg) : ∃ fd, FnOk P w K mg base (L2.CX P w) 4 (He.ga K "walk") fd ["rule", "room", "row"] (spF (bs K) 3 F_walk) ∧ Binds K fd ["rule", "room", "row"] [] ∧ PySem.W.keepIn K (.ref (He.ga K "walk")) = true := by
  obtain ⟨fd, F⟩ := T.d_walk
  obtain ⟨fd_victim, ok_victim, b_victim, k_victim⟩ := ok_victim (P := P) (w := w) (base := base) T
  refine ⟨fd, fn_body F sc_walk (fun cdv A outer s H E hr => ?_), F.bindsN (fun _ _ _ _ _ _ us hl => match us, hl with | [_, _, _], _ => rfl), F.kp⟩
  have tk : Takes (cxOf (L2.CX P w) P w K mg base ["rule", "room", "row", "came", "found", "k", "gone", "is_kept"] "walk" (defScope s_walk) (He.ga K "walk") cdv A outer s H E) (WF E) := takes_of rfl rfl rfl rfl
  have po : PassesOwn (model P w) (A.deeper (PyProof.Rows.envOfC "walk" (defScope s_walk) s.heap.objs.size (He.ga K "walk") cdv)) (PyProof.Rows.envOfC "walk" (defScope s_walk) s.heap.objs.size (He.ga K "walk") cdv) (cxOf (L2.CX P w) P w K mg base ["rule", "room", "row", "came", "found", "k", "gone", "is_kept"] "walk" (defScope s_walk) (He.ga K "walk") cdv A outer s H E).xe := passes_of (X := cxOf (L2.CX P w) P w K mg base ["rule", "room", "row", "came", "found", "k", "gone", "is_kept"] "walk" (defScope s_walk) (He.ga K "walk") cdv A outer s H E) rfl
  have hu1 := hu_of hr
  exact (s_cons (s_set (i := 3) sc_walk.nd rfl (by first | exact Or.inl rfl | exact Or.inr rfl) m_newK)
    (s_cons (s_set (i := 4) sc_walk.nd rfl (by first | exact Or.inl rfl | exact Or.inr rfl) (m_lst m_nil))
    (s_cons (s_for (t := (.one 5)) rfl po rfl (i_range1 rfl T.z_range (m_cons (m_len rfl rfl T.z_len (m_var 2 (pv 2))) m_nil)) (pg_name (i := 5) sc_walk.nd rfl (by first | exact Or.inl rfl | exact Or.inr rfl)) (s_cons (s_set (i := 6) sc_walk.nd rfl (by first | exact Or.inl rfl | exact Or.inr rfl) (m_data m_non))
    (s_cons (s_set (i := 7) sc_walk.nd rfl (by first | exact Or.inl rfl | exact Or.inr rfl) (m_data (m_inK hu1 3 (m_frz (m_idx rfl (m_var 2 (pv 2)) (m_var 5 (pv 5)))) (pv 3))))
    (s_cons (s_if (PW.pt (m_and (m_not (m_test rfl (m_var 7 (pv 7)))) (m_and1 (m_tcmp op_gt t_gt (m_var 1 (pv 1)) m_int (nomark _))))) (s_cons (s_if (m_tcmp (o_eq hr.units) (tells_two _) (m_len rfl rfl T.z_len (m_var 3 (pv 3))) (m_var 1 (pv 1)) (nomark _)) (s_cons (s_setLk (j := 6) 3 sc_walk.nd rfl (by first | exact Or.inl rfl | exact Or.inr rfl) (m_call ok_victim (hr.mono (by decide)) rfl T.g_victim k_victim b_victim tk (m_cons (m_var 0 (pv 0)) (m_cons (m_var 2 (pv 2)) (m_cons (m_var 5 (pv 5)) (m_cons (m_var 3 (pv 3)) m_nil))))))
    (s_one (s_expr (m_popK 3 (pv 3) (m_var 6 (pv 6)) ⟨rfl, rfl, rfl, rfl⟩)))) s_nil)
    (s_one (s_putK hu1 3 (pv 3) (m_var 5 (pv 5)) (m_frz (m_idx rfl (m_var 2 (pv 2)) (m_var 5 (pv 5))))))) s_nil)
    (s_one (s_expr (m_mut rfl 4 k_app (pe_bm PySem.F.plainAttrs_list PySem.F.slot_list_append PySem.F.type_list_append mt_append (pv 4) (m_cons (m_tup (m_cons (m_var 7 (pv 7)) (m_cons (m_var 6 (pv 6)) m_nil))) m_nil)))))))))
    (s_one (s_share 4 (s_ret (m_data (m_tup (m_cons (m_var 4 (pv 4)) (m_cons (m_frz (m_sortK rfl 3 (pv 3) rfl T.z_sorted)) m_nil))))))))))
theorem ok_run (T : Tx K mg) : ∃ fd, FnOk P w K mg base (L2.CX P w) 5 (He.ga K "run") fd ["rule", "room", "row"] (spF (bs K) 3 F_run) ∧ Binds K fd ["rule", "room", "row"] [] ∧ PySem.W.keepIn K (.ref (He.ga K "run")) = true := by
  obtain ⟨fd, F⟩ := T.d_run
  obtain ⟨fd_look_room, ok_look_room, b_look_room, k_look_room⟩ := ok_look_room (P := P) (w := w) (base := base) T
  obtain ⟨fd_look_row, ok_look_row, b_look_row, k_look_row⟩ := ok_look_row (P := P) (w := w) (base := base) T
  obtain ⟨fd_look_rule, ok_look_rule, b_look_rule, k_look_rule⟩ := ok_look_rule (P := P) (w := w) (base := base) T
  obtain ⟨fd_walk, ok_walk, b_walk, k_walk⟩ := ok_walk (P := P) (w := w) (base := base) T
  refine ⟨fd, fn_body F sc_run (fun cdv A outer s H E hr => ?_), F.bindsN (fun _ _ _ _ _ _ us hl => match us, hl with | [_, _, _], _ => rfl), F.kp⟩
  have tk : Takes (cxOf (L2.CX P w) P w K mg base ["rule", "room", "row", "is_kept", "gone"] "run" (defScope s_run) (He.ga K "run") cdv A outer s H E) (WF E) := takes_of rfl rfl rfl rfl
  have po : PassesOwn (model P w) (A.deeper (PyProof.Rows.envOfC "run" (defScope s_run) s.heap.objs.size (He.ga K "run") cdv)) (PyProof.Rows.envOfC "run" (defScope s_run) s.heap.objs.size (He.ga K "run") cdv) (cxOf (L2.CX P w) P w K mg base ["rule", "room", "row", "is_kept", "gone"] "run" (defScope s_run) (He.ga K "run") cdv A outer s H E).xe := passes_of (X := cxOf (L2.CX P w) P w K mg base ["rule", "room", "row", "is_kept", "gone"] "run" (defScope s_run) (He.ga K "run") cdv A outer s H E) rfl
  have hu1 := hu_of hr
  exact (s_cons (s_expr (m_call ok_look_rule (hr.mono (by decide)) rfl T.g_look_rule k_look_rule b_look_rule tk (m_cons (m_var 0 (pv 0)) m_nil)))
    (s_cons (s_expr (m_call ok_look_room (hr.mono (by decide)) rfl T.g_look_room k_look_room b_look_room tk (m_cons (m_var 1 (pv 1)) m_nil)))
    (s_cons (s_expr (m_call ok_look_row (hr.mono (by decide)) rfl T.g_look_row k_look_row b_look_row tk (m_cons (m_var 2 (pv 2)) m_nil)))
    (s_one (s_ret (m_lc (t := (.tup [3, 4])) rfl rfl rfl sc_run.nd (i_list rfl (m_frz (m_idx rfl (m_frz (m_call ok_walk (hr.mono (by decide)) rfl T.g_walk k_walk b_walk tk (m_cons (m_var 0 (pv 0)) (m_cons (m_var 1 (pv 1)) (m_cons (m_var 2 (pv 2)) m_nil))))) m_int))) (blkOk_by (own := [("is_kept", 3), ("gone", 4)]) (by kernel_rfl)) (fun _ _ _ _ _ => (pg_tup rfl (pgs_cons (pg_name (i := 3) sc_run.nd rfl (by first | exact Or.inl rfl | exact Or.inr rfl)) (pgs_cons (pg_name (i := 4) sc_run.nd rfl (by first | exact Or.inl rfl | exact Or.inr rfl)) pgs_nil)))) (fun _ _ _ _ _ => ts_nil) (fun _ _ _ _ _ => (m_var 3 (pv 3)))))))))
theorem ok_levels (T : Tx K mg) : ∃ fd, FnOk P w K mg base (L2.CX P w) 3 (He.ga K "levels") fd ["near", "far", "row"] (spF (bs K) 3 F_levels) ∧ Binds K fd ["near", "far", "row"] [] ∧ PySem.W.keepIn K (.ref (He.ga K "levels")) = true := by
  obtain ⟨fd, F⟩ := T.d_levels
  obtain ⟨fd_look_room, ok_look_room, b_look_room, k_look_room⟩ := ok_look_room (P := P) (w := w) (base := base) T
  obtain ⟨fd_look_row, ok_look_row, b_look_row, k_look_row⟩ := ok_look_row (P := P) (w := w) (base := base) T
  refine ⟨fd, fn_body F sc_levels (fun cdv A outer s H E hr => ?_), F.bindsN (fun _ _ _ _ _ _ us hl => match us, hl with | [_, _, _], _ => rfl), F.kp⟩
  have tk : Takes (cxOf (L2.CX P w) P w K mg base ["near", "far", "row", "one", "other", "found", "name", "some"] "levels" (defScope s_levels) (He.ga K "levels") cdv A outer s H E) (WF E) := takes_of rfl rfl rfl rfl
  have po : PassesOwn (model P w) (A.deeper (PyProof.Rows.envOfC "levels" (defScope s_levels) s.heap.objs.size (He.ga K "levels") cdv)) (PyProof.Rows.envOfC "levels" (defScope s_levels) s.heap.objs.size (He.ga K "levels") cdv) (cxOf (L2.CX P w) P w K mg base ["near", "far", "row", "one", "other", "found", "name", "some"] "levels" (defScope s_levels) (He.ga K "levels") cdv A outer s H E).xe := passes_of (X := cxOf (L2.CX P w) P w K mg base ["near", "far", "row", "one", "other", "found", "name", "some"] "levels" (defScope s_levels) (He.ga K "levels") cdv A outer s H E) rfl
  have hu1 := hu_of hr
  exact (s_cons (s_expr (m_call ok_look_room (hr.mono (by decide)) rfl T.g_look_room k_look_room b_look_room tk (m_cons (m_var 0 (pv 0)) m_nil)))
    (s_cons (s_expr (m_call ok_look_room (hr.mono (by decide)) rfl T.g_look_room k_look_room b_look_room tk (m_cons (m_var 1 (pv 1)) m_nil)))
    (s_cons (s_expr (m_call ok_look_row (hr.mono (by decide)) rfl T.g_look_row k_look_row b_look_row tk (m_cons (m_var 2 (pv 2)) m_nil)))
    (s_cons (s_set (i := 3) sc_levels.nd rfl (by first | exact Or.inl rfl | exact Or.inr rfl) (m_lst m_nil))
    (s_cons (s_set (i := 4) sc_levels.nd rfl (by first | exact Or.inl rfl | exact Or.inr rfl) (m_lst m_nil))
    (s_cons (s_set (i := 5) sc_levels.nd rfl (by first | exact Or.inl rfl | exact Or.inr rfl) (m_lst m_nil))
    (s_cons (s_for (t := (.one 6)) rfl po rfl (i_list rfl (m_var 2 (pv 2))) (pg_name (i := 6) sc_levels.nd rfl (by first | exact Or.inl rfl | exact Or.inr rfl)) (s_cons (s_expr (m_mut rfl 5 k_app (pe_bm PySem.F.plainAttrs_list PySem.F.slot_list_append PySem.F.type_list_append mt_append (pv 5) (m_cons (m_ifE (m_tcmp (o_in hr.units) (tells_two _) (m_var 6 (pv 6)) (m_var 3 (pv 3)) (by rfl)) m_str (m_ifE (m_tcmp (o_in hr.units) (tells_two _) (m_var 6 (pv 6)) (m_var 4 (pv 4)) (by rfl)) m_str m_str)) m_nil))))
    (s_cons (s_share 3 (s_set (i := 3) sc_levels.nd rfl (by first | exact Or.inl rfl | exact Or.inr rfl) (m_add (m_frz (m_lst (m_cons (m_var 6 (pv 6)) m_nil))) (m_frz (m_lc (t := (.one 7)) rfl rfl rfl sc_levels.nd (i_list rfl (m_var 3 (pv 3))) (blkOk_by (own := [("some", 7)]) (by kernel_rfl)) (fun _ _ _ _ _ => (pg_name (i := 7) sc_levels.nd rfl (by first | exact Or.inl rfl | exact Or.inr rfl))) (fun _ _ _ _ _ => (ts_one (m_tcmp (o_ne hr.units) (tells_two _) (m_var 7 (pv 7)) (m_var 6 (pv 6)) (nomark _)))) (fun _ _ _ _ _ => (m_var 7 (pv 7))))))))
    (s_cons (s_share 4 (s_set (i := 4) sc_levels.nd rfl (by first | exact Or.inl rfl | exact Or.inr rfl) (m_add (m_frz (m_slice rfl sl_any (m_var 3 (pv 3)) (p_some (m_var 0 (pv 0))) p_none)) (m_frz (m_lc (t := (.one 7)) rfl rfl rfl sc_levels.nd (i_list rfl (m_var 4 (pv 4))) (blkOk_by (own := [("some", 7)]) (by kernel_rfl)) (fun _ _ _ _ _ => (pg_name (i := 7) sc_levels.nd rfl (by first | exact Or.inl rfl | exact Or.inr rfl))) (fun _ _ _ _ _ => (ts_one (m_tcmp (o_ne hr.units) (tells_two _) (m_var 7 (pv 7)) (m_var 6 (pv 6)) (nomark _)))) (fun _ _ _ _ _ => (m_var 7 (pv 7))))))))
    (s_cons (s_set (i := 3) sc_levels.nd rfl (by first | exact Or.inl rfl | exact Or.inr rfl) (m_slice rfl sl_any (m_var 3 (pv 3)) p_none (p_some (m_var 0 (pv 0)))))
    (s_one (s_set (i := 4) sc_levels.nd rfl (by first | exact Or.inl rfl | exact Or.inr rfl) (m_slice rfl sl_any (m_var 4 (pv 4)) p_none (p_some (m_var 1 (pv 1)))))))))))
    (s_one (s_retO 5 (pv 5))))))))))
theorem ok_filtered (T : Tx K mg) : ∃ fd, FnOk P w K mg base (L2.CX P w) 6 (He.ga K "filtered") fd ["near", "row"] (spF (bs K) 2 F_filtered) ∧ Binds K fd ["near", "row"] [] ∧ PySem.W.keepIn K (.ref (He.ga K "filtered")) = true := by
  obtain ⟨fd, F⟩ := T.d_filtered
  obtain ⟨fd_run, ok_run, b_run, k_run⟩ := ok_run (P := P) (w := w) (base := base) T
  refine ⟨fd, fn_body F sc_filtered (fun cdv A outer s H E hr => ?_), F.bindsN (fun _ _ _ _ _ _ us hl => match us, hl with | [_, _], _ => rfl), F.kp⟩
  have tk : Takes (cxOf (L2.CX P w) P w K mg base ["near", "row", "some", "k"] "filtered" (defScope s_filtered) (He.ga K "filtered") cdv A outer s H E) (WF E) := takes_of rfl rfl rfl rfl
  have po : PassesOwn (model P w) (A.deeper (PyProof.Rows.envOfC "filtered" (defScope s_filtered) s.heap.objs.size (He.ga K "filtered") cdv)) (PyProof.Rows.envOfC "filtered" (defScope s_filtered) s.heap.objs.size (He.ga K "filtered") cdv) (cxOf (L2.CX P w) P w K mg base ["near", "row", "some", "k"] "filtered" (defScope s_filtered) (He.ga K "filtered") cdv A outer s H E).xe := passes_of (X := cxOf (L2.CX P w) P w K mg base ["near", "row", "some", "k"] "filtered" (defScope s_filtered) (He.ga K "filtered") cdv A outer s H E) rfl
  have hu1 := hu_of hr
  exact (s_cons (s_set (i := 2) sc_filtered.nd rfl (by first | exact Or.inl rfl | exact Or.inr rfl) (m_call ok_run (hr.mono (by decide)) rfl T.g_run k_run b_run tk (m_cons m_str (m_cons (m_var 0 (pv 0)) (m_cons (m_var 1 (pv 1)) m_nil)))))
    (s_one (s_ret (m_lc (t := (.one 3)) rfl rfl rfl sc_filtered.nd (i_range1 rfl T.z_range (m_cons (m_len rfl rfl T.z_len (m_var 1 (pv 1))) m_nil)) (blkOk_by (own := [("k", 3)]) (by kernel_rfl)) (fun _ _ _ _ _ => (pg_name (i := 3) sc_filtered.nd rfl (by first | exact Or.inl rfl | exact Or.inr rfl))) (fun _ _ _ _ _ => (ts_one (m_not (m_test rfl (m_frz (m_idx rfl (m_var 2 (pv 2)) (m_var 3 (pv 3)))))))) (fun _ _ _ _ _ => (m_frz (m_idx rfl (m_var 1 (pv 1)) (m_var 3 (pv 3)))))))))
theorem ok_below (T : Tx K mg) : ∃ fd, FnOk P w K mg base (L2.CX P w) 7 (He.ga K "below") fd ["near", "far", "row"] (spF (bs K) 3 F_below) ∧ Binds K fd ["near", "far", "row"] [] ∧ PySem.W.keepIn K (.ref (He.ga K "below")) = true := by
  obtain ⟨fd, F⟩ := T.d_below
  obtain ⟨fd_filtered, ok_filtered, b_filtered, k_filtered⟩ := ok_filtered (P := P) (w := w) (base := base) T
  obtain ⟨fd_look_room, ok_look_room, b_look_room, k_look_room⟩ := ok_look_room (P := P) (w := w) (base := base) T
  obtain ⟨fd_look_row, ok_look_row, b_look_row, k_look_row⟩ := ok_look_row (P := P) (w := w) (base := base) T
  obtain ⟨fd_run, ok_run, b_run, k_run⟩ := ok_run (P := P) (w := w) (base := base) T
  refine ⟨fd, fn_body F sc_below (fun cdv A outer s H E hr => ?_), F.bindsN (fun _ _ _ _ _ _ us hl => match us, hl with | [_, _, _], _ => rfl), F.kp⟩
  have tk : Takes (cxOf (L2.CX P w) P w K mg base ["near", "far", "row", "some", "rest", "found", "k", "at"] "below" (defScope s_below) (He.ga K "below") cdv A outer s H E) (WF E) := takes_of rfl rfl rfl rfl
  have po : PassesOwn (model P w) (A.deeper (PyProof.Rows.envOfC "below" (defScope s_below) s.heap.objs.size (He.ga K "below") cdv)) (PyProof.Rows.envOfC "below" (defScope s_below) s.heap.objs.size (He.ga K "below") cdv) (cxOf (L2.CX P w) P w K mg base ["near", "far", "row", "some", "rest", "found", "k", "at"] "below" (defScope s_below) (He.ga K "below") cdv A outer s H E).xe := passes_of (X := cxOf (L2.CX P w) P w K mg base ["near", "far", "row", "some", "rest", "found", "k", "at"] "below" (defScope s_below) (He.ga K "below") cdv A outer s H E) rfl
  have hu1 := hu_of hr
  exact (s_cons (s_expr (m_call ok_look_room (hr.mono (by decide)) rfl T.g_look_room k_look_room b_look_room tk (m_cons (m_var 0 (pv 0)) m_nil)))
    (s_cons (s_expr (m_call ok_look_room (hr.mono (by decide)) rfl T.g_look_room k_look_room b_look_room tk (m_cons (m_var 1 (pv 1)) m_nil)))
    (s_cons (s_expr (m_call ok_look_row (hr.mono (by decide)) rfl T.g_look_row k_look_row b_look_row tk (m_cons (m_var 2 (pv 2)) m_nil)))
    (s_cons (s_set (i := 3) sc_below.nd rfl (by first | exact Or.inl rfl | exact Or.inr rfl) (m_call ok_run (hr.mono (by decide)) rfl T.g_run k_run b_run tk (m_cons m_str (m_cons (m_var 0 (pv 0)) (m_cons (m_var 2 (pv 2)) m_nil)))))
    (s_cons (s_set (i := 4) sc_below.nd rfl (by first | exact Or.inl rfl | exact Or.inr rfl) (m_call ok_run (hr.mono (by decide)) rfl T.g_run k_run b_run tk (m_cons m_str (m_cons (m_var 1 (pv 1)) (m_cons (m_frz (m_call ok_filtered (hr.mono (by decide)) rfl T.g_filtered k_filtered b_filtered tk (m_cons (m_var 0 (pv 0)) (m_cons (m_var 2 (pv 2)) m_nil)))) m_nil)))))
    (s_cons (s_set (i := 5) sc_below.nd rfl (by first | exact Or.inl rfl | exact Or.inr rfl) (m_lst m_nil))
    (s_cons (s_for (t := (.one 6)) rfl po rfl (i_range1 rfl T.z_range (m_cons (m_len rfl rfl T.z_len (m_var 2 (pv 2))) m_nil)) (pg_name (i := 6) sc_below.nd rfl (by first | exact Or.inl rfl | exact Or.inr rfl)) (s_cons (s_set (i := 7) sc_below.nd rfl (by first | exact Or.inl rfl | exact Or.inr rfl) (m_data (m_count rfl hr.units (m_frz (m_slice rfl sl_any (m_var 3 (pv 3)) p_none (p_some (m_var 6 (pv 6))))) (m_cons m_bl m_nil) rfl (fun h1 h2 h3 => pe_bm PySem.F.plainAttrs_list PySem.F.slot_list_count PySem.F.type_list_count h1 h2 h3))))
    (s_one (s_expr (m_mut rfl 5 k_app (pe_bm PySem.F.plainAttrs_list PySem.F.slot_list_append PySem.F.type_list_append mt_append (pv 5) (m_cons (m_ifE (m_test rfl (m_frz (m_idx rfl (m_var 3 (pv 3)) (m_var 6 (pv 6))))) m_str (m_ifE (m_test rfl (m_frz (m_idx rfl (m_var 4 (pv 4)) (m_var 7 (pv 7))))) m_str m_str)) m_nil)))))))
    (s_one (s_retO 5 (pv 5))))))))))
theorem ok__law_cell (T : Tx K mg) : ∃ fd, FnOk P w K mg base (L2.CX P w) 1 (He.ga K "_law_cell") fd ["script", "k"] (spF (bs K) 2 F__law_cell) ∧ Binds K fd ["script", "k"] [] ∧ PySem.W.keepIn K (.ref (He.ga K "_law_cell")) = true := by
  obtain ⟨fd, F⟩ := T.d__law_cell
  refine ⟨fd, fn_body F sc__law_cell (fun cdv A outer s H E hr => ?_), F.bindsN (fun _ _ _ _ _ _ us hl => match us, hl with | [_, _], _ => rfl), F.kp⟩
  have tk : Takes (cxOf (L2.CX P w) P w K mg base ["script", "k"] "_law_cell" (defScope s__law_cell) (He.ga K "_law_cell") cdv A outer s H E) (WF E) := takes_of rfl rfl rfl rfl
  have po : PassesOwn (model P w) (A.deeper (PyProof.Rows.envOfC "_law_cell" (defScope s__law_cell) s.heap.objs.size (He.ga K "_law_cell") cdv)) (PyProof.Rows.envOfC "_law_cell" (defScope s__law_cell) s.heap.objs.size (He.ga K "_law_cell") cdv) (cxOf (L2.CX P w) P w K mg base ["script", "k"] "_law_cell" (defScope s__law_cell) (He.ga K "_law_cell") cdv A outer s H E).xe := passes_of (X := cxOf (L2.CX P w) P w K mg base ["script", "k"] "_law_cell" (defScope s__law_cell) (He.ga K "_law_cell") cdv A outer s H E) rfl
  have hu1 := hu_of hr
  exact (s_cons (s_if (m_test rfl (m_var 0 (pv 0))) (s_one (s_ret (m_data (m_ixS rfl 0 (pv 0) (m_frz (m_mod (m_var 1 (pv 1)) (m_len rfl rfl T.z_len (m_var 0 (pv 0))))))))) s_nil)
    (s_one (s_ret (m_data m_int))))
theorem ok__law_mix (T : Tx K mg) : ∃ fd, FnOk P w K mg base (L2.CX P w) 2 (He.ga K "_law_mix") fd ["script", "k"] (spF (bs K) 2 F__law_mix) ∧ Binds K fd ["script", "k"] [] ∧ PySem.W.keepIn K (.ref (He.ga K "_law_mix")) = true := by
  obtain ⟨fd, F⟩ := T.d__law_mix
  obtain ⟨fd__law_cell, ok__law_cell, b__law_cell, k__law_cell⟩ := ok__law_cell (P := P) (w := w) (base := base) T
  refine ⟨fd, fn_body F sc__law_mix (fun cdv A outer s H E hr => ?_), F.bindsN (fun _ _ _ _ _ _ us hl => match us, hl with | [_, _], _ => rfl), F.kp⟩
  have tk : Takes (cxOf (L2.CX P w) P w K mg base ["script", "k", "number"] "_law_mix" (defScope s__law_mix) (He.ga K "_law_mix") cdv A outer s H E) (WF E) := takes_of rfl rfl rfl rfl
  have po : PassesOwn (model P w) (A.deeper (PyProof.Rows.envOfC "_law_mix" (defScope s__law_mix) s.heap.objs.size (He.ga K "_law_mix") cdv)) (PyProof.Rows.envOfC "_law_mix" (defScope s__law_mix) s.heap.objs.size (He.ga K "_law_mix") cdv) (cxOf (L2.CX P w) P w K mg base ["script", "k", "number"] "_law_mix" (defScope s__law_mix) (He.ga K "_law_mix") cdv A outer s H E).xe := passes_of (X := cxOf (L2.CX P w) P w K mg base ["script", "k", "number"] "_law_mix" (defScope s__law_mix) (He.ga K "_law_mix") cdv A outer s H E) rfl
  have hu1 := hu_of hr
  exact (s_cons (s_set (i := 2) sc__law_mix.nd rfl (by first | exact Or.inl rfl | exact Or.inr rfl) (m_mod (m_frz (m_add (m_frz (m_call ok__law_cell (hr.mono (by decide)) rfl T.g__law_cell k__law_cell b__law_cell tk (m_cons (m_var 0 (pv 0)) (m_cons (m_var 1 (pv 1)) m_nil)))) (m_frz (m_mul m_int (m_frz (m_add (m_var 1 (pv 1)) m_int)))))) m_int))
    (s_cons (s_set (i := 2) sc__law_mix.nd rfl (by first | exact Or.inl rfl | exact Or.inr rfl) (m_mod (m_frz (m_pow (m_var 2 (pv 2)) m_int)) m_int))
    (s_one (s_ret (m_mod (m_frz (m_add (m_frz (m_mul (m_frz (m_fdiv (m_var 2 (pv 2)) m_int)) m_int)) (m_var 2 (pv 2)))) m_int)))))
theorem ok__law_draw (T : Tx K mg) : ∃ fd, FnOk P w K mg base (L2.CX P w) 3 (He.ga K "_law_draw") fd ["script", "town", "many"] (spF (bs K) 3 F__law_draw) ∧ Binds K fd ["script", "town", "many"] [] ∧ PySem.W.keepIn K (.ref (He.ga K "_law_draw")) = true := by
  obtain ⟨fd, F⟩ := T.d__law_draw
  obtain ⟨fd__law_mix, ok__law_mix, b__law_mix, k__law_mix⟩ := ok__law_mix (P := P) (w := w) (base := base) T
  refine ⟨fd, fn_body F sc__law_draw (fun cdv A outer s H E hr => ?_), F.bindsN (fun _ _ _ _ _ _ us hl => match us, hl with | [_, _, _], _ => rfl), F.kp⟩
  have tk : Takes (cxOf (L2.CX P w) P w K mg base ["script", "town", "many"] "_law_draw" (defScope s__law_draw) (He.ga K "_law_draw") cdv A outer s H E) (WF E) := takes_of rfl rfl rfl rfl
  have po : PassesOwn (model P w) (A.deeper (PyProof.Rows.envOfC "_law_draw" (defScope s__law_draw) s.heap.objs.size (He.ga K "_law_draw") cdv)) (PyProof.Rows.envOfC "_law_draw" (defScope s__law_draw) s.heap.objs.size (He.ga K "_law_draw") cdv) (cxOf (L2.CX P w) P w K mg base ["script", "town", "many"] "_law_draw" (defScope s__law_draw) (He.ga K "_law_draw") cdv A outer s H E).xe := passes_of (X := cxOf (L2.CX P w) P w K mg base ["script", "town", "many"] "_law_draw" (defScope s__law_draw) (He.ga K "_law_draw") cdv A outer s H E) rfl
  have hu1 := hu_of hr
  exact (s_cons (s_expr (m_mut rfl 1 k_app (pe_bm PySem.F.plainAttrs_list PySem.F.slot_list_append PySem.F.type_list_append mt_append (pv 1) (m_cons m_int m_nil))))
    (s_one (s_ret (m_mod (m_frz (m_fdiv (m_frz (m_call ok__law_mix (hr.mono (by decide)) rfl T.g__law_mix k__law_mix b__law_mix tk (m_cons (m_var 0 (pv 0)) (m_cons (m_len rfl rfl T.z_len (m_var 1 (pv 1))) m_nil)))) m_int)) (m_var 2 (pv 2))))))
theorem ok__law_row (T : Tx K mg) : ∃ fd, FnOk P w K mg base (L2.CX P w) 4 (He.ga K "_law_row") fd ["script", "town", "most", "kinds"] (spF (bs K) 4 F__law_row) ∧ Binds K fd ["script", "town", "most", "kinds"] [] ∧ PySem.W.keepIn K (.ref (He.ga K "_law_row")) = true := by
  obtain ⟨fd, F⟩ := T.d__law_row
  obtain ⟨fd__law_draw, ok__law_draw, b__law_draw, k__law_draw⟩ := ok__law_draw (P := P) (w := w) (base := base) T
  refine ⟨fd, fn_body F sc__law_row (fun cdv A outer s H E hr => ?_), F.bindsN (fun _ _ _ _ _ _ us hl => match us, hl with | [_, _, _, _], _ => rfl), F.kp⟩
  have tk : Takes (cxOf (L2.CX P w) P w K mg base ["script", "town", "most", "kinds", "many", "found", "k", "name"] "_law_row" (defScope s__law_row) (He.ga K "_law_row") cdv A outer s H E) (WF E) := takes_of rfl rfl rfl rfl
  have po : PassesOwn (model P w) (A.deeper (PyProof.Rows.envOfC "_law_row" (defScope s__law_row) s.heap.objs.size (He.ga K "_law_row") cdv)) (PyProof.Rows.envOfC "_law_row" (defScope s__law_row) s.heap.objs.size (He.ga K "_law_row") cdv) (cxOf (L2.CX P w) P w K mg base ["script", "town", "most", "kinds", "many", "found", "k", "name"] "_law_row" (defScope s__law_row) (He.ga K "_law_row") cdv A outer s H E).xe := passes_of (X := cxOf (L2.CX P w) P w K mg base ["script", "town", "most", "kinds", "many", "found", "k", "name"] "_law_row" (defScope s__law_row) (He.ga K "_law_row") cdv A outer s H E) rfl
  have hu1 := hu_of hr
  exact (s_cons (s_set (i := 4) sc__law_row.nd rfl (by first | exact Or.inl rfl | exact Or.inr rfl) (m_add m_int (m_frz (m_call ok__law_draw (hr.mono (by decide)) rfl T.g__law_draw k__law_draw b__law_draw tk (m_cons (m_var 0 (pv 0)) (m_cons (m_var 1 (pv 1)) (m_cons (m_var 3 (pv 3)) m_nil)))))))
    (s_cons (s_set (i := 5) sc__law_row.nd rfl (by first | exact Or.inl rfl | exact Or.inr rfl) (m_lst m_nil))
    (s_cons (s_for (t := (.one 6)) rfl po rfl (i_range1 rfl T.z_range (m_cons (m_frz (m_call ok__law_draw (hr.mono (by decide)) rfl T.g__law_draw k__law_draw b__law_draw tk (m_cons (m_var 0 (pv 0)) (m_cons (m_var 1 (pv 1)) (m_cons (m_frz (m_add (m_var 2 (pv 2)) m_int)) m_nil))))) m_nil)) (pg_name (i := 6) sc__law_row.nd rfl (by first | exact Or.inl rfl | exact Or.inr rfl)) (s_cons (s_set (i := 7) sc__law_row.nd rfl (by first | exact Or.inl rfl | exact Or.inr rfl) (m_call ok__law_draw (hr.mono (by decide)) rfl T.g__law_draw k__law_draw b__law_draw tk (m_cons (m_var 0 (pv 0)) (m_cons (m_var 1 (pv 1)) (m_cons (m_var 4 (pv 4)) m_nil)))))
    (s_cons (s_if (PW.pt (m_and (m_tcmp (o_ne hr.units) (tells_two _) (m_var 5 (pv 5)) (m_frz (m_lst m_nil)) (nomark _)) (m_and1 (m_tcmp (o_eq hr.units) (tells_two _) (m_frz (m_call ok__law_draw (hr.mono (by decide)) rfl T.g__law_draw k__law_draw b__law_draw tk (m_cons (m_var 0 (pv 0)) (m_cons (m_var 1 (pv 1)) (m_cons m_int m_nil))))) m_int (nomark _))))) (s_one (s_set (i := 7) sc__law_row.nd rfl (by first | exact Or.inl rfl | exact Or.inr rfl) (m_idx rfl (m_var 5 (pv 5)) (m_frz (m_call ok__law_draw (hr.mono (by decide)) rfl T.g__law_draw k__law_draw b__law_draw tk (m_cons (m_var 0 (pv 0)) (m_cons (m_var 1 (pv 1)) (m_cons (m_len rfl rfl T.z_len (m_var 5 (pv 5))) m_nil)))))))) s_nil)
    (s_one (s_expr (m_mut rfl 5 k_app (pe_bm PySem.F.plainAttrs_list PySem.F.slot_list_append PySem.F.type_list_append mt_append (pv 5) (m_cons (m_var 7 (pv 7)) m_nil))))))))
    (s_one (s_retO 5 (pv 5))))))
theorem okF_law {fd : FuncData} (T : Tx K mg) (F : FunD K "law" "law" (defArgs s_law) (defBody s_law) (defScope s_law) [] [] (He.ga K "law") fd) : FnOk P w K mg base (L2.CX P w) 8 (He.ga K "law") fd ["script"] (spF (bs K) 1 F_law) := by
  obtain ⟨fd__law_draw, ok__law_draw, b__law_draw, k__law_draw⟩ := ok__law_draw (P := P) (w := w) (base := base) T
  obtain ⟨fd__law_row, ok__law_row, b__law_row, k__law_row⟩ := ok__law_row (P := P) (w := w) (base := base) T
  obtain ⟨fd_below, ok_below, b_below, k_below⟩ := ok_below (P := P) (w := w) (base := base) T
  obtain ⟨fd_levels, ok_levels, b_levels, k_levels⟩ := ok_levels (P := P) (w := w) (base := base) T
  refine fn_body F sc_law (fun cdv A outer s H E hr => ?_)
  have tk : Takes (cxOf (L2.CX P w) P w K mg base ["script", "town", "row", "near", "far", "found", "one", "other"] "law" (defScope s_law) (He.ga K "law") cdv A outer s H E) (WF E) := takes_of rfl rfl rfl rfl
  have po : PassesOwn (model P w) (A.deeper (PyProof.Rows.envOfC "law" (defScope s_law) s.heap.objs.size (He.ga K "law") cdv)) (PyProof.Rows.envOfC "law" (defScope s_law) s.heap.objs.size (He.ga K "law") cdv) (cxOf (L2.CX P w) P w K mg base ["script", "town", "row", "near", "far", "found", "one", "other"] "law" (defScope s_law) (He.ga K "law") cdv A outer s H E).xe := passes_of (X := cxOf (L2.CX P w) P w K mg base ["script", "town", "row", "near", "far", "found", "one", "other"] "law" (defScope s_law) (He.ga K "law") cdv A outer s H E) rfl
  have hu1 := hu_of hr
  exact (s_cons (s_set (i := 1) sc_law.nd rfl (by first | exact Or.inl rfl | exact Or.inr rfl) (m_lst m_nil))
    (s_cons (s_set (i := 2) sc_law.nd rfl (by first | exact Or.inl rfl | exact Or.inr rfl) (m_call ok__law_row (hr.mono (by decide)) rfl T.g__law_row k__law_row b__law_row tk (m_cons (m_var 0 (pv 0)) (m_cons (m_var 1 (pv 1)) (m_cons m_int (m_cons m_int m_nil))))))
    (s_cons (s_set (i := 3) sc_law.nd rfl (by first | exact Or.inl rfl | exact Or.inr rfl) (m_call ok__law_draw (hr.mono (by decide)) rfl T.g__law_draw k__law_draw b__law_draw tk (m_cons (m_var 0 (pv 0)) (m_cons (m_var 1 (pv 1)) (m_cons m_int m_nil)))))
    (s_cons (s_set (i := 4) sc_law.nd rfl (by first | exact Or.inl rfl | exact Or.inr rfl) (m_call ok__law_draw (hr.mono (by decide)) rfl T.g__law_draw k__law_draw b__law_draw tk (m_cons (m_var 0 (pv 0)) (m_cons (m_var 1 (pv 1)) (m_cons m_int m_nil)))))
    (s_cons (s_share 2 (s_set (i := 5) sc_law.nd rfl (by first | exact Or.inl rfl | exact Or.inr rfl) (m_call ok_levels (hr.mono (by decide)) rfl T.g_levels k_levels b_levels tk (m_cons (m_var 3 (pv 3)) (m_cons (m_var 4 (pv 4)) (m_cons (m_var 2 (pv 2)) m_nil))))))
    (s_cons (s_share 2 (s_if (PW.pt (m_or (m_tcmp (o_ne hr.units) (tells_two _) (m_count rfl hr.units (m_var 5 (pv 5)) (m_cons m_str m_nil) rfl (fun h1 h2 h3 => pe_bm PySem.F.plainAttrs_list PySem.F.slot_list_count PySem.F.type_list_count h1 h2 h3)) (m_count rfl hr.units (m_frz (m_call ok_levels (hr.mono (by decide)) rfl T.g_levels k_levels b_levels tk (m_cons (m_var 4 (pv 4)) (m_cons (m_var 3 (pv 3)) (m_cons (m_var 2 (pv 2)) m_nil))))) (m_cons m_str m_nil) rfl (fun h1 h2 h3 => pe_bm PySem.F.plainAttrs_list PySem.F.slot_list_count PySem.F.type_list_count h1 h2 h3)) (nomark _)) (m_or1 (m_tcmp (o_in hr.units) (tells_two _) m_str (m_frz (m_call ok_levels (hr.mono (by decide)) rfl T.g_levels k_levels b_levels tk (m_cons (m_var 3 (pv 3)) (m_cons m_int (m_cons (m_var 2 (pv 2)) m_nil))))) (by rfl))))) (s_one (s_ret (m_data m_bl))) s_nil))
    (s_cons (s_share 2 (s_share 5 (s_if (m_tcmp (o_ne hr.units) (tells_two _) (m_frz (m_lc (t := (.one 6)) rfl rfl rfl sc_law.nd (i_list rfl (m_frz (m_call ok_below (hr.mono (by decide)) rfl T.g_below k_below b_below tk (m_cons (m_var 3 (pv 3)) (m_cons (m_var 4 (pv 4)) (m_cons (m_var 2 (pv 2)) m_nil)))))) (blkOk_by (own := [("one", 6)]) (by kernel_rfl)) (fun _ _ _ _ _ => (pg_name (i := 6) sc_law.nd rfl (by first | exact Or.inl rfl | exact Or.inr rfl))) (fun _ _ _ _ _ => ts_nil) (fun _ _ _ _ _ => (m_eq hr.units rfl (m_var 6 (pv 6)) m_str)))) (m_frz (m_lc (t := (.one 6)) rfl rfl rfl sc_law.nd (i_list rfl (m_var 5 (pv 5))) (blkOk_by (own := [("one", 6)]) (by kernel_rfl)) (fun _ _ _ _ _ => (pg_name (i := 6) sc_law.nd rfl (by first | exact Or.inl rfl | exact Or.inr rfl))) (fun _ _ _ _ _ => ts_nil) (fun _ _ _ _ _ => (m_eq hr.units rfl (m_var 6 (pv 6)) m_str)))) (nomark _)) (s_one (s_ret (m_data m_bl))) s_nil)))
    (s_cons (s_share 2 (s_if (PW.pt (m_or (m_tcmp (o_ne hr.units) (tells_two _) (m_frz (m_call ok_below (hr.mono (by decide)) rfl T.g_below k_below b_below tk (m_cons m_int (m_cons (m_var 4 (pv 4)) (m_cons (m_var 2 (pv 2)) m_nil))))) (m_frz (m_call ok_levels (hr.mono (by decide)) rfl T.g_levels k_levels b_levels tk (m_cons m_int (m_cons (m_var 4 (pv 4)) (m_cons (m_var 2 (pv 2)) m_nil))))) (nomark _)) (m_or1 (m_tcmp (o_in hr.units) (tells_two _) m_str (m_frz (m_call ok_levels (hr.mono (by decide)) rfl T.g_levels k_levels b_levels tk (m_cons m_int (m_cons (m_var 4 (pv 4)) (m_cons (m_var 2 (pv 2)) m_nil))))) (by rfl))))) (s_one (s_ret (m_data m_bl))) s_nil))
    (s_cons (s_share 2 (s_if (m_tcmp op_lt t_lt (m_count rfl hr.units (m_frz (m_call ok_below (hr.mono (by decide)) rfl T.g_below k_below b_below tk (m_cons (m_var 3 (pv 3)) (m_cons (m_var 4 (pv 4)) (m_cons (m_var 2 (pv 2)) m_nil))))) (m_cons m_str m_nil) rfl (fun h1 h2 h3 => pe_bm PySem.F.plainAttrs_list PySem.F.slot_list_count PySem.F.type_list_count h1 h2 h3)) (m_count rfl hr.units (m_frz (m_call ok_levels (hr.mono (by decide)) rfl T.g_levels k_levels b_levels tk (m_cons (m_frz (m_max2 rfl rfl T.z_max (m_cons (m_var 3 (pv 3)) (m_cons (m_var 4 (pv 4)) m_nil)))) (m_cons (m_frz (m_min2 rfl rfl T.z_min (m_cons (m_var 3 (pv 3)) (m_cons (m_var 4 (pv 4)) m_nil)))) (m_cons (m_var 2 (pv 2)) m_nil))))) (m_cons m_str m_nil) rfl (fun h1 h2 h3 => pe_bm PySem.F.plainAttrs_list PySem.F.slot_list_count PySem.F.type_list_count h1 h2 h3)) (nomark _)) (s_one (s_ret (m_data m_bl))) s_nil))
    (s_cons (s_for (t := (.tup [6, 7])) rfl po rfl (i_list rfl (m_frz (m_lst (m_cons (m_tup (m_cons (m_frz (m_min2 rfl rfl T.z_min (m_cons m_int (m_cons (m_frz (m_add (m_var 3 (pv 3)) m_int)) m_nil)))) (m_cons (m_var 4 (pv 4)) m_nil))) (m_cons (m_tup (m_cons (m_var 3 (pv 3)) (m_cons (m_frz (m_min2 rfl rfl T.z_min (m_cons m_int (m_cons (m_frz (m_add (m_var 4 (pv 4)) m_int)) m_nil)))) m_nil))) m_nil))))) (pg_tup rfl (pgs_cons (pg_name (i := 6) sc_law.nd rfl (by first | exact Or.inl rfl | exact Or.inr rfl)) (pgs_cons (pg_name (i := 7) sc_law.nd rfl (by first | exact Or.inl rfl | exact Or.inr rfl)) pgs_nil))) (s_one (s_share 2 (s_if (m_tcmp op_gt t_gt (m_count rfl hr.units (m_frz (m_call ok_levels (hr.mono (by decide)) rfl T.g_levels k_levels b_levels tk (m_cons (m_var 6 (pv 6)) (m_cons (m_var 7 (pv 7)) (m_cons (m_var 2 (pv 2)) m_nil))))) (m_cons m_str m_nil) rfl (fun h1 h2 h3 => pe_bm PySem.F.plainAttrs_list PySem.F.slot_list_count PySem.F.type_list_count h1 h2 h3)) (m_count rfl hr.units (m_var 5 (pv 5)) (m_cons m_str m_nil) rfl (fun h1 h2 h3 => pe_bm PySem.F.plainAttrs_list PySem.F.slot_list_count PySem.F.type_list_count h1 h2 h3)) (nomark _)) (s_one (s_ret (m_data m_bl))) s_nil))))
    (s_one (s_ret (m_data m_bl)))))))))))))
end
/-! the head -/
def fa : List (Fg → Bool) := [fun K => He.Fa.ok K (.free "len"),
  fun K => He.Fa.ok K (.free "max"),
  fun K => He.Fa.ok K (.free "min"),
  fun K => He.Fa.ok K (.free "range"),
  fun K => He.Fa.ok K (.free "sorted"),
  fun K => He.Fa.ok K (.int "MOST_ASKS" 24),
  fun K => He.Fa.ok K (.int "MOST_NAME" 19),
  fun K => He.Fa.ok K (.int "MOST_ROOM" 12),
  fun K => He.Fa.ok K (.glo "RULES"),
  fun K => He.tupB K "RULES" [.str "last", .str "first", .str "old", .str "young", .str "far", .str "often"],
  fExc 0,
  fExc 1,
  fExc 2,
  fun K => He.Fa.ok K (.glo "look_name"),
  fun K => He.Fa.ok K (.glo "look_row"),
  fun K => He.Fa.ok K (.glo "look_room"),
  fun K => He.Fa.ok K (.glo "look_rule"),
  fun K => He.Fa.ok K (.glo "next_of"),
  fun K => He.Fa.ok K (.glo "last_of"),
  fun K => He.Fa.ok K (.glo "worth"),
  fun K => He.Fa.ok K (.glo "victim"),
  fun K => He.Fa.ok K (.glo "walk"),
  fun K => He.Fa.ok K (.glo "run"),
  fun K => He.Fa.ok K (.glo "levels"),
  fun K => He.Fa.ok K (.glo "filtered"),
  fun K => He.Fa.ok K (.glo "below"),
  fun K => He.Fa.ok K (.glo "_law_cell"),
  fun K => He.Fa.ok K (.glo "_law_mix"),
  fun K => He.Fa.ok K (.glo "_law_draw"),
  fun K => He.Fa.ok K (.glo "_law_row"),
  fun K => He.Fa.ok K (.glo "law")]
def fn : List He.DefD := [⟨("look_name", none), "look_name", "look_name", defArgs s_look_name, defBody s_look_name, defScope s_look_name, [], []⟩,
  ⟨("look_row", none), "look_row", "look_row", defArgs s_look_row, defBody s_look_row, defScope s_look_row, [], []⟩,
  ⟨("look_room", none), "look_room", "look_room", defArgs s_look_room, defBody s_look_room, defScope s_look_room, [], []⟩,
  ⟨("look_rule", none), "look_rule", "look_rule", defArgs s_look_rule, defBody s_look_rule, defScope s_look_rule, [], []⟩,
  ⟨("next_of", none), "next_of", "next_of", defArgs s_next_of, defBody s_next_of, defScope s_next_of, [], []⟩,
  ⟨("last_of", none), "last_of", "last_of", defArgs s_last_of, defBody s_last_of, defScope s_last_of, [], []⟩,
  ⟨("worth", none), "worth", "worth", defArgs s_worth, defBody s_worth, defScope s_worth, [], []⟩,
  ⟨("victim", none), "victim", "victim", defArgs s_victim, defBody s_victim, defScope s_victim, [], []⟩,
  ⟨("walk", none), "walk", "walk", defArgs s_walk, defBody s_walk, defScope s_walk, [], []⟩,
  ⟨("run", none), "run", "run", defArgs s_run, defBody s_run, defScope s_run, [], []⟩,
  ⟨("levels", none), "levels", "levels", defArgs s_levels, defBody s_levels, defScope s_levels, [], []⟩,
  ⟨("filtered", none), "filtered", "filtered", defArgs s_filtered, defBody s_filtered, defScope s_filtered, [], []⟩,
  ⟨("below", none), "below", "below", defArgs s_below, defBody s_below, defScope s_below, [], []⟩,
  ⟨("_law_cell", none), "_law_cell", "_law_cell", defArgs s__law_cell, defBody s__law_cell, defScope s__law_cell, [], []⟩,
  ⟨("_law_mix", none), "_law_mix", "_law_mix", defArgs s__law_mix, defBody s__law_mix, defScope s__law_mix, [], []⟩,
  ⟨("_law_draw", none), "_law_draw", "_law_draw", defArgs s__law_draw, defBody s__law_draw, defScope s__law_draw, [], []⟩,
  ⟨("_law_row", none), "_law_row", "_law_row", defArgs s__law_row, defBody s__law_row, defScope s__law_row, [], []⟩,
  ⟨("law", none), "law", "law", defArgs s_law, defBody s_law, defScope s_law, [], []⟩]
theorem tx {K : Fg} {h : Heap} {mg : Str → Option Value} (X : K.In h) (G : h.Ns mainGlobals mg) (c : SaysM fa fn K) : Tx K mg where
  z_len := He.free_ok X G (c.fact 0)
  z_max := He.free_ok X G (c.fact 1)
  z_min := He.free_ok X G (c.fact 2)
  z_range := He.free_ok X G (c.fact 3)
  z_sorted := He.free_ok X G (c.fact 4)
  c_MOST_ASKS := He.int_ok X G (c.fact 5)
  c_MOST_NAME := He.int_ok X G (c.fact 6)
  c_MOST_ROOM := He.int_ok X G (c.fact 7)
  g_RULES := He.glo_ok X G (c.fact 8)
  c_RULES := fun H => He.tupB_ok (c.fact 9) H
  x_BadRow := exFact X G (c.fact 10)
  x_BadRoom := exFact X G (c.fact 11)
  x_BadRule := exFact X G (c.fact 12)
  g_look_name := He.glo_ok X G (c.fact 13)
  g_look_row := He.glo_ok X G (c.fact 14)
  g_look_room := He.glo_ok X G (c.fact 15)
  g_look_rule := He.glo_ok X G (c.fact 16)
  g_next_of := He.glo_ok X G (c.fact 17)
  g_last_of := He.glo_ok X G (c.fact 18)
  g_worth := He.glo_ok X G (c.fact 19)
  g_victim := He.glo_ok X G (c.fact 20)
  g_walk := He.glo_ok X G (c.fact 21)
  g_run := He.glo_ok X G (c.fact 22)
  g_levels := He.glo_ok X G (c.fact 23)
  g_filtered := He.glo_ok X G (c.fact 24)
  g_below := He.glo_ok X G (c.fact 25)
  g__law_cell := He.glo_ok X G (c.fact 26)
  g__law_mix := He.glo_ok X G (c.fact 27)
  g__law_draw := He.glo_ok X G (c.fact 28)
  g__law_row := He.glo_ok X G (c.fact 29)
  g_law := He.glo_ok X G (c.fact 30)
  d_look_name := c.def_ 0
  d_look_row := c.def_ 1
  d_look_room := c.def_ 2
  d_look_rule := c.def_ 3
  d_next_of := c.def_ 4
  d_last_of := c.def_ 5
  d_worth := c.def_ 6
  d_victim := c.def_ 7
  d_walk := c.def_ 8
  d_run := c.def_ 9
  d_levels := c.def_ 10
  d_filtered := c.def_ 11
  d_below := c.def_ 12
  d__law_cell := c.def_ 13
  d__law_mix := c.def_ 14
  d__law_draw := c.def_ 15
  d__law_row := c.def_ 16
  d_law := c.def_ 17
abbrev R : PySem.W.OpenRow := PySem.W.OpenLaw.row PySem.Challenge.rw_allrooms_k62_whole_near_and_far
abbrev hk : PySem.W.Hook := hookM 5 fa fn
def ob (s : PySem.W.SharedT) : He.AlD := obsMG 5 fa fn (HandSHeadRun.getT s)
theorem ob_eq (s : PySem.W.SharedT) : ob s = hk.obs s.abs := obsMG_eq (HandSHeadRun.getT_eq s)
def loose : List Str := "RoomError" :: "BadRow" :: "BadRoom" :: "BadRule" :: "MOST_ASKS" :: "MOST_NAME" :: "MOST_ROOM" :: "look_name" :: "look_row" :: "look_room" :: "RULES" :: "look_rule" :: "next_of" :: "last_of" :: "worth" :: "victim" :: "walk" :: "run" :: "levels" :: "filtered" :: "below" :: "_law_cell" :: "_law_mix" :: "_law_draw" :: "_law_row" :: []
theorem run (w : World) : HandSHeadRun.RunEq R (PySem.W.view R.prog [30]) hk ob 4000 loose w := by
  intro os
  kernel_rfl
end K62
namespace K62
open PySem L2 G8
/-! law -/
def B_law_1 (v_row1 : (List Int)) (v_found4 : (List Str)) (x7 : (Int × Int)) (s8 : Unit) : T Nat (Lx (Unit) Bool) :=
  (bd (bd (bd (bd (rt x7.1) fun a => (bd (rt x7.2) fun b => (bd (rt v_row1) fun c => up (P_levels a b c)))) fun a => bd (rt ("none" : Str)) fun b => lo (some (cnt a b))) fun a => bd (bd (rt v_found4) fun a => bd (rt ("none" : Str)) fun b => lo (some (cnt a b))) fun b => lo (some (decide (b < a)))) fun k => if k then (bd (rt false) fun a => rt (Lx.out a)) else (rt (Lx.nx ())))
def P_law (ns : List Int) : T Nat Bool :=
  (bd (bd (rt (24 : Int)) fun a => (bd (rt (14 : Int)) fun b => P__law_row ns a b)) fun v_row1 => (bd (bd (rt (13 : Int)) (drawT ns)) fun v_near2 => (bd (bd (rt (13 : Int)) (drawT ns)) fun v_far3 => (bd (bd (rt v_near2) fun a => (bd (rt v_far3) fun b => (bd (rt v_row1) fun c => up (P_levels a b c)))) fun v_found4 => (bd (bd (bd (bd (rt v_found4) fun a => bd (rt ("none" : Str)) fun b => lo (some (cnt a b))) fun a => bd (bd (bd (rt v_far3) fun a => (bd (rt v_near2) fun b => (bd (rt v_row1) fun c => up (P_levels a b c)))) fun a => bd (rt ("none" : Str)) fun b => lo (some (cnt a b))) fun b => lo (some (!eqT a b))) fun a => if a then rt true else (bd (rt ("far" : Str)) fun a => bd (bd (rt v_near2) fun a => (bd (rt (0 : Int)) fun b => (bd (rt v_row1) fun c => up (P_levels a b c)))) fun b => lo (some (inL a b)))) fun k => if k then (bd (rt false) fun a => rt a) else (bd (bd (bd (bd (rt v_near2) fun a => (bd (rt v_far3) fun b => (bd (rt v_row1) fun c => up (P_below a b c)))) fun xs => cmpG xs fun (x5 : Str) => bd (rt true) fun b => if b then bd (bd (rt x5) fun a => bd (rt ("near" : Str)) fun b => lo (some (eqT a b))) fun y => rt (some y) else rt none) fun a => bd (bd (rt v_found4) fun xs => cmpG xs fun (x6 : Str) => bd (rt true) fun b => if b then bd (bd (rt x6) fun a => bd (rt ("near" : Str)) fun b => lo (some (eqT a b))) fun y => rt (some y) else rt none) fun b => lo (some (!eqT a b))) fun k => if k then (bd (rt false) fun a => rt a) else (bd (bd (bd (bd (rt (0 : Int)) fun a => (bd (rt v_far3) fun b => (bd (rt v_row1) fun c => up (P_below a b c)))) fun a => bd (bd (rt (0 : Int)) fun a => (bd (rt v_far3) fun b => (bd (rt v_row1) fun c => up (P_levels a b c)))) fun b => lo (some (!eqT a b))) fun a => if a then rt true else (bd (rt ("near" : Str)) fun a => bd (bd (rt (0 : Int)) fun a => (bd (rt v_far3) fun b => (bd (rt v_row1) fun c => up (P_levels a b c)))) fun b => lo (some (inL a b)))) fun k => if k then (bd (rt false) fun a => rt a) else (bd (bd (bd (bd (rt v_near2) fun a => (bd (rt v_far3) fun b => (bd (rt v_row1) fun c => up (P_below a b c)))) fun a => bd (rt ("none" : Str)) fun b => lo (some (cnt a b))) fun a => bd (bd (bd (bd (rt v_near2) fun a => bd (rt v_far3) fun b => lo (some (if b > a then b else a))) fun a => (bd (bd (rt v_near2) fun a => bd (rt v_far3) fun b => lo (some (if b < a then b else a))) fun b => (bd (rt v_row1) fun c => up (P_levels a b c)))) fun a => bd (rt ("none" : Str)) fun b => lo (some (cnt a b))) fun b => lo (some (decide (a < b)))) fun k => if k then (bd (rt false) fun a => rt a) else (bd (bd (bd (bd (bd (rt (12 : Int)) fun a => bd (bd (rt v_near2) fun a => bd (rt (1 : Int)) fun b => lo (some (a + b))) fun b => lo (some (if b < a then b else a))) fun a => bd (rt v_far3) fun b => rt (a, b)) fun a => bd (bd (bd (rt v_near2) fun a => bd (bd (rt (12 : Int)) fun a => bd (bd (rt v_far3) fun a => bd (rt (1 : Int)) fun b => lo (some (a + b))) fun b => lo (some (if b < a then b else a))) fun b => rt (a, b)) fun a => bd (rt ([] : List (Int × Int))) fun as => rt (a :: as)) fun as => rt (a :: as)) fun as => lo (if as.length ≤ 1000 then some as else none)) fun xs => bd (lpx (B_law_1 v_row1 v_found4) xs ()) (orK fun (s8 : Unit) => (bd (rt true) fun a => rt a)))))))))))
def E_law (ns : List Int) (t : Nat) : Ev := [some (.scr ns), some (.ls false (zr t)), none, none, none, none, none, none]
theorem keeps_by (k : ∀ ns : List Int, ns.length ≤ 63 → ∃ t, P_law ns 0 = .ok (true, t)) : Keeps F_law := by
  refine keeps_of (E := E_law) (m := P_law) (by decide) (fun _ _ => rfl) ?_ k
  intro ns
  show JS _ (fun (t : Nat) => [some (.scr ns), some (.ls false (zr t)), none, none, none, none, none, none]) (bd (bd (rt (24 : Int)) fun a => (bd (rt (14 : Int)) fun b => P__law_row ns a b)) fun v_row1 => (bd (bd (rt (13 : Int)) (drawT ns)) fun v_near2 => (bd (bd (rt (13 : Int)) (drawT ns)) fun v_far3 => (bd (bd (rt v_near2) fun a => (bd (rt v_far3) fun b => (bd (rt v_row1) fun c => up (P_levels a b c)))) fun v_found4 => (bd (bd (bd (bd (rt v_found4) fun a => bd (rt ("none" : Str)) fun b => lo (some (cnt a b))) fun a => bd (bd (bd (rt v_far3) fun a => (bd (rt v_near2) fun b => (bd (rt v_row1) fun c => up (P_levels a b c)))) fun a => bd (rt ("none" : Str)) fun b => lo (some (cnt a b))) fun b => lo (some (!eqT a b))) fun a => if a then rt true else (bd (rt ("far" : Str)) fun a => bd (bd (rt v_near2) fun a => (bd (rt (0 : Int)) fun b => (bd (rt v_row1) fun c => up (P_levels a b c)))) fun b => lo (some (inL a b)))) fun k => if k then (bd (rt false) fun a => rt a) else (bd (bd (bd (bd (rt v_near2) fun a => (bd (rt v_far3) fun b => (bd (rt v_row1) fun c => up (P_below a b c)))) fun xs => cmpG xs fun (x5 : Str) => bd (rt true) fun b => if b then bd (bd (rt x5) fun a => bd (rt ("near" : Str)) fun b => lo (some (eqT a b))) fun y => rt (some y) else rt none) fun a => bd (bd (rt v_found4) fun xs => cmpG xs fun (x6 : Str) => bd (rt true) fun b => if b then bd (bd (rt x6) fun a => bd (rt ("near" : Str)) fun b => lo (some (eqT a b))) fun y => rt (some y) else rt none) fun b => lo (some (!eqT a b))) fun k => if k then (bd (rt false) fun a => rt a) else (bd (bd (bd (bd (rt (0 : Int)) fun a => (bd (rt v_far3) fun b => (bd (rt v_row1) fun c => up (P_below a b c)))) fun a => bd (bd (rt (0 : Int)) fun a => (bd (rt v_far3) fun b => (bd (rt v_row1) fun c => up (P_levels a b c)))) fun b => lo (some (!eqT a b))) fun a => if a then rt true else (bd (rt ("near" : Str)) fun a => bd (bd (rt (0 : Int)) fun a => (bd (rt v_far3) fun b => (bd (rt v_row1) fun c => up (P_levels a b c)))) fun b => lo (some (inL a b)))) fun k => if k then (bd (rt false) fun a => rt a) else (bd (bd (bd (bd (rt v_near2) fun a => (bd (rt v_far3) fun b => (bd (rt v_row1) fun c => up (P_below a b c)))) fun a => bd (rt ("none" : Str)) fun b => lo (some (cnt a b))) fun a => bd (bd (bd (bd (rt v_near2) fun a => bd (rt v_far3) fun b => lo (some (if b > a then b else a))) fun a => (bd (bd (rt v_near2) fun a => bd (rt v_far3) fun b => lo (some (if b < a then b else a))) fun b => (bd (rt v_row1) fun c => up (P_levels a b c)))) fun a => bd (rt ("none" : Str)) fun b => lo (some (cnt a b))) fun b => lo (some (decide (a < b)))) fun k => if k then (bd (rt false) fun a => rt a) else (bd (bd (bd (bd (bd (rt (12 : Int)) fun a => bd (bd (rt v_near2) fun a => bd (rt (1 : Int)) fun b => lo (some (a + b))) fun b => lo (some (if b < a then b else a))) fun a => bd (rt v_far3) fun b => rt (a, b)) fun a => bd (bd (bd (rt v_near2) fun a => bd (bd (rt (12 : Int)) fun a => bd (bd (rt v_far3) fun a => bd (rt (1 : Int)) fun b => lo (some (a + b))) fun b => lo (some (if b < a then b else a))) fun b => rt (a, b)) fun a => bd (rt ([] : List (Int × Int))) fun as => rt (a :: as)) fun as => rt (a :: as)) fun as => lo (if as.length ≤ 1000 then some as else none)) fun xs => bd (lpx (B_law_1 v_row1 v_found4) xs ()) (orK fun (s8 : Unit) => (bd (rt true) fun a => rt a))))))))))) QW XT
  refine z_setL 2 (E' := (fun (v_row1 : (List Int)) (t : Nat) => [some (.scr ns), some (.ls false (zr t)), some (.ls false (v_row1.map Enc.enc)), none, none, none, none, none])) ?_ ?_ ?_ ?_ ?_
  · exact (j_draw2 ⟨fun _ => rfl, fun _ => rfl, fun _ _ => rfl⟩ (c__law_row ns) (j_c rfl) (j_c rfl))
  · exact (fun _ => trivial)
  · exact (fun _ => rfl)
  · exact (fun _ _ => rfl)
  intro v_row1
  refine z_setD 3 (E' := (fun (v_near2 : Int) (t : Nat) => [some (.scr ns), some (.ls false (zr t)), some (.ls false (v_row1.map Enc.enc)), some (.d (Enc.enc v_near2)), none, none, none, none])) ?_ ?_ ?_ ?_ ?_
  · exact (j_draw1 ⟨fun _ => rfl, fun _ => rfl, fun _ _ => rfl⟩ (c__law_draw ns) (j_c rfl))
  · exact (fun _ => trivial)
  · exact (fun _ => rfl)
  · exact (fun _ _ => rfl)
  intro v_near2
  refine z_setD 4 (E' := (fun (v_far3 : Int) (t : Nat) => [some (.scr ns), some (.ls false (zr t)), some (.ls false (v_row1.map Enc.enc)), some (.d (Enc.enc v_near2)), some (.d (Enc.enc v_far3)), none, none, none])) ?_ ?_ ?_ ?_ ?_
  · exact (j_draw1 ⟨fun _ => rfl, fun _ => rfl, fun _ _ => rfl⟩ (c__law_draw ns) (j_c rfl))
  · exact (fun _ => trivial)
  · exact (fun _ => rfl)
  · exact (fun _ _ => rfl)
  intro v_far3
  refine z_share 2 (E' := (fun (t : Nat) => [some (.scr ns), some (.ls false (zr t)), some (.d (Enc.enc v_row1)), some (.d (Enc.enc v_near2)), some (.d (Enc.enc v_far3)), none, none, none])) ?_ ?_
  · exact (fun _ => rfl)
  refine z_setL 5 (E' := (fun (v_found4 : (List Str)) (t : Nat) => [some (.scr ns), some (.ls false (zr t)), some (.d (Enc.enc v_row1)), some (.d (Enc.enc v_near2)), some (.d (Enc.enc v_far3)), some (.ls false (v_found4.map Enc.enc)), none, none])) ?_ ?_ ?_ ?_ ?_
  · exact (j_call3 c_levels (j_v 3 fun _ => rfl) (j_v 4 fun _ => rfl) (j_v 2 fun _ => rfl))
  · exact (fun _ => trivial)
  · exact (fun _ => rfl)
  · exact (fun _ _ => rfl)
  intro v_found4
  refine z_share 2 (E' := (fun (t : Nat) => [some (.scr ns), some (.ls false (zr t)), some (.d (Enc.enc v_row1)), some (.d (Enc.enc v_near2)), some (.d (Enc.enc v_far3)), some (.ls false (v_found4.map Enc.enc)), none, none])) ?_ ?_
  · exact (fun _ => rfl)
  refine z_ifE ?_ ?_ ?_ ?_
  · exact (j_or (j_cmpT (q_ne (by decide)) (JE.r (j_look (q_count (by decide)) (j_vl 5 fun _ => rfl) (JE.r (j_c rfl)))) (JE.r (j_look (q_count (by decide)) (JE.r (j_frzL (j_call3 c_levels (j_v 4 fun _ => rfl) (j_v 3 fun _ => rfl) (j_v 2 fun _ => rfl)))) (JE.r (j_c rfl))))) (j_cmpT (q_in (by decide)) (JE.r (j_c rfl)) (JE.r (j_frzL (j_call3 c_levels (j_v 3 fun _ => rfl) (j_c rfl) (j_v 2 fun _ => rfl))))))
  · exact (fun _ => trivial)
  ·
    refine z_ret (P := pD) (o := fun a => a) ?_ ?_ ?_
    · exact (j_data (j_c rfl))
    · exact (fun _ => trivial)
    · exact (fun a v t p => ⟨(fun z => by cases z), by cases p; rfl⟩)
  refine z_share 2 (E' := (fun (t : Nat) => [some (.scr ns), some (.ls false (zr t)), some (.d (Enc.enc v_row1)), some (.d (Enc.enc v_near2)), some (.d (Enc.enc v_far3)), some (.ls false (v_found4.map Enc.enc)), none, none])) ?_ ?_
  · exact (fun _ => rfl)
  refine z_share 5 (E' := (fun (t : Nat) => [some (.scr ns), some (.ls false (zr t)), some (.d (Enc.enc v_row1)), some (.d (Enc.enc v_near2)), some (.d (Enc.enc v_far3)), some (.d (Enc.enc v_found4)), none, none])) ?_ ?_
  · exact (fun _ => rfl)
  refine z_ifE ?_ ?_ ?_ ?_
  · exact (j_cmpT (q_ne (by decide)) (JE.r (j_frzL (j_lc (Ei := fun (x5 : Str) => (fun (t : Nat) => [some (.scr ns), some (.ls false (zr t)), some (.d (Enc.enc v_row1)), some (.d (Enc.enc v_near2)), some (.d (Enc.enc v_far3)), some (.d (Enc.enc v_found4)), some (.d (Enc.enc x5)), none])) (j_it (j_frzL (j_call3 c_below (j_v 3 fun _ => rfl) (j_v 4 fun _ => rfl) (j_v 2 fun _ => rfl)))) (fun t => any_1 rfl) (fun _ _ => rfl) (fun _ _ _ => rfl) (fun x5 => (J.ret rfl)) (fun x5 => (j_cmp (q_eq (by decide)) (JE.r (j_v 6 fun _ => rfl)) (JE.r (j_c rfl))))))) (JE.r (j_frzL (j_lc (Ei := fun (x6 : Str) => (fun (t : Nat) => [some (.scr ns), some (.ls false (zr t)), some (.d (Enc.enc v_row1)), some (.d (Enc.enc v_near2)), some (.d (Enc.enc v_far3)), some (.d (Enc.enc v_found4)), some (.d (Enc.enc x6)), none])) (j_it (j_v 5 fun _ => rfl)) (fun t => any_1 rfl) (fun _ _ => rfl) (fun _ _ _ => rfl) (fun x6 => (J.ret rfl)) (fun x6 => (j_cmp (q_eq (by decide)) (JE.r (j_v 6 fun _ => rfl)) (JE.r (j_c rfl))))))))
  · exact (fun _ => trivial)
  ·
    refine z_ret (P := pD) (o := fun a => a) ?_ ?_ ?_
    · exact (j_data (j_c rfl))
    · exact (fun _ => trivial)
    · exact (fun a v t p => ⟨(fun z => by cases z), by cases p; rfl⟩)
  refine z_share 2 (E' := (fun (t : Nat) => [some (.scr ns), some (.ls false (zr t)), some (.d (Enc.enc v_row1)), some (.d (Enc.enc v_near2)), some (.d (Enc.enc v_far3)), some (.d (Enc.enc v_found4)), none, none])) ?_ ?_
  · exact (fun _ => rfl)
  refine z_ifE ?_ ?_ ?_ ?_
  · exact (j_or (j_cmpT (q_ne (by decide)) (JE.r (j_frzL (j_call3 c_below (j_c rfl) (j_v 4 fun _ => rfl) (j_v 2 fun _ => rfl)))) (JE.r (j_frzL (j_call3 c_levels (j_c rfl) (j_v 4 fun _ => rfl) (j_v 2 fun _ => rfl))))) (j_cmpT (q_in (by decide)) (JE.r (j_c rfl)) (JE.r (j_frzL (j_call3 c_levels (j_c rfl) (j_v 4 fun _ => rfl) (j_v 2 fun _ => rfl))))))
  · exact (fun _ => trivial)
  ·
    refine z_ret (P := pD) (o := fun a => a) ?_ ?_ ?_
    · exact (j_data (j_c rfl))
    · exact (fun _ => trivial)
    · exact (fun a v t p => ⟨(fun z => by cases z), by cases p; rfl⟩)
  refine z_share 2 (E' := (fun (t : Nat) => [some (.scr ns), some (.ls false (zr t)), some (.d (Enc.enc v_row1)), some (.d (Enc.enc v_near2)), some (.d (Enc.enc v_far3)), some (.d (Enc.enc v_found4)), none, none])) ?_ ?_
  · exact (fun _ => rfl)
  refine z_ifE ?_ ?_ ?_ ?_
  · exact (j_cmpT q_lt (JE.r (j_look (q_count (by decide)) (JE.r (j_frzL (j_call3 c_below (j_v 3 fun _ => rfl) (j_v 4 fun _ => rfl) (j_v 2 fun _ => rfl)))) (JE.r (j_c rfl)))) (JE.r (j_look (q_count (by decide)) (JE.r (j_frzL (j_call3 c_levels (j_frzD (j_bi2 q_max2 (JE.r (j_v 3 fun _ => rfl)) (JE.r (j_v 4 fun _ => rfl)))) (j_frzD (j_bi2 q_min2 (JE.r (j_v 3 fun _ => rfl)) (JE.r (j_v 4 fun _ => rfl)))) (j_v 2 fun _ => rfl)))) (JE.r (j_c rfl)))))
  · exact (fun _ => trivial)
  ·
    refine z_ret (P := pD) (o := fun a => a) ?_ ?_ ?_
    · exact (j_data (j_c rfl))
    · exact (fun _ => trivial)
    · exact (fun a v t p => ⟨(fun z => by cases z), by cases p; rfl⟩)
  refine z_forX (tg := .tup [6, 7]) (s0 := ()) (fun (s8 : Unit) (j9 : Jk × Jk) (t : Nat) => [some (.scr ns), some (.ls false (zr t)), some (.d (Enc.enc v_row1)), some (.d (Enc.enc v_near2)), some (.d (Enc.enc v_far3)), some (.d (Enc.enc v_found4)), j9.1.1, j9.2.1]) (EB := (fun (x7 : (Int × Int)) (s8 : Unit) (j9 : Jk × Jk) (t : Nat) => [some (.scr ns), some (.ls false (zr t)), some (.d (Enc.enc v_row1)), some (.d (Enc.enc v_near2)), some (.d (Enc.enc v_far3)), some (.d (Enc.enc v_found4)), some (.d (Enc.enc x7.1)), some (.d (Enc.enc x7.2))])) ?_ ?_ (jk0, jk0) ?_ ?_ ?_ ?_
  · exact (j_it (j_frzL (j_lst (j_cons (j_tup2 (j_frzD (j_bi2 q_min2 (JE.r (j_c rfl)) (JE.r (j_frzD (j_bin q_addI (JE.r (j_v 3 fun _ => rfl)) (JE.r (j_c rfl))))))) (j_v 4 fun _ => rfl)) (j_cons (j_tup2 (j_v 3 fun _ => rfl) (j_frzD (j_bi2 q_min2 (JE.r (j_c rfl)) (JE.r (j_frzD (j_bin q_addI (JE.r (j_v 4 fun _ => rfl)) (JE.r (j_c rfl)))))))) j_nil)))))
  · exact (fun _ => trivial)
  · exact (fun t => rfl)
  · exact (fun x7 s8 j9 t => put_2 j9.1.2 rfl j9.2.2 rfl)
  · intro x7 s8 j9
    unfold B_law_1
    refine z_share 2 (E' := (fun (t : Nat) => [some (.scr ns), some (.ls false (zr t)), some (.d (Enc.enc v_row1)), some (.d (Enc.enc v_near2)), some (.d (Enc.enc v_far3)), some (.d (Enc.enc v_found4)), some (.d (Enc.enc x7.1)), some (.d (Enc.enc x7.2))])) ?_ ?_
    · exact (fun _ => rfl)
    refine z_if ?_ ?_ ?_ ?_
    · exact (j_cmpT q_gt (JE.r (j_look (q_count (by decide)) (JE.r (j_frzL (j_call3 c_levels (j_v 6 fun _ => rfl) (j_v 7 fun _ => rfl) (j_v 2 fun _ => rfl)))) (JE.r (j_c rfl)))) (JE.r (j_look (q_count (by decide)) (JE.r (j_v 5 fun _ => rfl)) (JE.r (j_c rfl)))))
    · exact (fun _ => trivial)
    ·
      refine z_ret (P := pD) (o := fun a => (Lx.out a)) ?_ ?_ ?_
      · exact (j_data (j_c rfl))
      · exact (fun _ => trivial)
      · exact (fun a v t p => ⟨⟨_, rfl⟩, by cases p; rfl⟩)
    ·
      refine z_pass ?_
      exact z_nil (fun t => ⟨.inl rfl, ((jkd (Enc.enc x7.1)), (jkd (Enc.enc x7.2))), rfl⟩)
  intro s8 j9
  refine z_last ?_
  refine z_ret (P := pD) (o := fun a => a) ?_ ?_ ?_
  · exact (j_data (j_c rfl))
  · exact (fun _ => trivial)
  · exact (fun a v t p => by cases p; rfl)
end K62
namespace K62
open PySem L2 G8
open Enc (enc dec)
theorem w1 : ¬ (Str.ofString "near" = Str.ofString "none") := by decide
theorem w2 : ¬ (Str.ofString "far" = Str.ofString "none") := by decide
theorem w3 : ¬ (Str.ofString "far" = Str.ofString "near") := by decide
theorem w4 : ¬ (Str.ofString "none" = Str.ofString "near") := by decide
theorem w5 : ¬ (Str.ofString "near" = Str.ofString "far") := by decide
theorem w6 : ¬ (Str.ofString "none" = Str.ofString "far") := by decide
theorem lvl_a {n f : Nat} {d : Int} (h : d ≤ n) : lvl n f (some d) = Str.ofString "near" := if_pos h
theorem lvl_b {n f : Nat} {d : Int} (h : ¬ d ≤ n) (k : d ≤ n + f) : lvl n f (some d) = Str.ofString "far" := (if_neg h).trans (if_pos k)
theorem lvl_c {n f : Nat} {d : Int} (k : ¬ d ≤ n + f) : lvl n f (some d) = Str.ofString "none" := (if_neg (by omega)).trans (if_neg k)
theorem over_t {n : Nat} {d : Int} (h : (n : Int) < d) : over n (some d) = true := decide_eq_true h
theorem over_f {n : Nat} {d : Int} (h : ¬ (n : Int) < d) : over n (some d) = false := decide_eq_false h
theorem lvl_none (n f : Nat) (d : Option Int) : decide (lvl n f d = Str.ofString "none") = over (n + f) d := by
  cases d with
  | none => exact decide_eq_true rfl
  | some d =>
    by_cases h1 : d ≤ n
    · rw [lvl_a h1, decide_eq_false w1, over_f (by omega)]
    · by_cases h2 : d ≤ n + f
      · rw [lvl_b h1 h2, decide_eq_false w2, over_f (by omega)]
      · rw [lvl_c h2, decide_eq_true rfl, over_t (by omega)]
theorem lvl_near (n f : Nat) (d : Option Int) : decide (lvl n f d = Str.ofString "near") = !over n d := by
  cases d with
  | none => exact decide_eq_false w4
  | some d =>
    by_cases h1 : d ≤ n
    · rw [lvl_a h1, decide_eq_true rfl, over_f (by omega)]
      rfl
    · rw [over_t (by omega)]
      by_cases h2 : d ≤ n + f
      · rw [lvl_b h1 h2, decide_eq_false w3]
        rfl
      · rw [lvl_c h2, decide_eq_false w4]
        rfl
theorem lvl_far0 (n : Nat) (d : Option Int) : ¬ Str.ofString "far" = lvl n 0 d := by
  cases d with
  | none => exact fun z => w6 z.symm
  | some d =>
    unfold lvl
    dsimp only
    by_cases h1 : d ≤ n
    · rw [if_pos h1]
      exact w3
    · rw [if_neg h1, if_neg (by omega)]
      exact w2
theorem lvl_near0 (f : Nat) (d : Option Int) (h : ∀ i, d = some i → 1 ≤ i) : ¬ Str.ofString "near" = lvl 0 f d := by
  cases d with
  | none => exact w1
  | some d =>
    have := h d rfl
    unfold lvl
    dsimp only
    rw [if_neg (by omega)]
    split
    · exact w5
    · exact w1
theorem blw_eq {n f : Nat} {row : List Int} {k : Nat} (hk : k < row.length) : blw n f row k = if over n (depL row k) = true then (if over f (dep1 (lru (fil n (row.take k))) row[k]) = true then Str.ofString "none" else Str.ofString "far") else Str.ofString "near" := by
  unfold blw
  simp only [List.getElem?_eq_getElem hk]
theorem blw_near (n f : Nat) (row : List Int) (k : Nat) : decide (blw n f row k = Str.ofString "near") = !over n (depL row k) := by
  by_cases h : over n (depL row k) = true
  · rw [h]
    refine decide_eq_false ?_
    unfold blw
    rw [if_pos h]
    generalize over f _ = b
    cases b
    · exact w3
    · exact w4
  · have e : blw n f row k = Str.ofString "near" := if_neg h
    rw [e, decide_eq_true rfl]
    simp at h
    rw [h]; rfl
theorem dep_pos {row : List Int} {d : Option Int} (h : d ∈ depsL row) : ∀ i, d = some i → 1 ≤ i := fun i e => by
  subst e
  have := (canGo_all (depsL row) 0 _ (canGo_deps row)).2 i h
  omega
theorem cnt_lvl (n f : Nat) (row : List Int) : cnt ((depsL row).map (lvl n f)) (Str.ofString "none") = (((depsL row).countP (over (n + f)) : Nat) : Int) := by
  unfold cnt
  rw [List.countP_map]
  congr 1
  refine List.countP_congr fun d _ => ?_
  show eqT (lvl n f d) _ = true ↔ _
  rw [eqT_s, lvl_none]
theorem over_mono {a b : Nat} (h : a ≤ b) (s : List (Option Int)) : s.countP (over b) ≤ s.countP (over a) := by
  refine List.countP_mono_left fun d _ k => ?_
  cases d with
  | none => rfl
  | some d =>
    unfold over at k ⊢
    simp at k ⊢
    omega
theorem blw_none {n f : Nat} {row : List Int} {k : Nat} (hk : k < row.length) (h : over (n + f) (depL row k) = true) : blw n f row k = Str.ofString "none" := by
  have e := depL_at hk
  have h1 : over n (depL row k) = true := by
    cases hd : depL row k with
    | none => rfl
    | some d =>
      rw [hd] at h
      unfold over at h ⊢
      simp at h ⊢
      omega
  unfold blw
  rw [if_pos h1, List.getElem?_eq_getElem hk]
  dsimp only
  refine if_pos ?_
  refine Classical.byContradiction fun z => ?_
  have hx : row[k] ∈ (lru (fil n (row.take k))).take f := by
    rw [mem_take_idx]
    unfold dep1 at z
    by_cases hx : row[k] ∈ lru (fil n (row.take k))
    · rw [if_pos hx] at z
      simp [over] at z
      exact ⟨hx, by omega⟩
    · rw [if_neg hx] at z
      simp [over] at z
  have h2 := far_sub n (row.take k) f row[k] hx
  rw [mem_take_idx] at h2
  rw [e] at h
  unfold dep1 at h
  rw [if_pos h2.1] at h
  simp [over] at h
  omega
theorem fil0 (row : List Int) : fil 0 row = row := by
  induction row using snocInd with
  | h0 => rfl
  | h1 xs x ih =>
    rw [fil_snoc, ih, if_pos]
    unfold dep1
    split
    · exact over_t (by omega)
    · rfl
theorem blw0 {f : Nat} {row : List Int} : (List.range row.length).map (blw 0 f row) = (depsL row).map (lvl 0 f) := by
  unfold depsL
  rw [List.map_map]
  refine List.map_congr_left fun k hk => ?_
  have hk := List.mem_range.mp hk
  have hp := dep_pos (row := row) (d := depL row k) (List.mem_map.mpr ⟨k, List.mem_range.mpr hk, rfl⟩)
  have e := depL_at hk
  show blw 0 f row k = lvl 0 f (depL row k)
  rw [blw_eq hk, fil0, ← e]
  cases hd : depL row k with
  | none => rfl
  | some d =>
    have := hp d hd
    rw [over_t (by omega), if_pos rfl]
    by_cases h : (f : Int) < d
    · rw [over_t h, if_pos rfl, lvl_c (by omega)]
    · rw [over_f h, if_neg (by decide), lvl_b (by omega) (by omega)]
theorem below_cnt (n f : Nat) (row : List Int) : (((depsL row).countP (over (n + f)) : Nat) : Int) ≤ cnt ((List.range row.length).map (blw n f row)) (Str.ofString "none") := by
  unfold cnt depsL
  rw [List.countP_map, List.countP_map]
  refine Int.ofNat_le.mpr (List.countP_mono_left fun k hk h => ?_)
  have hk := List.mem_range.mp hk
  show eqT (blw n f row k) _ = true
  rw [eqT_s, blw_none hk h]
  exact decide_eq_true rfl
theorem good (ns : List Int) : wp (P_law ns) 0 fun b _ => b = true := by
  unfold P_law
  simp only [bd_rt, bd_bd, List.length_cons, List.length_nil, Nat.zero_le, if_true, lo_some]
  refine wp_bd (wp_row (by decide) (by decide) (by decide) fun row t r1 r2 ht => ?_)
  have ok : okRow row := ⟨by simpa using r1, fun y hy => by have := r2 y hy; unfold okName; omega⟩
  have hl := ok.1
  refine wp_bd (wp_draw (by decide) (by omega) fun n n0 n1 => ?_)
  refine wp_bd (wp_draw (by decide) (by omega) fun f f0 f1 => ?_)
  obtain ⟨n, rfl⟩ : ∃ k : Nat, n = k := ⟨n.toNat, by omega⟩
  obtain ⟨f, rfl⟩ : ∃ k : Nat, f = k := ⟨f.toNat, by omega⟩
  have hn : n ≤ 12 := by omega
  have hf : f ≤ 12 := by omega
  have z0 : (0 : Int) = ((0 : Nat) : Int) := rfl
  have l1 := p_levels_ok ok n f hn hf
  have l2 := p_levels_ok ok f n hf hn
  have l3 := p_levels_ok ok n 0 hn (by decide)
  have l4 := p_levels_ok ok 0 f (by decide) hf
  have b1 := p_below_ok ok hn hf
  have b2 := p_below_ok ok (n := 0) (by decide) hf
  rw [← z0] at l3 l4 b2
  simp only [l1, l2, l3, l4, b1, b2, bd_up, cnt_lvl, Nat.add_comm f n, eqT_i, decide_true, Bool.not_true, Bool.false_eq_true, if_false, inL_s]
  rw [decide_eq_false (fun z => by
    obtain ⟨d, _, e⟩ := List.mem_map.mp z
    exact lvl_far0 n d e.symm), bd_rt, if_neg (by decide)]
  rw [cmpG_map (fun (x : Str) => eqT x (Str.ofString "near")) (by simp; omega) (fun _ _ => rfl), bd_rt]
  rw [cmpG_map (fun (x : Str) => eqT x (Str.ofString "near")) (by simp [depsL_len]; omega) (fun _ _ => rfl), bd_rt]
  have en : ((List.range row.length).map (blw n f row)).map (fun (x : Str) => eqT x (Str.ofString "near")) = ((depsL row).map (lvl n f)).map fun (x : Str) => eqT x (Str.ofString "near") := by
    unfold depsL
    rw [List.map_map, List.map_map, List.map_map]
    refine List.map_congr_left fun k _ => ?_
    show eqT (blw n f row k) _ = eqT (lvl n f (depL row k)) _
    rw [eqT_s, eqT_s, blw_near, lvl_near]
  rw [en, eqT_eq, decide_eq_true rfl, if_neg (by decide), blw0, eqT_eq, decide_eq_true rfl, if_neg (by decide)]
  rw [decide_eq_false (fun z => by
    obtain ⟨d, hd, e⟩ := List.mem_map.mp z
    exact lvl_near0 f d (dep_pos hd) e.symm), bd_rt, if_neg (by decide)]
  have emx : (if (f : Int) > n then (f : Int) else n) = ((max n f : Nat) : Int) := by split <;> omega
  have emn : (if (f : Int) < n then (f : Int) else n) = ((min n f : Nat) : Int) := by split <;> omega
  rw [emx, emn, p_levels_ok ok (max n f) (min n f) (by omega) (by omega), bd_up, cnt_lvl, show max n f + min n f = n + f by omega]
  have bc := below_cnt n f row
  rw [decide_eq_false (by omega), if_neg (by decide), if_pos (by decide), bd_lo]
  have e1 : (if (n : Int) + 1 < 12 then (n : Int) + 1 else 12) = ((min 12 (n + 1) : Nat) : Int) := by split <;> omega
  have e2 : (if (f : Int) + 1 < 12 then (f : Int) + 1 else 12) = ((min 12 (f + 1) : Nat) : Int) := by split <;> omega
  rw [e1, e2]
  have step : ∀ a b : Nat, a ≤ 12 → b ≤ 12 → n + f ≤ a + b → B_law_1 row ((depsL row).map (lvl n f)) ((a : Int), (b : Int)) () = rt (Lx.nx ()) := fun a b ha hb h => by
    have om := over_mono h (depsL row)
    unfold B_law_1
    simp only [bd_rt, bd_bd, p_levels_ok ok a b ha hb, bd_up, cnt_lvl, lo_some]
    rw [decide_eq_false (by omega), if_neg (by decide)]
  have lx : lpx (B_law_1 row ((depsL row).map (lvl n f))) [(((min 12 (n + 1) : Nat) : Int), (f : Int)), ((n : Int), ((min 12 (f + 1) : Nat) : Int))] () = rt (.inl ()) := by
    simp only [lpx, step (min 12 (n + 1)) f (by omega) hf (by omega), step n (min 12 (f + 1)) hn (by omega) (by omega), bd_rt]
  rw [lx, bd_rt]
  exact wp_rt rfl
theorem keeps : Keeps F_law := keeps_by fun ns _ => by
  obtain ⟨b, t, h, rfl⟩ := good ns
  exact ⟨t, h⟩
end K62
namespace K62
open PySem L2 G8
theorem facts {P : Program} {w : World} {K : PySem.W.Frag} {h : Heap} {mg : Str → Option Value} {f : Addr} (X : K.In h) (G : h.Ns mainGlobals mg) (hfa : mg ("law" : Str) = some (.ref f)) (c : SaysM fa fn K) :
    ∃ fd : FuncData, (∀ (s : Shared) (v : Value), BindsTo s fd ⟨[v], []⟩ [("script", v)]) ∧ ∀ base : Heap, K.In base → base.Ns mainGlobals mg → FnOk P w K mg base CX0 8 f fd ["script"] (spLaw K) := by
  have T := tx X G c
  have e := hfa.symm.trans T.g_law
  cases e
  obtain ⟨fd, F⟩ := T.d_law
  have b := FunD.bindsA (ps := ["script"]) F fun _ _ _ _ _ _ us hl => match us, hl with | [_], _ => rfl
  refine ⟨fd, fun s v => b s [v] rfl, fun base _ _ => ?_⟩
  exact law_end keeps (okF_law (P := P) (w := w) (base := base) T F)
end K62
open PySem PySem.W PySem.Calls PyProof.Rows
theorem PySem.Challenge.cw_allrooms_k62_whole_near_and_far_holds : PySem.Challenge.rw_allrooms_k62_whole_near_and_far.Holds := by
  w_on; o_law
  refine HandSHeadRun.head_any (r := OpenLaw.row PySem.Challenge.rw_allrooms_k62_whole_near_and_far) (q := view (OpenLaw.row PySem.Challenge.rw_allrooms_k62_whole_near_and_far).prog [30]) (H := K62.hk) (ob := K62.ob) (M := 4000) (loose := K62.loose) (d := HandSHeadRun.topDef (OpenLaw.row PySem.Challenge.rw_allrooms_k62_whole_near_and_far).prog 30) (kwd := []) K62.ob_eq
    (by kernel_rfl) (fun s => by kernel_rfl) K62.run (by kernel_rfl) (by kernel_rfl) (by kernel_rfl) (by rfl) (by first | assumption | decide +kernel) (by decide +kernel) ⟨rfl, rfl, rfl, rfl, rfl, by decide +kernel⟩ ?hw ?hc
  case hw => w_witness2
  case hc =>
    refine L2.walk_ofE (l := PySem.Challenge.rw_allrooms_k62_whole_near_and_far) (n := 63) (k := 8) (x := "script") (CX := L2.CX0) rfl (by decide) (by kernel_rfl) ⟨rfl, by decide, by decide⟩ ?F (fun _ _ _ _ z => z)
    intro w mg fa h Y G hmg0
    obtain ⟨K, KX, c⟩ := Y
    have hmg : mg ("law" : PySem.Str) = some (.ref fa) := by
      have e : (HandSHeadRun.topDef (OpenLaw.row PySem.Challenge.rw_allrooms_k62_whole_near_and_far).prog 30).name = ("law" : PySem.Str) := by kernel_rfl
      rw [← e]
      exact hmg0
    obtain ⟨fd, hb, hF⟩ := K62.facts (P := (PySem.Challenge.rw_allrooms_k62_whole_near_and_far).prog) (w := w) KX G hmg c
    exact ⟨K, fd, G8.spLaw K, KX, hb, fun H a ns hl _ hS => ⟨a, ns, rfl, hl, hS, fun _ => rfl⟩, hF⟩
