import PyProof.Rows.All
import Wide.All
import OpenK.AllK
import Wide.FinOn
import HandS.ForMost
import HandS.ForExc
import HandS.Deep
import HandS.Flow
import HandS.Defaults
import HandS.Lambda
import KE.DataEq
import KE.DataFind
import KE.DataMinMax
import KE.SortData
import KE.DataCmp
import HandS.More
import HandS.Strs
import HandS.ExcIs
import HandS.TryOnly
import KE.KStateDown
import Lean
import HandS.Head0
import HandS.Head1
import HandS.Head2
import HandS.HeadEnd
import HandS.HeadHook1
import HandS.HeadHook2
import HandS.HeadHook4
import HandS.HeadWalk
import HandS.Conv
import HandS.Style
import KE.KDictList
import KE.KDictSum
import HandS.SortInts
import PyProof.RangeFor
import HandS.TupSets
import PyProof.Rows.CallKwBuiltin
import KE.SortKeyHeap
import KE.KSortKey
import HandS.DictTup
import HandS.TupAny
import PySem.Challenge.RW_allrooms_k70_whole_meters
set_option Elab.async false
set_option linter.all false
set_option maxRecDepth 100000
set_option maxHeartbeats 4000000
namespace G8
open PySem L2
abbrev Dt := PyData
abbrev Fg := PySem.W.Frag
/-- a tuple of the ground, or one of the text's constants, which begin with a text -/
def TupK (K : Fg) (G : Hp) (a : Addr) (xs : List V) : Prop := G a = some (.tup xs) ∨ (SqT K (fun _ => none) a xs ∧ ∃ (x : Str) (r : List V), xs = V.str x :: r)
mutual
inductive Rp (K : Fg) (G : Hp) : V → Dt → Prop
  | non : Rp K G .non .none
  | bl (b : Bool) : Rp K G (.bl b) (.bool b)
  | int (i : Int) : Rp K G (.int i) (.int i)
  | str (x : Str) : Rp K G (.str x) (.str x)
  | lst {a : Addr} {xs : List V} {ds : List Dt} : G a = some (.lst xs) → Rps K G xs ds → Rp K G (.ref a) (.list ds)
  | tup {a : Addr} {xs : List V} {ds : List Dt} : TupK K G a xs → Rps K G xs ds → Rp K G (.ref a) (.tuple ds)
inductive Rps (K : Fg) (G : Hp) : List V → List Dt → Prop
  | nil : Rps K G [] []
  | cons {v : V} {d : Dt} {vs : List V} {ds : List Dt} : Rp K G v d → Rps K G vs ds → Rps K G (v :: vs) (d :: ds)
end
/-- a mark: an object that is another thing's own -/
def isMk : HO → Bool
  | .rng _ _ => true
  | _ => false
def mkO : HO := .rng 0 0
/-- the same but for marks -/
def SameG (G H : Hp) : Prop := ∀ a o, G a = some o → isMk o = false → H a = some o
theorem sg {G H : Hp} (e : Same G H) : SameG G H := fun a o h _ => e a o h
theorem SameG.tr {G G' H : Hp} (e : Same G G') (h : SameG G' H) : SameG G H := fun a o q m => h a o (e a o q) m
theorem SameG.seq {K : Fg} {H H' : Hp} {a : Addr} {xs : List V} (e : SameG H H') (h : SqL K H a xs) : SqL K H' a xs := by
  rcases h with (h | ⟨o, h⟩) | h
  · exact .inl (.inl (e _ _ h rfl))
  · exact .inl (.inr ⟨o, e _ _ h rfl⟩)
  · exact .inr h
theorem same_sqT {K : Fg} {H H' : Hp} {a : Addr} {xs : List V} (e : SameG H H') (h : SqT K H a xs) : SqT K H' a xs := by
  rcases h with (h | ⟨o, h⟩) | h
  · exact .inl (.inl (e _ _ h rfl))
  · exact .inl (.inr ⟨o, e _ _ h rfl⟩)
  · exact .inr h
theorem TupK.mono {K : Fg} {H H' : Hp} {a : Addr} {xs : List V} (e : SameG H H') (h : TupK K H a xs) : TupK K H' a xs := by
  rcases h with h | h
  · exact .inl (e _ _ h rfl)
  · exact .inr h
theorem TupK.sq {K : Fg} {H : Hp} {a : Addr} {xs : List V} (h : TupK K H a xs) : SqT K H a xs := by
  rcases h with h | h
  · exact SqT.of h
  · exact same_sqT (fun _ _ z _ => by cases z) h.1
section
variable {K : Fg} {G G' : Hp}
mutual
theorem Rp.monoG (e : SameG G G') : ∀ (d : Dt) (v : V), Rp K G v d → Rp K G' v d
  | .none, _, h => by cases h; exact .non
  | .bool b, _, h => by cases h; exact .bl b
  | .int i, _, h => by cases h; exact .int i
  | .str x, _, h => by cases h; exact .str x
  | .list ds, _, h => by
    cases h with
    | lst h1 h2 => exact .lst (e _ _ h1 rfl) (Rps.monoG e ds _ h2)
  | .tuple ds, _, h => by
    cases h with
    | tup h1 h2 => exact .tup (h1.mono e) (Rps.monoG e ds _ h2)
  | .dict _, _, h => by cases h
theorem Rps.monoG (e : SameG G G') : ∀ (ds : List Dt) (vs : List V), Rps K G vs ds → Rps K G' vs ds
  | [], _, h => by cases h; exact .nil
  | d :: ds, _, h => by
    cases h with
    | cons h1 h2 => exact .cons (Rp.monoG e d _ h1) (Rps.monoG e ds _ h2)
end
theorem Rp.mono (e : Same G G') (d : Dt) (v : V) (h : Rp K G v d) : Rp K G' v d := Rp.monoG (sg e) d v h
theorem Rps.mono (e : Same G G') (ds : List Dt) (vs : List V) (h : Rps K G vs ds) : Rps K G' vs ds := Rps.monoG (sg e) ds vs h
mutual
theorem Rp.dp : ∀ (d : Dt) (v : V), Rp K G v d → Dp K G v d
  | .none, _, h => by cases h; exact .non
  | .bool b, _, h => by cases h; exact .bl b
  | .int i, _, h => by cases h; exact .int i
  | .str x, _, h => by cases h; exact .str x
  | .list ds, _, h => by
    cases h with
    | lst h1 h2 => exact .lst (SqL.of h1) (Rps.dp ds _ h2)
  | .tuple ds, _, h => by
    cases h with
    | tup h1 h2 => exact .tup h1.sq (Rps.dp ds _ h2)
  | .dict _, _, h => by cases h
theorem Rps.dp : ∀ (ds : List Dt) (vs : List V), Rps K G vs ds → DpAll K G vs ds
  | [], _, h => by cases h; exact .nil
  | d :: ds, _, h => by
    cases h with
    | cons h1 h2 => exact .cons (Rp.dp d _ h1) (Rps.dp ds _ h2)
end
theorem Rps.length : ∀ {vs : List V} {ds : List Dt}, Rps K G vs ds → vs.length = ds.length
  | _, [], h => by cases h; rfl
  | _, d :: ds, h => by
    cases h with
    | cons h1 h2 => rw [List.length_cons, List.length_cons, h2.length]
theorem Rps.get : ∀ {vs : List V} {ds : List Dt} {i : Nat} {d : Dt}, Rps K G vs ds → ds[i]? = some d → ∃ v, vs[i]? = some v ∧ Rp K G v d
  | _, [], _, _, _, e => by simp at e
  | _, d :: ds, 0, x, h, e => by
    cases h with
    | cons h1 h2 =>
      simp at e
      subst e
      exact ⟨_, rfl, h1⟩
  | _, d :: ds, i + 1, x, h, e => by
    cases h with
    | cons h1 h2 =>
      obtain ⟨v, q, r⟩ := Rps.get (i := i) (d := x) h2 (by simpa using e)
      exact ⟨v, by simpa using q, r⟩
theorem Rps.getV {vs : List V} {ds : List Dt} {i : Nat} {v : V} (h : Rps K G vs ds) (e : vs[i]? = some v) : ∃ d, ds[i]? = some d ∧ Rp K G v d := by
  have hi : i < vs.length := (List.getElem?_eq_some_iff.mp e).1
  rw [h.length] at hi
  obtain ⟨u, q, r⟩ := h.get (List.getElem?_eq_getElem hi)
  rw [e] at q
  cases q
  exact ⟨_, List.getElem?_eq_getElem hi, r⟩
theorem Rps.append : ∀ {vs ws : List V} {ds es : List Dt}, Rps K G vs ds → Rps K G ws es → Rps K G (vs ++ ws) (ds ++ es)
  | _, _, [], _, h, g => by cases h; exact g
  | _, _, d :: ds, _, h, g => by
    cases h with
    | cons h1 h2 => exact .cons h1 (h2.append g)
theorem Rps.set {v : V} {d : Dt} (r : Rp K G v d) : ∀ {vs : List V} {ds : List Dt} (i : Nat), Rps K G vs ds → Rps K G (vs.set i v) (ds.set i d)
  | _, [], _, h => by cases h; exact .nil
  | _, _ :: _, 0, h => by
    cases h with
    | cons h1 h2 => exact .cons r h2
  | _, _ :: _, i + 1, h => by
    cases h with
    | cons h1 h2 => exact .cons h1 (Rps.set r i h2)
theorem Rps.take : ∀ {vs : List V} {ds : List Dt} (n : Nat), Rps K G vs ds → Rps K G (vs.take n) (ds.take n)
  | _, [], n, h => by cases h; rw [List.take_nil, List.take_nil]; exact .nil
  | _, _ :: _, 0, h => by rw [List.take_zero, List.take_zero]; exact .nil
  | _, _ :: _, n + 1, h => by
    cases h with
    | cons h1 h2 => exact .cons h1 (Rps.take n h2)
theorem Rps.drop : ∀ {vs : List V} {ds : List Dt} (n : Nat), Rps K G vs ds → Rps K G (vs.drop n) (ds.drop n)
  | _, [], n, h => by cases h; rw [List.drop_nil, List.drop_nil]; exact .nil
  | _, _ :: _, 0, h => h
  | _, _ :: _, n + 1, h => by
    cases h with
    | cons h1 h2 => exact Rps.drop n h2
theorem Rps.erase : ∀ {vs : List V} {ds : List Dt} (n : Nat), Rps K G vs ds → Rps K G (vs.eraseIdx n) (ds.eraseIdx n)
  | _, [], n, h => by cases h; exact .nil
  | _, _ :: _, 0, h => by
    cases h with
    | cons h1 h2 => exact h2
  | _, _ :: _, n + 1, h => by
    cases h with
    | cons h1 h2 => exact .cons h1 (Rps.erase n h2)
theorem Rps.rev {vs : List V} {ds : List Dt} (h : Rps K G vs ds) : Rps K G vs.reverse ds.reverse := by
  induction ds generalizing vs with
  | nil => cases h; exact .nil
  | cons d ds ih =>
    cases h with
    | cons h1 h2 =>
      rw [List.reverse_cons, List.reverse_cons]
      exact (ih h2).append (.cons h1 .nil)
theorem Rps.rep {vs : List V} {ds : List Dt} (h : Rps K G vs ds) : ∀ k : Nat, Rps K G (List.replicate k vs).flatten (List.replicate k ds).flatten
  | 0 => .nil
  | k + 1 => by
    rw [List.replicate_succ, List.replicate_succ, List.flatten_cons, List.flatten_cons]
    exact h.append (Rps.rep h k)
theorem Rps.one {v : V} {d : Dt} (r : Rp K G v d) : Rps K G [v] [d] := .cons r .nil
theorem Rps.ints : ∀ {ns : List Int} {vs : List V}, Rps K G vs (ns.map PyData.int) → vs = ns.map V.int
  | [], _, h => by cases h; rfl
  | n :: ns, _, h => by
    cases h with
    | cons h1 h2 =>
      cases h1
      rw [Rps.ints h2]
      rfl
theorem Rps.of_ints : ∀ ns : List Int, Rps K G (ns.map V.int) (ns.map PyData.int)
  | [] => .nil
  | n :: ns => .cons (.int n) (Rps.of_ints ns)
theorem Rps.bools : ∀ {bs : List Bool} {vs : List V}, Rps K G vs (bs.map PyData.bool) → vs = bs.map V.bl
  | [], _, h => by cases h; rfl
  | n :: ns, _, h => by
    cases h with
    | cons h1 h2 =>
      cases h1
      rw [Rps.bools h2]
      rfl
theorem Rps.strs : ∀ {bs : List Str} {vs : List V}, Rps K G vs (bs.map PyData.str) → vs = bs.map V.str
  | [], _, h => by cases h; rfl
  | n :: ns, _, h => by
    cases h with
    | cons h1 h2 =>
      cases h1
      rw [Rps.strs h2]
      rfl
end
end G8
namespace G8
open PySem L2
/-! slots, outcomes, the invariant -/
/-- a meter: its names, what it told, what was ahead -/
structure Ms where
  names : List Int
  told : List (Option Int)
  past : List (List Int × List (Option Int))
def vO : Option Int → V
  | none => .non
  | some i => .int i
/-- what was ahead: tuples of two lists each -/
inductive Pasts (H : Hp) : List V → List (List Int × List (Option Int)) → List Addr → Prop
  | nil : Pasts H [] [] []
  | cons {t l m : Addr} {q : List Int × List (Option Int)} {vs : List V} {qs : List (List Int × List (Option Int))} {z : List Addr} : H t = some (.tup [.ref l, .ref m]) → H l = some (.lst (q.1.map V.int)) → H m = some (.lst (q.2.map vO)) → Pasts H vs qs z → Pasts H (.ref t :: vs) (q :: qs) (l :: m :: z)
def mf (a b c : Addr) : List (Str × V) := [("names", .ref a), ("told", .ref b), ("past", .ref c)]
structure MAt (C : Addr) (H : Hp) (p dx a b c : Addr) (m : Ms) (vs : List V) (z : List Addr) : Prop where
  ins : H p = some (.ins C dx (mf a b c))
  na : H a = some (.lst (m.names.map V.int))
  to : H b = some (.lst (m.told.map vO))
  pa : H c = some (.lst vs)
  ps : Pasts H vs m.past z
  nd : (a :: b :: c :: z).Nodup
def MeterAt (C : Addr) (H : Hp) (p : Addr) (m : Ms) (Z : List Addr) : Prop := ∃ dx a b c vs z, MAt C H p dx a b c m vs z ∧ Z = a :: b :: c :: z
theorem Pasts.keep {H H' : Hp} : ∀ {vs : List V} {qs : List (List Int × List (Option Int))} {z : List Addr}, Pasts H vs qs z → (∀ a o, (a ∈ z ∨ ∃ xs, o = .tup xs) → H a = some o → H' a = some o) → Pasts H' vs qs z
  | _, [], _, h, k => by cases h; exact .nil
  | _, q :: qs, _, h, k => by
    cases h with
    | cons h1 h2 h3 h4 => exact .cons (k _ _ (.inr ⟨_, rfl⟩) h1) (k _ _ (.inl (by simp)) h2) (k _ _ (.inl (by simp)) h3) (h4.keep fun a o ha => k a o (by
      rcases ha with ha | ha
      · exact .inl (List.mem_cons_of_mem _ (List.mem_cons_of_mem _ ha))
      · exact .inr ha))
theorem Pasts.uniq {H : Hp} : ∀ {vs : List V} {qs qs' : List (List Int × List (Option Int))} {z z' : List Addr}, Pasts H vs qs z → Pasts H vs qs' z' → z = z'
  | _, [], _, _, _, h, h' => by cases h; cases h'; rfl
  | _, q :: qs, qs', _, _, h, h' => by
    cases h with
    | cons h1 h2 h3 h4 =>
      cases h' with
      | cons g1 g2 g3 g4 =>
        rw [h1] at g1
        cases g1
        rw [h4.uniq g4]
theorem Pasts.lsts {H : Hp} : ∀ {vs : List V} {qs : List (List Int × List (Option Int))} {z : List Addr}, Pasts H vs qs z → ∀ q ∈ z, ∃ xs, H q = some (.lst xs)
  | _, [], _, h, _, m => by cases h; cases m
  | _, q :: qs, _, h, x, m => by
    cases h with
    | cons h1 h2 h3 h4 =>
      rcases List.mem_cons.mp m with rfl | m
      · exact ⟨_, h2⟩
      · rcases List.mem_cons.mp m with rfl | m
        · exact ⟨_, h3⟩
        · exact h4.lsts x m
theorem MeterAt.keep {C : Addr} {H H' : Hp} {p : Addr} {m : Ms} {Z : List Addr} (h : MeterAt C H p m Z) (k : ∀ a o, (a = p ∨ a ∈ Z ∨ ∃ xs, o = .tup xs) → H a = some o → H' a = some o) : MeterAt C H' p m Z := by
  obtain ⟨dx, a, b, c, vs, z, h, rfl⟩ := h
  refine ⟨dx, a, b, c, vs, z, ⟨k _ _ (.inl rfl) h.ins, k _ _ (.inr (.inl (by simp))) h.na, k _ _ (.inr (.inl (by simp))) h.to, k _ _ (.inr (.inl (by simp))) h.pa, h.ps.keep fun a o ha => k a o ?_, h.nd⟩, rfl⟩
  rcases ha with ha | ha
  · exact .inr (.inl (by simp [ha]))
  · exact .inr (.inr ha)
theorem MeterAt.uniq {C C' : Addr} {H : Hp} {p : Addr} {m m' : Ms} {Z Z' : List Addr} (h : MeterAt C H p m Z) (h' : MeterAt C' H p m' Z') : Z = Z' := by
  obtain ⟨dx, a, b, c, vs, z, h, rfl⟩ := h
  obtain ⟨dx', a', b', c', vs', z', h', rfl⟩ := h'
  have e := h.ins
  rw [h'.ins] at e
  unfold mf at e
  simp only [Option.some.injEq, HO.ins.injEq, List.cons.injEq, Prod.mk.injEq, V.ref.injEq, true_and, and_true] at e
  obtain ⟨_, _, rfl, rfl, rfl⟩ := e
  have e2 := h.pa
  rw [h'.pa] at e2
  cases e2
  rw [h.ps.uniq h'.ps]
theorem MeterAt.lsts {C : Addr} {H : Hp} {p : Addr} {m : Ms} {Z : List Addr} (h : MeterAt C H p m Z) : ∀ q ∈ Z, ∃ xs, H q = some (.lst xs) := by
  obtain ⟨dx, a, b, c, vs, z, h, rfl⟩ := h
  intro q hq
  rcases List.mem_cons.mp hq with rfl | hq
  · exact ⟨_, h.na⟩
  · rcases List.mem_cons.mp hq with rfl | hq
    · exact ⟨_, h.to⟩
    · rcases List.mem_cons.mp hq with rfl | hq
      · exact ⟨_, h.pa⟩
      · exact h.ps.lsts q hq
theorem MeterAt.main {C : Addr} {H : Hp} {p : Addr} {m : Ms} {Z : List Addr} (h : MeterAt C H p m Z) : ∃ dx fs, H p = some (.ins C dx fs) := by
  obtain ⟨dx, a, b, c, vs, z, h, rfl⟩ := h
  exact ⟨_, _, h.ins⟩
/-- an address that is marked -/
def Mk (G : Hp) (q : Addr) : Prop := ∃ o, G q = some o ∧ isMk o = true
theorem Mk.mono {G G' : Hp} {q : Addr} (h : Mk G q) (e : Same G G') : Mk G' q := by
  obtain ⟨o, h1, h2⟩ := h
  exact ⟨o, e _ _ h1, h2⟩
theorem Mk.ne {G : Hp} {q p : Addr} (h : Mk G q) (e : G p = none) : q ≠ p := fun z => by
  obtain ⟨o, h1, h2⟩ := h
  rw [z, e] at h1
  cases h1
inductive Sv where
  | d (x : Dt)
  | ls (r : Bool) (xs : List Dt)
  | dk (r : Bool) (kvs : List (Key × Dt))
  | dt (r : Bool) (kvs : List (List Key × Dt))
  | ex (k : Nat)
  | scr (ns : List Int)
  | fk (kvs : List (Key × Dt))
  | ft (kvs : List (List Key × Dt))
  | mt (r : Bool) (m : Ms)
def Sv.own : Sv → Bool
  | .ls _ _ => true
  | .dk _ _ => true
  | .dt _ _ => true
  | .mt _ _ => true
  | _ => false
def Sv.isRef : Sv → Bool
  | .ls r _ => r
  | .dk r _ => r
  | .dt r _ => r
  | .mt r _ => r
  | _ => false
def Sv.mark (r : Bool) : Sv → Sv
  | .ls _ xs => .ls r xs
  | .dk _ xs => .dk r xs
  | .dt _ xs => .dt r xs
  | .mt _ m => .mt r m
  | s => s
def Sv.isMt : Sv → Bool
  | .mt _ _ => true
  | _ => false
theorem own_mark (r : Bool) (s : Sv) : (s.mark r).own = s.own := by cases s <;> rfl
theorem ref_mark {r : Bool} {s : Sv} (h : s.own = true) : (s.mark r).isRef = r := by
  cases s <;> first | rfl | cases h
theorem own_of_ref {s : Sv} (h : s.isRef = true) : s.own = true := by
  cases s <;> first | rfl | cases h
abbrev Ev := List (Option Sv)
inductive Out (α : Type) where
  | ok (a : α) (ρ : Ev)
  | err (k : Nat) (ρ : Ev)
  | bad
abbrev M (α : Type) := Ev → Out α
/-- what an operand is: data, or the name in a slot -/
inductive Av where
  | d (x : Dt)
  | s (i : Nat)
/-- what a list expression gives: data, or a new list -/
inductive Rv where
  | d (x : Dt)
  | l (xs : List Dt)
  | k (kvs : List (Key × Dt))
  | t (kvs : List (List Key × Dt))
inductive Fl where
  | nx | bk | ct
  | rt (r : Rv)
def exO (C a : Addr) : HO := .ext fun h => ∃ (oe : Obj) (vs : Array Value), h.get? a = some oe ∧ Zc (.ref C) none oe ∧ oe.data = .fields vs
def RpK {κ : Type} (K : Fg) (G : Hp) : List (κ × V) → List (κ × Dt) → Prop := Paired fun p q => p.1 = q.1 ∧ Rp K G p.2 q.2
def RS (K : Fg) (C : Nat → Addr) (G H : Hp) (v : V) : Sv → Prop
  | .d x => Rp K G v x
  | .ls _ xs => ∃ p vs, v = .ref p ∧ H p = some (.lst vs) ∧ G p = none ∧ Rps K G vs xs
  | .dk _ kvs => ∃ p vs, v = .ref p ∧ H p = some (.dK vs) ∧ G p = none ∧ RpK K G vs kvs
  | .dt _ kvs => ∃ p vs, v = .ref p ∧ H p = some (.dT vs) ∧ G p = none ∧ RpK K G vs kvs
  | .ex k => ∃ a, v = .ref a ∧ G a = some (exO (C k) a)
  | .scr ns => ∃ a, v = .ref a ∧ SqL K G a (ns.map V.int)
  | .fk kvs => ∃ p od vs, v = .ref p ∧ G p = some (.frz od (.dK vs)) ∧ RpK K G vs kvs
  | .ft kvs => ∃ p od vs, v = .ref p ∧ G p = some (.frz od (.dT vs)) ∧ RpK K G vs kvs
  | .mt _ m => ∃ (p : Addr) (dx : Addr × Addr) (fs : List (Str × V)), v = .ref p ∧ H p = some (.ins dx.1 dx.2 fs) ∧ G p = none
structure Bs where
  K : Fg
  C : Nat → Addr
  T : List (Addr × Str)
  mc : Addr
structure Fc where
  G0 : Hp
  H0 : Hp
  refs : List (Nat × Addr × Bool)
  Z : Addr → Prop
  M : Nat → Prop
/-- all that is lent is marked so: a def's own body -/
def Fc.Fn (c : Fc) : Prop := ∀ i p f, (i, p, f) ∈ c.refs → f = true
structure SIG (b : Bs) (c : Fc) (G : Hp) (ρ : Ev) (σ : St) (H : Hp) : Prop where
  len : ρ.length = σ.length
  g0 : Same c.G0 G
  gh : SameG G H
  gm : ∀ a, Mk G a → ∃ xs, H a = some (.lst xs)
  fr : ∀ a o, c.H0 a = some o → (∀ p ∈ b.T, p.1 ≠ a) → (∀ i f, (i, a, f) ∉ c.refs) → ¬ c.Z a → H a = some o
  gn : ∀ a o, G a = some o → c.G0 a = some o ∨ c.H0 a = none ∨ ∃ xs, o = .tup xs ∧ c.H0 a = some (.tup xs)
  sl : ∀ (i : Nat) (sv : Sv), ρ[i]? = some (some sv) → ∃ v, σ[i]? = some (some v) ∧ RS b.K b.C G H v sv
  sp : ∀ (i j : Nat) (si sj : Sv) (p : Addr), ρ[i]? = some (some si) → ρ[j]? = some (some sj) → si.own = true → sj.own = true → σ[i]? = some (some (.ref p)) → σ[j]? = some (some (.ref p)) → i = j
  nw : ∀ (i : Nat) (si : Sv) (p : Addr), ρ[i]? = some (some si) → si.own = true → σ[i]? = some (some (.ref p)) → c.H0 p = none ∨ ∃ f, (i, p, f) ∈ c.refs
  rf : ∀ (i : Nat) (p : Addr) (f : Bool), (i, p, f) ∈ c.refs → σ[i]? = some (some (.ref p)) ∧ ∃ sv, ρ[i]? = some (some sv) ∧ sv.own = true ∧ sv.isRef = f
  tb : LamX.Tabs b.T H
  ct : ∀ p ∈ b.T, c.G0 p.1 = none ∧ ∃ ps, c.H0 p.1 = some (.tbl ps)
  mz : ∀ (i : Nat) (r : Bool) (m : Ms) (p : Addr), ρ[i]? = some (some (.mt r m)) → σ[i]? = some (some (.ref p)) → ∃ Z, MeterAt b.mc H p m Z ∧ ∀ q ∈ Z, Mk G q ∧ (c.H0 q = none ∨ c.Z q)
  m1 : ∀ (i j : Nat) (si sj : Sv), ρ[i]? = some (some si) → ρ[j]? = some (some sj) → si.isMt = true → sj.isMt = true → i = j
  zz : ∀ a, c.Z a → Mk c.G0 a
  rk : ∀ (i : Nat) (p : Addr) (f : Bool) (s : Sv), (i, p, f) ∈ c.refs → ρ[i]? = some (some s) → s.isMt = true → c.M i
/-- an object that is no table and no code object may change -/
theorem tabs_mut {T : List (Addr × Str)} {H : Hp} {p : Addr} {o o' : HO} (t : LamX.Tabs T H) (h : H p = some o) (n1 : ∀ ps, o ≠ .tbl ps) (n2 : ∀ φ, o ≠ .ext φ) : LamX.Tabs T (upd H p o') := fun q hq => by
  obtain ⟨ps, h1, h2, h3⟩ := t q hq
  refine ⟨ps, ?_, h2, fun pos cv hc => ?_⟩
  · rw [upd_ne (fun z => by rw [z, h] at h1; exact n1 _ (Option.some.inj h1))]
    exact h1
  · obtain ⟨k, e1, e2⟩ := h3 pos cv hc
    refine ⟨k, e1, ?_⟩
    rw [upd_ne (fun z => by rw [z, h] at e2; exact n2 _ (Option.some.inj e2))]
    exact e2
theorem tabs_new {T : List (Addr × Str)} {H : Hp} {p : Addr} {o : HO} (t : LamX.Tabs T H) (h : H p = none) : LamX.Tabs T (upd H p o) := t.ext fun a u e => by rw [upd_ne (ne_of_none e h)]; exact e
/-- what an own slot's object is -/
def HO.plain : HO → Bool
  | .lst _ => true
  | .dK _ => true
  | .dT _ => true
  | .ins _ _ _ => true
  | _ => false
theorem plain_ne {o : HO} (h : HO.plain o = true) : (∀ ps, o ≠ .tbl ps) ∧ ∀ φ, o ≠ .ext φ := by
  constructor <;> (intro z e; subst e; cases h)
theorem RS.kind {K : Fg} {C : Nat → Addr} {G H : Hp} {p : Addr} {sv : Sv} (h : RS K C G H (.ref p) sv) (ho : sv.own = true) : ∃ o, H p = some o ∧ HO.plain o = true := by
  cases sv with
  | ls r xs => obtain ⟨q, vs, e, h1, _⟩ := h; cases e; exact ⟨_, h1, rfl⟩
  | dk r xs => obtain ⟨q, vs, e, h1, _⟩ := h; cases e; exact ⟨_, h1, rfl⟩
  | dt r xs => obtain ⟨q, vs, e, h1, _⟩ := h; cases e; exact ⟨_, h1, rfl⟩
  | mt r m => obtain ⟨q, dx, fs, e, h1, _⟩ := h; cases e; exact ⟨_, h1, rfl⟩
  | _ => cases ho
theorem RS.at {K : Fg} {C : Nat → Addr} {G H : Hp} {v : V} {sv : Sv} (h : RS K C G H v sv) (ho : sv.own = true) : ∃ p o, v = .ref p ∧ H p = some o ∧ G p = none := by
  cases sv with
  | ls r xs => obtain ⟨p, vs, e, h1, h2, _⟩ := h; exact ⟨p, _, e, h1, h2⟩
  | dk r xs => obtain ⟨p, vs, e, h1, h2, _⟩ := h; exact ⟨p, _, e, h1, h2⟩
  | dt r xs => obtain ⟨p, vs, e, h1, h2, _⟩ := h; exact ⟨p, _, e, h1, h2⟩
  | mt r m => obtain ⟨p, dx, fs, e, h1, h2⟩ := h; exact ⟨p, _, e, h1, h2⟩
  | _ => cases ho
theorem RpK.mono {κ : Type} {K : Fg} {G G' : Hp} {vs : List (κ × V)} {ds : List (κ × Dt)} (e : Same G G') (h : RpK K G vs ds) : RpK K G' vs ds :=
  Paired.mapP h fun _ _ z => ⟨z.1, Rp.mono e _ _ z.2⟩
/-- a slot stays over a greater ground, where its own object is kept -/
theorem RS.keep {K : Fg} {C : Nat → Addr} {G G' H H' : Hp} {v : V} {sv : Sv} (h : RS K C G H v sv) (e : Same G G') (k : ∀ p o, sv.own = true → v = .ref p → H p = some o → H' p = some o ∧ G' p = none) : RS K C G' H' v sv := by
  cases sv with
  | d x => exact Rp.mono e _ _ h
  | ls r xs => obtain ⟨p, vs, q, h1, h2, h3⟩ := h; exact ⟨p, vs, q, (k p _ rfl q h1).1, (k p _ rfl q h1).2, Rps.mono e _ _ h3⟩
  | dk r xs => obtain ⟨p, vs, q, h1, h2, h3⟩ := h; exact ⟨p, vs, q, (k p _ rfl q h1).1, (k p _ rfl q h1).2, h3.mono e⟩
  | dt r xs => obtain ⟨p, vs, q, h1, h2, h3⟩ := h; exact ⟨p, vs, q, (k p _ rfl q h1).1, (k p _ rfl q h1).2, h3.mono e⟩
  | ex k => obtain ⟨a, q, h1⟩ := h; exact ⟨a, q, e _ _ h1⟩
  | scr ns => obtain ⟨a, q, h1⟩ := h; exact ⟨a, q, e.seq h1⟩
  | fk kvs => obtain ⟨p, od, vs, q, h1, h2⟩ := h; exact ⟨p, od, vs, q, e _ _ h1, h2.mono e⟩
  | ft kvs => obtain ⟨p, od, vs, q, h1, h2⟩ := h; exact ⟨p, od, vs, q, e _ _ h1, h2.mono e⟩
  | mt r m => obtain ⟨p, dx, fs, q, h1, h2⟩ := h; exact ⟨p, dx, fs, q, (k p _ rfl q h1).1, (k p _ rfl q h1).2⟩
theorem RS.mark {K : Fg} {C : Nat → Addr} {G H : Hp} {v : V} {sv : Sv} (h : RS K C G H v sv) (r : Bool) : RS K C G H v (sv.mark r) := by
  cases sv <;> exact h
section
variable {b : Bs} {c : Fc} {G H : Hp} {ρ : Ev} {σ : St}
theorem isMt_of {s : Sv} (h : s.isMt = true) : ∃ r m, s = .mt r m := by
  cases s <;> first | exact ⟨_, _, rfl⟩ | cases h
theorem SIG.free (S : SIG b c G ρ σ H) {p : Addr} (hp : H p = none) : G p = none := by
  cases e : G p with
  | none => rfl
  | some o =>
    cases m : isMk o with
    | false =>
      have := S.gh p o e m
      rw [hp] at this
      cases this
    | true =>
      obtain ⟨xs, h⟩ := S.gm p ⟨o, e, m⟩
      rw [hp] at h
      cases h
/-- the meters stay -/
theorem SIG.mzk' (S : SIG b c G ρ σ H) {G' H' : Hp} {ρ' : Ev} {σ' : St} (e : ∀ q, Mk G q → Mk G' q) (k : ∀ a o, (Mk G a ∨ (∃ xs, o = .tup xs) ∨ ∃ (i : Nat) (s : Sv), ρ[i]? = some (some s) ∧ s.isMt = true ∧ σ[i]? = some (some (V.ref a))) → H a = some o → H' a = some o)
    (ks : ∀ (i : Nat) (r : Bool) (m : Ms) (p : Addr), ρ'[i]? = some (some (.mt r m)) → σ'[i]? = some (some (.ref p)) → ∃ (j : Nat) (r' : Bool), ρ[j]? = some (some (.mt r' m)) ∧ σ[j]? = some (some (.ref p))) :
    ∀ (i : Nat) (r : Bool) (m : Ms) (p : Addr), ρ'[i]? = some (some (.mt r m)) → σ'[i]? = some (some (.ref p)) → ∃ Z, MeterAt b.mc H' p m Z ∧ ∀ q ∈ Z, Mk G' q ∧ (c.H0 q = none ∨ c.Z q) := fun i r m p h1 h2 => by
  obtain ⟨j, r', g1, g2⟩ := ks i r m p h1 h2
  obtain ⟨Z, z1, z2⟩ := S.mz j r' m p g1 g2
  refine ⟨Z, z1.keep fun a o ha hq => k a o ?_ hq, fun q hq => ⟨e q (z2 q hq).1, (z2 q hq).2⟩⟩
  rcases ha with rfl | ha | ha
  · exact .inr (.inr ⟨j, _, g1, rfl, g2⟩)
  · exact .inl (z2 a ha).1
  · exact .inr (.inl ha)
theorem SIG.mzk (S : SIG b c G ρ σ H) {G' H' : Hp} {ρ' : Ev} {σ' : St} (e : Same G G') (k : ∀ a o, (Mk G a ∨ (∃ xs, o = .tup xs) ∨ ∃ (i : Nat) (s : Sv), ρ[i]? = some (some s) ∧ s.isMt = true ∧ σ[i]? = some (some (V.ref a))) → H a = some o → H' a = some o)
    (ks : ∀ (i : Nat) (r : Bool) (m : Ms) (p : Addr), ρ'[i]? = some (some (.mt r m)) → σ'[i]? = some (some (.ref p)) → ∃ (j : Nat) (r' : Bool), ρ[j]? = some (some (.mt r' m)) ∧ σ[j]? = some (some (.ref p))) :
    ∀ (i : Nat) (r : Bool) (m : Ms) (p : Addr), ρ'[i]? = some (some (.mt r m)) → σ'[i]? = some (some (.ref p)) → ∃ Z, MeterAt b.mc H' p m Z ∧ ∀ q ∈ Z, Mk G' q ∧ (c.H0 q = none ∨ c.Z q) := S.mzk' (fun _ h => h.mono e) k ks
/-- a new object of no slot, laid into the heap alone -/
theorem SIG.alloc (S : SIG b c G ρ σ H) {p : Addr} {o : HO} (hp : H p = none) : SIG b c G ρ σ (upd H p o) := by
  have k : ∀ a u, H a = some u → upd H p o a = some u := fun a u e => by rw [upd_ne (ne_of_none e hp)]; exact e
  refine ⟨S.len, S.g0, fun a u e hm => k a u (S.gh a u e hm), fun a hm => by obtain ⟨xs, q⟩ := S.gm a hm; exact ⟨xs, k a _ q⟩, fun a u e m n z => k a u (S.fr a u e m n z), S.gn, fun i sv e => ?_, S.sp, S.nw, S.rf, tabs_new S.tb hp, S.ct, S.mzk (Same.refl G) (fun a o _ q => k a o q) (fun i r m p h1 h2 => ⟨i, r, h1, h2⟩), S.m1, S.zz, S.rk⟩
  obtain ⟨v, hv, r⟩ := S.sl i sv e
  exact ⟨v, hv, r.keep (Same.refl G) fun q u ho ev hq => ⟨k q u hq, by obtain ⟨q', _, e', _, g'⟩ := r.at ho; rw [ev] at e'; cases e'; exact g'⟩⟩
/-- the address p is no slot's own -/
def NoOwn (ρ : Ev) (σ : St) (p : Addr) : Prop := ∀ (i : Nat) (sv : Sv), ρ[i]? = some (some sv) → sv.own = true → σ[i]? ≠ some (some (.ref p))
theorem SIG.noOwn (S : SIG b c G ρ σ H) {p : Addr} (hp : H p = none) : NoOwn ρ σ p := fun i sv e ho q => by
  obtain ⟨v, hv, r⟩ := S.sl i sv e
  obtain ⟨q', u, e', h', _⟩ := r.at ho
  rw [hv, e'] at q
  cases q
  rw [hp] at h'
  cases h'
theorem SIG.fresh0 (S : SIG b c G ρ σ H) {p : Addr} (hp : H p = none) : c.H0 p = none := by
  cases q : c.H0 p with
  | none => rfl
  | some o =>
    by_cases hr : ∃ i f, (i, p, f) ∈ c.refs
    · obtain ⟨i, f, hi⟩ := hr
      obtain ⟨h1, sv, h2, h3, _⟩ := S.rf i p f hi
      exact absurd h1 (S.noOwn hp i sv h2 h3)
    · have := S.fr p o q (fun t ht z => by
        obtain ⟨ps, h1, _⟩ := S.tb t ht
        rw [z, hp] at h1
        cases h1) (fun i f hi => hr ⟨i, f, hi⟩) fun z => by
          obtain ⟨xs, h⟩ := S.gm p ((S.zz p z).mono S.g0)
          rw [hp] at h
          cases h
      rw [hp] at this
      cases this
/-- a tuple of the heap is new, or was there -/
theorem SIG.tup0 (S : SIG b c G ρ σ H) {p : Addr} {xs : List V} (hp : H p = some (.tup xs)) : c.H0 p = none ∨ c.H0 p = some (.tup xs) := by
  cases q : c.H0 p with
  | none => exact .inl rfl
  | some o =>
    by_cases hr : ∃ i f, (i, p, f) ∈ c.refs
    · obtain ⟨i, f, hi⟩ := hr
      obtain ⟨h1, sv, h2, h3, _⟩ := S.rf i p f hi
      obtain ⟨v, hv, r⟩ := S.sl i sv h2
      rw [h1] at hv
      cases hv
      obtain ⟨u, k1, k2⟩ := r.kind h3
      rw [hp] at k1
      cases k1
      cases k2
    · have := S.fr p o q (fun t ht z => by
        obtain ⟨ps, h1, _⟩ := S.tb t ht
        rw [z, hp] at h1
        cases h1) (fun i f hi => hr ⟨i, f, hi⟩) fun z => by
          obtain ⟨xs, h⟩ := S.gm p ((S.zz p z).mono S.g0)
          rw [hp] at h
          cases h
      rw [hp] at this
      exact .inr this.symm
/-- .. comes to the ground -/
theorem SIG.layT (S : SIG b c G ρ σ H) {p : Addr} {xs : List V} (hp : H p = some (.tup xs)) : ∃ G', Same G G' ∧ G' p = some (.tup xs) ∧ SIG b c G' ρ σ H := by
  cases hg : G p with
  | some o =>
    have hm : isMk o = false := by
      cases m : isMk o with
      | false => rfl
      | true =>
        obtain ⟨xs, h⟩ := S.gm p ⟨o, hg, m⟩
        rw [hp] at h
        cases h
    have := S.gh p o hg hm
    rw [hp] at this
    cases this
    exact ⟨G, Same.refl G, hg, S⟩
  | none =>
    have s1 : Same G (upd G p (.tup xs)) := fun a u e => by rw [upd_ne (ne_of_none e hg)]; exact e
    refine ⟨_, s1, upd_same, S.len, S.g0.trans s1, fun a u e hm => ?_, fun a hm => ?_, S.fr, fun a u e => ?_, fun i sv e => ?_, S.sp, S.nw, S.rf, S.tb, S.ct, S.mzk s1 (fun a o _ q => q) (fun i r m p h1 h2 => ⟨i, r, h1, h2⟩), S.m1, S.zz, S.rk⟩
    · by_cases ha : a = p
      · subst ha
        rw [upd_same] at e
        cases e
        exact hp
      · rw [upd_ne ha] at e
        exact S.gh a u e hm
    · obtain ⟨o, h1, h2⟩ := hm
      by_cases ha : a = p
      · subst ha
        rw [upd_same] at h1
        cases h1
        cases h2
      · rw [upd_ne ha] at h1
        exact S.gm a ⟨o, h1, h2⟩
    · by_cases ha : a = p
      · subst ha
        rw [upd_same] at e
        cases e
        rcases S.tup0 hp with z | z
        · exact .inr (.inl z)
        · exact .inr (.inr ⟨xs, rfl, z⟩)
      · rw [upd_ne ha] at e
        exact S.gn a u e
    · obtain ⟨v, hv, r⟩ := S.sl i sv e
      refine ⟨v, hv, r.keep s1 fun q u ho ev hq => ⟨hq, ?_⟩⟩
      obtain ⟨q', _, e', h', g'⟩ := r.at ho
      rw [ev] at e'
      cases e'
      have hne : q ≠ p := fun z => by
        subst z
        rw [ev] at r
        obtain ⟨u, k1, k2⟩ := r.kind ho
        rw [hp] at k1
        cases k1
        cases k2
      rw [upd_ne hne]
      exact g'
/-- an object of the heap that is no slot's own comes to the ground -/
theorem SIG.freeze (S : SIG b c G ρ σ H) {p : Addr} {o : HO} (hp : H p = some o) (hg : G p = none) (h0 : c.H0 p = none) (no : NoOwn ρ σ p) (ho : isMk o = false := by rfl) : Same G (upd G p o) ∧ SIG b c (upd G p o) ρ σ H := by
  have s1 : Same G (upd G p o) := fun a u e => by rw [upd_ne (ne_of_none e hg)]; exact e
  refine ⟨s1, S.len, S.g0.trans s1, fun a u e hm => ?_, fun a hm => ?_, S.fr, fun a u e => ?_, fun i sv e => ?_, S.sp, S.nw, S.rf, S.tb, S.ct, S.mzk s1 (fun a o _ q => q) (fun i r m p h1 h2 => ⟨i, r, h1, h2⟩), S.m1, S.zz, S.rk⟩
  · by_cases ha : a = p
    · subst ha
      rw [upd_same] at e
      cases e
      exact hp
    · rw [upd_ne ha] at e
      exact S.gh a u e hm
  · obtain ⟨u, h1, h2⟩ := hm
    by_cases ha : a = p
    · subst ha
      rw [upd_same] at h1
      cases h1
      rw [ho] at h2
      cases h2
    · rw [upd_ne ha] at h1
      exact S.gm a ⟨u, h1, h2⟩
  · by_cases ha : a = p
    · subst ha
      exact .inr (.inl h0)
    · rw [upd_ne ha] at e
      exact S.gn a u e
  · obtain ⟨v, hv, r⟩ := S.sl i sv e
    refine ⟨v, hv, r.keep s1 fun q u ho ev hq => ⟨hq, ?_⟩⟩
    have hne : q ≠ p := fun z => no i sv e ho (by rw [hv, ev, z])
    obtain ⟨q', _, e', _, g'⟩ := r.at ho
    rw [ev] at e'
    cases e'
    rw [upd_ne hne]
    exact g'
/-- a new frozen object -/
theorem SIG.lay (S : SIG b c G ρ σ H) {p : Addr} {o : HO} (hp : H p = none) (ho : isMk o = false := by rfl) : Same G (upd G p o) ∧ SIG b c (upd G p o) ρ σ (upd H p o) := by
  have hg : G p = none := S.free hp
  have n := S.noOwn hp
  exact (S.alloc (o := o) hp).freeze upd_same hg (S.fresh0 hp) n ho
/-- no table is ground -/
theorem SIG.gT (S : SIG b c G ρ σ H) {p : Addr × Str} (hp : p ∈ b.T) : G p.1 = none := by
  obtain ⟨h1, ps, h2⟩ := S.ct p hp
  cases e : G p.1 with
  | none => rfl
  | some o =>
    rcases S.gn _ _ e with z | z | ⟨xs, _, z⟩
    · rw [h1] at z; cases z
    · rw [h2] at z; cases z
    · rw [h2] at z; cases z
theorem SIG.hT (S : SIG b c G ρ σ H) : ∀ p ∈ b.T, G p.1 = none ∧ ∃ ps, H p.1 = some (.tbl ps) := fun p hp => ⟨S.gT hp, by
  obtain ⟨ps, h, _⟩ := S.tb p hp
  exact ⟨ps, h⟩⟩
theorem SIG.notT (S : SIG b c G ρ σ H) {p : Addr} {o : HO} (h : H p = some o) (n : HO.plain o = true) : ∀ q ∈ b.T, q.1 ≠ p := fun q hq z => by
  obtain ⟨ps, h1, _⟩ := S.tb q hq
  rw [z, h] at h1
  exact (plain_ne n).1 _ (Option.some.inj h1)
theorem getElem?_set_eq' {α : Type} (l : List α) (i j : Nat) (x : α) : (l.set i x)[j]? = if i = j then (if i < l.length then some x else none) else l[j]? := by
  rw [List.getElem?_set]
/-- the slot i may be stored to -/
def Open (c : Fc) (ρ : Ev) (i : Nat) : Prop := ∀ s, ρ[i]? = some (some s) → s.own = false ∨ (c.Fn ∧ s.isRef = false)
theorem SIG.noRef (S : SIG b c G ρ σ H) {i : Nat} (hr : Open c ρ i) : ∀ p f, (i, p, f) ∉ c.refs := fun p f hp => by
  obtain ⟨_, s, h1, h2, h3⟩ := S.rf i p f hp
  rcases hr s h1 with z | ⟨z, y⟩
  · rw [h2] at z; cases z
  · rw [h3, z i p f hp] at y; cases y
/-- a slot is set -/
theorem SIG.set (S : SIG b c G ρ σ H) {i : Nat} {v : V} {sv : Sv} (r : RS b.K b.C G H v sv) (hr : Open c ρ i)
    (ho : ∀ p, v = .ref p → sv.own = true → NoOwn ρ σ p ∧ c.H0 p = none) (hmt : sv.isMt = false := by rfl) : SIG b c G (ρ.set i (some sv)) (σ.set i (some v)) H := by
  have nr : ∀ p f, (i, p, f) ∉ c.refs := S.noRef hr
  have mt : ∀ {j s}, (ρ.set i (some sv))[j]? = some (some s) → s.isMt = true → i ≠ j ∧ ρ[j]? = some (some s) := fun {j s} e hs => by
    by_cases hj : i = j
    · subst hj
      rw [getElem?_set_eq', if_pos rfl] at e
      split at e
      · cases e
        rw [hmt] at hs
        cases hs
      · cases e
    · rw [List.getElem?_set_ne hj] at e
      exact ⟨hj, e⟩
  refine ⟨by rw [List.length_set, List.length_set]; exact S.len, S.g0, S.gh, S.gm, S.fr, S.gn, fun j s e => ?_, fun j k sj sk p e1 e2 o1 o2 a1 a2 => ?_, fun j s p e o1 a1 => ?_, fun j p f hj => ?_, S.tb, S.ct, S.mzk (Same.refl G) (fun a o _ q => q) (fun j r m p h1 h2 => ?_), fun j k sj sk h1 h2 g1 g2 => S.m1 j k sj sk (mt h1 g1).2 (mt h2 g2).2 g1 g2, S.zz, fun j p f s h1 h2 h3 => S.rk j p f s h1 (mt h2 h3).2 h3⟩
  case refine_5 =>
    obtain ⟨g1, g2⟩ := mt h1 rfl
    rw [List.getElem?_set_ne g1] at h2
    exact ⟨j, r, g2, h2⟩
  · by_cases hj : i = j
    · subst hj
      rw [getElem?_set_eq', if_pos rfl] at e
      split at e
      · rename_i hl
        cases e
        exact ⟨v, by rw [getElem?_set_eq', if_pos rfl, if_pos (by rw [← S.len]; exact hl)], r⟩
      · cases e
    · rw [List.getElem?_set_ne hj] at e
      obtain ⟨u, hu, q⟩ := S.sl j s e
      exact ⟨u, by rw [List.getElem?_set_ne hj]; exact hu, q⟩
  · by_cases hj : i = j
    · by_cases hk : i = k
      · rw [← hj, ← hk]
      · subst hj
        rw [getElem?_set_eq', if_pos rfl] at e1 a1
        rw [List.getElem?_set_ne hk] at e2 a2
        split at e1
        · cases e1
          split at a1
          · cases a1
            exact absurd a2 ((ho p rfl o1).1 k sk e2 o2)
          · cases a1
        · cases e1
    · by_cases hk : i = k
      · subst hk
        rw [getElem?_set_eq', if_pos rfl] at e2 a2
        rw [List.getElem?_set_ne hj] at e1 a1
        split at e2
        · cases e2
          split at a2
          · cases a2
            exact absurd a1 ((ho p rfl o2).1 j sj e1 o1)
          · cases a2
        · cases e2
      · rw [List.getElem?_set_ne hj] at e1 a1
        rw [List.getElem?_set_ne hk] at e2 a2
        exact S.sp j k sj sk p e1 e2 o1 o2 a1 a2
  · by_cases hj : i = j
    · subst hj
      rw [getElem?_set_eq', if_pos rfl] at e a1
      split at e
      · cases e
        split at a1
        · cases a1
          exact .inl (ho p rfl o1).2
        · cases a1
      · cases e
    · rw [List.getElem?_set_ne hj] at e a1
      exact S.nw j s p e o1 a1
  · have hj' : i ≠ j := fun z => nr p f (z ▸ hj)
    obtain ⟨h1, s, h2, h3⟩ := S.rf j p f hj
    exact ⟨by rw [List.getElem?_set_ne hj']; exact h1, s, by rw [List.getElem?_set_ne hj']; exact h2, h3⟩
/-- a slot is forgotten -/
theorem SIG.drop (S : SIG b c G ρ σ H) {i : Nat} (hr : Open c ρ i) (w : Option V) : SIG b c G (ρ.set i none) (σ.set i w) H := by
  have nr : ∀ p f, (i, p, f) ∉ c.refs := S.noRef hr
  have ne : ∀ {j s}, (ρ.set i none)[j]? = some (some s) → i ≠ j := fun {j s} e z => by
    subst z
    rw [getElem?_set_eq', if_pos rfl] at e
    split at e <;> cases e
  have old : ∀ {j s}, (ρ.set i none)[j]? = some (some s) → ρ[j]? = some (some s) := fun {j s} e => by
    have := ne e
    rw [List.getElem?_set_ne this] at e
    exact e
  refine ⟨by rw [List.length_set, List.length_set]; exact S.len, S.g0, S.gh, S.gm, S.fr, S.gn, fun j s e => ?_, fun j k sj sk p e1 e2 o1 o2 a1 a2 => ?_, fun j s p e o1 a1 => ?_, fun j p f hj => ?_, S.tb, S.ct, S.mzk (Same.refl G) (fun a o _ q => q) (fun j r m p h1 h2 => ⟨j, r, old h1, by rw [List.getElem?_set_ne (ne h1)] at h2; exact h2⟩), fun j k sj sk h1 h2 g1 g2 => S.m1 j k sj sk (old h1) (old h2) g1 g2, S.zz, fun j p f s h1 h2 h3 => S.rk j p f s h1 (old h2) h3⟩
  · have hj := ne e
    rw [List.getElem?_set_ne hj] at e
    obtain ⟨u, hu, q⟩ := S.sl j s e
    exact ⟨u, by rw [List.getElem?_set_ne hj]; exact hu, q⟩
  · have hj := ne e1
    have hk := ne e2
    rw [List.getElem?_set_ne hj] at e1 a1
    rw [List.getElem?_set_ne hk] at e2 a2
    exact S.sp j k sj sk p e1 e2 o1 o2 a1 a2
  · have hj := ne e
    rw [List.getElem?_set_ne hj] at e a1
    exact S.nw j s p e o1 a1
  · have hj' : i ≠ j := fun z => nr p f (z ▸ hj)
    obtain ⟨h1, s, h2, h3⟩ := S.rf j p f hj
    exact ⟨by rw [List.getElem?_set_ne hj']; exact h1, s, by rw [List.getElem?_set_ne hj']; exact h2, h3⟩
/-- a slot's own object is changed -/
theorem SIG.mut (S : SIG b c G ρ σ H) {i : Nat} {p : Addr} {o : HO} {sv sv' : Sv} (e : ρ[i]? = some (some sv)) (ho : sv.own = true) (hp : σ[i]? = some (some (.ref p))) (hr : sv'.isRef = sv.isRef) (ho' : sv'.own = true)
    (r : RS b.K b.C G (upd H p o) (.ref p) sv') (hmt : sv'.isMt = false := by rfl) : SIG b c G (ρ.set i (some sv')) σ (upd H p o) := by
  have hil : i < ρ.length := (List.getElem?_eq_some_iff.mp e).1
  have gp : G p = none := by
    obtain ⟨v, hv, q⟩ := S.sl i sv e
    obtain ⟨p', _, e', _, g'⟩ := q.at ho
    rw [hp] at hv
    cases hv
    cases e'
    exact g'
  have kp : LamX.Tabs b.T (upd H p o) := by
    obtain ⟨v, hv, q⟩ := S.sl i sv e
    rw [hp] at hv
    cases hv
    obtain ⟨o1, h1, h2⟩ := q.kind ho
    exact tabs_mut S.tb h1 (plain_ne h2).1 (plain_ne h2).2
  have get : ∀ {j s}, (ρ.set i (some sv'))[j]? = some (some s) → (j = i ∧ s = sv') ∨ (i ≠ j ∧ ρ[j]? = some (some s)) := fun {j s} q => by
    by_cases hj : i = j
    · subst hj
      rw [getElem?_set_eq', if_pos rfl, if_pos hil] at q
      cases q
      exact .inl ⟨rfl, rfl⟩
    · rw [List.getElem?_set_ne hj] at q
      exact .inr ⟨hj, q⟩
  have gmt : ∀ {j s}, (ρ.set i (some sv'))[j]? = some (some s) → s.isMt = true → i ≠ j ∧ ρ[j]? = some (some s) := fun {j s} q hs => by
    rcases get q with ⟨_, rfl⟩ | q
    · rw [hmt] at hs
      cases hs
    · exact q
  refine ⟨by rw [List.length_set]; exact S.len, S.g0, fun a u q hm => ?_, fun a hm => ?_, fun a u q m n zz => ?_, S.gn, fun j s q => ?_, fun j k sj sk a q1 q2 o1 o2 a1 a2 => ?_, fun j s a q o1 a1 => ?_, fun j a f hj => ?_, kp, S.ct, ?_, fun j k sj sk h1 h2 g1 g2 => S.m1 j k sj sk (gmt h1 g1).2 (gmt h2 g2).2 g1 g2, S.zz, fun j p f s h1 h2 h3 => S.rk j p f s h1 (gmt h2 h3).2 h3⟩
  case refine_8 =>
    intro j rj m a h1 h2
    obtain ⟨g1, g2⟩ := gmt h1 rfl
    obtain ⟨Z, z1, z2⟩ := S.mz j rj m a g2 h2
    refine ⟨Z, z1.keep fun x u hx hq => ?_, z2⟩
    have hne : x ≠ p := fun z => by
      rcases hx with hx | hx | ⟨xs, hx⟩
      · exact g1 (S.sp i j sv _ p e g2 ho rfl hp (by rw [h2, ← hx, z]))
      · exact (z2 x hx).1.ne gp z
      · subst hx
        obtain ⟨v, hv, q⟩ := S.sl i sv e
        rw [hp] at hv
        cases hv
        obtain ⟨o1, w1, w2⟩ := q.kind ho
        rw [z, w1] at hq
        cases hq
        cases w2
    rw [upd_ne hne]
    exact hq
  · rw [upd_ne (ne_of_none q gp)]
    exact S.gh a u q hm
  · rw [upd_ne (hm.ne gp)]
    exact S.gm a hm
  · have hne : a ≠ p := fun z => by
      subst z
      rcases S.nw i sv a e ho hp with z | z
      · rw [q] at z
        cases z
      · obtain ⟨f, z⟩ := z
        exact n i f z
    rw [upd_ne hne]
    exact S.fr a u q m n zz
  · rcases get q with ⟨rfl, rfl⟩ | ⟨hj, q⟩
    · exact ⟨.ref p, hp, r⟩
    · obtain ⟨v, hv, z⟩ := S.sl j s q
      refine ⟨v, hv, z.keep (Same.refl G) fun a u oo ev ha => ?_⟩
      have hne : a ≠ p := fun y => hj (S.sp i j sv s p e q ho oo hp (by rw [hv, ev, y]))
      obtain ⟨q', _, e', _, g'⟩ := z.at oo
      rw [ev] at e'
      cases e'
      exact ⟨by rw [upd_ne hne]; exact ha, g'⟩
  · rcases get q1 with ⟨z1, w1⟩ | ⟨hj, y1⟩
    · rcases get q2 with ⟨z2, w2⟩ | ⟨hk, y2⟩
      · rw [z1, z2]
      · rw [z1] at a1 ⊢
        exact S.sp i k sv sk a e y2 ho o2 a1 a2
    · rcases get q2 with ⟨z2, w2⟩ | ⟨hk, y2⟩
      · rw [z2] at a2 ⊢
        exact S.sp j i sj sv a y1 e o1 ho a1 a2
      · exact S.sp j k sj sk a y1 y2 o1 o2 a1 a2
  · rcases get q with ⟨rfl, rfl⟩ | ⟨hj, q⟩
    · exact S.nw _ sv a e ho a1
    · exact S.nw j s a q o1 a1
  · obtain ⟨h1, s, h2, h3⟩ := S.rf j a f hj
    by_cases z : i = j
    · subst z
      rw [e] at h2
      cases h2
      exact ⟨h1, sv', by rw [getElem?_set_eq', if_pos rfl, if_pos hil], ho', by rw [hr]; exact h3.2⟩
    · exact ⟨h1, s, by rw [List.getElem?_set_ne z]; exact h2, h3⟩
/-- a slot's own list comes to the ground -/
theorem SIG.share (S : SIG b c G ρ σ H) (hb : c.Fn) {i : Nat} {xs : List Dt} (e : ρ[i]? = some (some (.ls false xs))) : ∃ G', Same G G' ∧ SIG b c G' (ρ.set i (some (.d (.list xs)))) σ H := by
  obtain ⟨v, hv, p, vs, rfl, hp, gp, rs⟩ := S.sl i _ e
  have op : Open c ρ i := fun s q => by rw [e] at q; cases q; exact .inr ⟨hb, rfl⟩
  have h0 : c.H0 p = none := by
    rcases S.nw i _ p e rfl hv with z | z
    · exact z
    · obtain ⟨f, z⟩ := z
      exact absurd z (S.noRef op p f)
  have D := S.drop (i := i) op (some (.ref p))
  have es : σ.set i (some (.ref p)) = σ := by
    apply List.ext_getElem?
    intro j
    by_cases hj : i = j
    · subst hj
      rw [getElem?_set_eq', if_pos rfl, if_pos (List.getElem?_eq_some_iff.mp hv).1, hv]
    · rw [List.getElem?_set_ne hj]
  rw [es] at D
  have no : NoOwn (ρ.set i none) σ p := fun j s q o1 a1 => by
    have hj : i ≠ j := fun z => by
      subst z
      rw [getElem?_set_eq', if_pos rfl] at q
      split at q <;> cases q
    rw [List.getElem?_set_ne hj] at q
    exact hj (S.sp i j _ s p e q rfl o1 hv a1)
  obtain ⟨s1, D2⟩ := D.freeze hp gp h0 no
  refine ⟨_, s1, ?_⟩
  have D3 := D2.set (i := i) (v := .ref p) (sv := .d (.list xs)) (.lst upd_same (Rps.mono s1 _ _ rs)) (fun s q => by
    rw [getElem?_set_eq', if_pos rfl] at q
    split at q <;> cases q) (fun q _ z => by cases z)
  rw [List.set_set, es] at D3
  exact D3
end
end G8
namespace G8
open PySem L2
/-! judgements -/
def bindM {α β : Type} (f : M α) (g : α → M β) : M β := fun ρ => match f ρ with
  | .ok a ρ' => g a ρ'
  | .err k ρ' => .err k ρ'
  | .bad => .bad
def retM {α : Type} (a : α) : M α := fun ρ => .ok a ρ
def badM {α : Type} : M α := fun _ => .bad
def optM {α : Type} (g : Ev → Option α) : M α := fun ρ => match g ρ with
  | some a => .ok a ρ
  | none => .bad
def slotD : Option (Option Sv) → Option Dt
  | some (some (.d x)) => some x
  | some (some (.ls _ xs)) => some (.list xs)
  | _ => none
def slotZ : Option (Option Sv) → Option Dt
  | some (some (.d x)) => some x
  | _ => none
def res (ρ : Ev) : Av → Option Dt
  | .d x => some x
  | .s i => slotD ρ[i]?
def fzv (ρ : Ev) : Av → Option Dt
  | .d x => some x
  | .s i => slotZ ρ[i]?
def RA (K : Fg) (G : Hp) (σ : St) (v : V) : Av → Prop
  | .d x => Rp K G v x
  | .s i => σ[i]? = some (some v)
theorem RA.mono {K : Fg} {G G' : Hp} {σ : St} {v : V} {a : Av} (e : Same G G') (h : RA K G σ v a) : RA K G' σ v a := by
  cases a with
  | d x => exact Rp.mono e _ _ h
  | s i => exact h
/-- readable: frozen, or a list of the heap whose items are -/
def RO (K : Fg) (G H : Hp) (v : V) (x : Dt) : Prop := Rp K G v x ∨ ∃ p vs xs, v = .ref p ∧ x = .list xs ∧ H p = some (.lst vs) ∧ Rps K G vs xs
theorem RO.dp {K : Fg} {G H : Hp} {v : V} {x : Dt} (e : SameG G H) (h : RO K G H v x) : Dp K H v x := by
  rcases h with h | ⟨p, vs, xs, rfl, rfl, h1, h2⟩
  · exact Rp.dp _ _ (Rp.monoG e _ _ h)
  · exact .lst (SqL.of h1) (Rps.dp _ _ (Rps.monoG e _ _ h2))
theorem RO.list {K : Fg} {G H : Hp} {v : V} {xs : List Dt} (e : SameG G H) (h : RO K G H v (.list xs)) : ∃ p vs, v = .ref p ∧ H p = some (.lst vs) ∧ Rps K G vs xs := by
  rcases h with h | ⟨p, vs, ys, rfl, q, h1, h2⟩
  · cases h with
    | lst h1 h2 => exact ⟨_, _, rfl, e _ _ h1 rfl, h2⟩
  · cases q
    exact ⟨p, vs, rfl, h1, h2⟩
theorem RO.tup {K : Fg} {G H : Hp} {v : V} {xs : List Dt} (h : RO K G H v (.tuple xs)) : ∃ p vs, v = .ref p ∧ SqT K G p vs ∧ Rps K G vs xs := by
  rcases h with h | ⟨p, vs, ys, rfl, q, h1, h2⟩
  · cases h with
    | tup h1 h2 => exact ⟨_, _, rfl, h1.sq, h2⟩
  · cases q
theorem RO.int {K : Fg} {G H : Hp} {v : V} {i : Int} (h : RO K G H v (.int i)) : v = .int i := by
  rcases h with h | ⟨p, vs, ys, rfl, q, h1, h2⟩
  · cases h; rfl
  · cases q
theorem RO.bool {K : Fg} {G H : Hp} {v : V} {i : Bool} (h : RO K G H v (.bool i)) : v = .bl i := by
  rcases h with h | ⟨p, vs, ys, rfl, q, h1, h2⟩
  · cases h; rfl
  · cases q
theorem RO.str {K : Fg} {G H : Hp} {v : V} {i : Str} (h : RO K G H v (.str i)) : v = .str i := by
  rcases h with h | ⟨p, vs, ys, rfl, q, h1, h2⟩
  · cases h; rfl
  · cases q
theorem RO.none {K : Fg} {G H : Hp} {v : V} (h : RO K G H v .none) : v = .non := by
  rcases h with h | ⟨p, vs, ys, rfl, q, h1, h2⟩
  · cases h; rfl
  · cases q
theorem RA.res {b : Bs} {c : Fc} {G H : Hp} {ρ : Ev} {σ : St} {v : V} {a : Av} {x : Dt} (S : SIG b c G ρ σ H) (h : RA b.K G σ v a) (e : res ρ a = some x) : RO b.K G H v x := by
  cases a with
  | d y => cases e; exact .inl h
  | s i =>
    have e : slotD ρ[i]? = some x := e
    unfold slotD at e
    split at e
    · rename_i y q
      cases e
      obtain ⟨u, hu, r⟩ := S.sl i _ q
      rw [show σ[i]? = some (some v) from h] at hu
      cases hu
      exact .inl r
    · rename_i b ys q
      cases e
      obtain ⟨u, hu, p, vs, r1, r2, r3, r4⟩ := S.sl i _ q
      rw [show σ[i]? = some (some v) from h] at hu
      cases hu
      exact .inr ⟨p, vs, ys, r1, rfl, r2, r4⟩
    · cases e
theorem RA.fz {b : Bs} {c : Fc} {G H : Hp} {ρ : Ev} {σ : St} {v : V} {a : Av} {x : Dt} (S : SIG b c G ρ σ H) (h : RA b.K G σ v a) (e : fzv ρ a = some x) : Rp b.K G v x := by
  cases a with
  | d y => cases e; exact h
  | s i =>
    have e : slotZ ρ[i]? = some x := e
    unfold slotZ at e
    split at e
    · rename_i y q
      cases e
      obtain ⟨u, hu, r⟩ := S.sl i _ q
      rw [show σ[i]? = some (some v) from h] at hu
      cases hu
      exact r
    · cases e
def Post {α : Type} (b : Bs) (c : Fc) (W : WX) (G : Hp) (σ : St) (P : α → Ev → Hp → Hp → Prop) : Out α → Prop
  | .ok a ρ => ∀ H' G', Same G G' → SIG b c G' ρ σ H' → P a ρ G' H'
  | .err k ρ => ∀ H' G', Same G G' → SIG b c G' ρ σ H' → W (.ref (b.C k)) none σ H'
  | .bad => False
section
variable {α β : Type} {b : Bs} {c : Fc} {W : WX} {G G' H : Hp} {σ : St} {ρ : Ev} {P P' : α → Ev → Hp → Hp → Prop}
theorem Post.mono {o : Out α} (e : Same G G') (h : Post b c W G σ P o) : Post b c W G' σ P o := by
  cases o with
  | ok a ρ => exact fun H1 G1 e1 S1 => h H1 G1 (e.trans e1) S1
  | err k ρ => exact fun H1 G1 e1 S1 => h H1 G1 (e.trans e1) S1
  | bad => exact h
theorem Post.imp {o : Out α} (h : Post b c W G σ P o) (w : ∀ a ρ1 G1 H1, Same G G1 → SIG b c G1 ρ1 σ H1 → P a ρ1 G1 H1 → P' a ρ1 G1 H1) : Post b c W G σ P' o := by
  cases o with
  | ok a ρ => exact fun H1 G1 e1 S1 => w a ρ G1 H1 e1 S1 (h H1 G1 e1 S1)
  | err k ρ => exact h
  | bad => exact h
theorem Post.bind {f : M β} {g : β → M α} (h : Post b c W G σ P (bindM f g ρ)) : Post b c W G σ (fun z ρ1 G1 _ => Post b c W G1 σ P (g z ρ1)) (f ρ) := by
  unfold bindM at h
  cases e : f ρ with
  | ok z ρ1 =>
    rw [e] at h
    exact fun H1 G1 e1 S1 => Post.mono e1 h
  | err k ρ1 =>
    rw [e] at h
    exact h
  | bad =>
    rw [e] at h
    exact h
theorem Post.opt {g : Ev → Option α} (h : Post b c W G σ P (optM g ρ)) (S : SIG b c G ρ σ H) : ∃ a, g ρ = some a ∧ P a ρ G H := by
  unfold optM at h
  cases e : g ρ with
  | some a =>
    rw [e] at h
    exact ⟨a, rfl, h H G (Same.refl G) S⟩
  | none =>
    rw [e] at h
    exact h.elim
theorem Post.ret {a : α} (h : Post b c W G σ P (retM a ρ)) (S : SIG b c G ρ σ H) : P a ρ G H := h H G (Same.refl G) S
end
/-- what a new list, a new dict, or data is -/
def Rv.new : Rv → Bool
  | .d _ => false
  | _ => true
def RN (b : Bs) (c : Fc) (G H : Hp) (v : V) : Rv → Prop
  | .d x => Rp b.K G v x
  | .l xs => ∃ p vs, v = .ref p ∧ H p = some (.lst vs) ∧ G p = none ∧ Rps b.K G vs xs ∧ c.H0 p = none
  | .k kvs => ∃ p vs, v = .ref p ∧ H p = some (.dK vs) ∧ G p = none ∧ RpK b.K G vs kvs ∧ c.H0 p = none
  | .t kvs => ∃ p vs, v = .ref p ∧ H p = some (.dT vs) ∧ G p = none ∧ RpK b.K G vs kvs ∧ c.H0 p = none
def Apart (ρ : Ev) (σ : St) (v : V) (r : Rv) : Prop := ∀ p, v = .ref p → r.new = true → NoOwn ρ σ p
def tE (b : Bs) (W : WX) (f : M Av) : TE := fun σ H Q => ∃ c G ρ, SIG b c G ρ σ H ∧ Post b c W G σ (fun a _ G' H' => ∀ v, RA b.K G' σ v a → Q v H') (f ρ)
def tV (b : Bs) (W : WX) (f : M Rv) : TE := fun σ H Q => ∃ c G ρ, SIG b c G ρ σ H ∧ Post b c W G σ (fun r ρ' G' H' => ∀ v, RN b c G' H' v r → Apart ρ' σ v r → Q v H') (f ρ)
def tT (b : Bs) (W : WX) (f : M Bool) : TT := fun σ H Q => ∃ c G ρ, SIG b c G ρ σ H ∧ Post b c W G σ (fun b _ _ H' => Q b H') (f ρ)
def Ras (K : Fg) (G : Hp) (σ : St) : List V → List Av → Prop := Paired (RA K G σ)
def tL (b : Bs) (W : WX) (f : M (List Av)) : TA := fun σ H Q => ∃ c G ρ, SIG b c G ρ σ H ∧ Post b c W G σ (fun as _ G' H' => ∀ vs, Ras b.K G' σ vs as → Q vs H') (f ρ)
def PostS (b : Bs) (c : Fc) (W : WX) (G : Hp) (D : Ends) : Out Fl → Prop
  | .ok .nx ρ => ∀ σ H' G', Same G G' → SIG b c G' ρ σ H' → D.nx σ H'
  | .ok .bk ρ => ∀ σ H' G', Same G G' → SIG b c G' ρ σ H' → D.bk σ H'
  | .ok .ct ρ => ∀ σ H' G', Same G G' → SIG b c G' ρ σ H' → D.ct σ H'
  | .ok (.rt r) ρ => ∀ v σ H' G', Same G G' → SIG b c G' ρ σ H' → RN b c G' H' v r → D.rt v H'
  | .err k ρ => ∀ σ H' G', Same G G' → SIG b c G' ρ σ H' → W (.ref (b.C k)) none σ H'
  | .bad => False
def tS (b : Bs) (W : WX) (f : M Fl) : TS := fun D σ H => ∃ c G ρ, c.Fn ∧ SIG b c G ρ σ H ∧ PostS b c W G D (f ρ)
theorem PostS.mono {b : Bs} {c : Fc} {W : WX} {G G' : Hp} {D : Ends} {o : Out Fl} (e : Same G G') (h : PostS b c W G D o) : PostS b c W G' D o := by
  cases o with
  | ok a ρ =>
    cases a with
    | nx => exact fun σ H1 G1 e1 S1 => h σ H1 G1 (e.trans e1) S1
    | bk => exact fun σ H1 G1 e1 S1 => h σ H1 G1 (e.trans e1) S1
    | ct => exact fun σ H1 G1 e1 S1 => h σ H1 G1 (e.trans e1) S1
    | rt r => exact fun v σ H1 G1 e1 S1 => h v σ H1 G1 (e.trans e1) S1
  | err k ρ => exact fun σ H1 G1 e1 S1 => h σ H1 G1 (e.trans e1) S1
  | bad => exact h
section
variable {X : Cx} {e : Expr}
theorem weakE {t t' : TE} (h : PE X e t) (w : ∀ σ H Q, t' σ H Q → t σ H Q) : PE X e t' := ⟨fun pins s σ H Q I q => h.run pins s σ H Q I (w σ H Q q)⟩
theorem weakT {t t' : TT} (h : PT X e t) (w : ∀ σ H Q, t' σ H Q → t σ H Q) : PT X e t' := ⟨fun pins s σ H Q I q => h.run pins s σ H Q I (w σ H Q q)⟩
theorem weakW {t t' : TT} (h : PW X e t) (w : ∀ σ H Q, t' σ H Q → t σ H Q) : PW X e t' := ⟨fun wh pins s σ H Q I q => h.run wh pins s σ H Q I (w σ H Q q)⟩
theorem weakA {es : List Expr} {t t' : TA} (h : PA X es t) (w : ∀ σ H Q, t' σ H Q → t σ H Q) : PA X es t' := ⟨fun p pins s σ H Q I q => h.run p pins s σ H Q I (w σ H Q q)⟩
theorem weakS {st : Stmt} {t t' : TS} (h : PS X st t) (w : ∀ D σ H, t' D σ H → t D σ H) : PS X st t' := ⟨fun pins s σ H D I q => h.run pins s σ H D I (w D σ H q)⟩
theorem weakB {st : List Stmt} {t t' : TS} (h : PSs X st t) (w : ∀ D σ H, t' D σ H → t D σ H) : PSs X st t' := ⟨fun pins s σ H D I q => h.run pins s σ H D I (w D σ H q)⟩
end
/-! names, constants, conversions -/
def varM (i : Nat) : M Av := fun ρ => match ρ[i]? with
  | some (some _) => .ok (.s i) ρ
  | _ => .bad
def frzM (f : M Rv) : M Av := bindM f fun r => match r with
  | .d x => retM (.d x)
  | .l xs => retM (.d (.list xs))
  | _ => badM
def dataM (f : M Av) : M Rv := bindM f fun a => optM fun ρ => (fzv ρ a).map Rv.d
section
variable {X : Cx} {b : Bs} {W : WX} {e : Expr} {f : M Av}
theorem m_var (i : Nat) {x : Str} {pos : Pos} (h : PE X (.Name x pos) (tVar i)) : PE X (.Name x pos) (tE b W (varM i)) := weakE h fun σ H Q ⟨c, G, ρ, S, q⟩ => by
  unfold varM at q
  split at q
  · rename_i sv hs
    obtain ⟨v, hv, _⟩ := S.sl i sv hs
    exact ⟨v, hv, q H G (Same.refl G) S v hv⟩
  · exact q.elim
theorem m_const {v : V} {x : Dt} (h : PE X e (tC v)) (r : ∀ K G, Rp K G v x) : PE X e (tE b W (retM (.d x))) := weakE h fun σ H Q ⟨c, G, ρ, S, q⟩ => q.ret S v (r _ _)
theorem m_int {i j pos} : PE X (.Constant (.int i) j pos) (tE b W (retM (.d (.int i)))) := m_const pe_int fun _ _ => .int i
theorem m_bl {i j pos} : PE X (.Constant (.bool i) j pos) (tE b W (retM (.d (.bool i)))) := m_const pe_bl fun _ _ => .bl i
theorem m_non {j pos} : PE X (.Constant .none j pos) (tE b W (retM (.d .none))) := m_const pe_non fun _ _ => .non
theorem m_str {i j pos} : PE X (.Constant (.str i) j pos) (tE b W (retM (.d (.str i)))) := m_const pe_str fun _ _ => .str i
theorem m_frz {f : M Rv} (h : PE X e (tV b W f)) : PE X e (tE b W (frzM f)) := weakE h fun σ H Q ⟨c, G, ρ, S, q⟩ => by
  refine ⟨c, G, ρ, S, (Post.bind q).imp fun r ρ1 G1 H1 e1 S1 q1 v hv ap => ?_⟩
  cases r with
  | d x => exact q1.ret S1 v hv
  | l xs =>
    obtain ⟨p, vs, rfl, h1, h2, h3, h4⟩ := hv
    obtain ⟨e2, S2⟩ := S1.freeze h1 h2 h4 (ap p rfl rfl)
    exact q1 H1 _ e2 S2 (.ref p) (.lst upd_same (Rps.mono e2 _ _ h3))
  | k kvs => exact q1.elim
  | t kvs => exact q1.elim
theorem m_data (h : PE X e (tE b W f)) : PE X e (tV b W (dataM f)) := weakE h fun σ H Q ⟨c, G, ρ, S, q⟩ => by
  refine ⟨c, G, ρ, S, (Post.bind q).imp fun a ρ1 G1 H1 e1 S1 q1 v hv => ?_⟩
  obtain ⟨r, h1, h2⟩ := q1.opt S1
  cases h : fzv ρ1 a with
  | none => rw [h] at h1; cases h1
  | some x =>
    rw [h] at h1
    cases h1
    exact h2 v (hv.fz S1 h) fun p _ z => by cases z
end
/-! operators: two operands, one -/
def bin2 (g : Dt → Dt → Option Rv) (fa fb : M Av) : M Rv := bindM fa fun a => bindM fb fun b => optM fun ρ => (res ρ a).bind fun x => (res ρ b).bind fun y => g x y
def un1 (g : Dt → Option Rv) (fa : M Av) : M Rv := bindM fa fun a => optM fun ρ => (res ρ a).bind g
/-- a rule on values does what g says of data -/
def Does2 (b : Bs) (r : R2) (g : Dt → Dt → Option Rv) : Prop := ∀ {c : Fc} {G H : Hp} {ρ : Ev} {σ : St} {x y : V} {dx dy : Dt} {z : Rv} {Q : VK}, SIG b c G ρ σ H → RO b.K G H x dx → RO b.K G H y dy → g dx dy = some z →
  (∀ v H' G', Same G G' → SIG b c G' ρ σ H' → RN b c G' H' v z → Apart ρ σ v z → Q v H') → r x y H Q
def Does1 (b : Bs) (r : V → Hp → VK → Prop) (g : Dt → Option Rv) : Prop := ∀ {c : Fc} {G H : Hp} {ρ : Ev} {σ : St} {x : V} {dx : Dt} {z : Rv} {Q : VK}, SIG b c G ρ σ H → RO b.K G H x dx → g dx = some z →
  (∀ v H' G', Same G G' → SIG b c G' ρ σ H' → RN b c G' H' v z → Apart ρ σ v z → Q v H') → r x H Q
section
variable {X : Cx} {b : Bs} {W : WX} {a a2 e : Expr} {fa fb : M Av}
theorem bin_core {r : R2} {g : Dt → Dt → Option Rv} (dz : Does2 b r g) {σ : St} {H : Hp} {Q : VK} (h : tV b W (bin2 g fa fb) σ H Q) : tOp r (tE b W fa) (tE b W fb) σ H Q := by
  obtain ⟨c, G, ρ, S, q⟩ := h
  refine ⟨c, G, ρ, S, (Post.bind q).imp fun aa ρ1 G1 H1 e1 S1 q1 v hv => ⟨c, G1, ρ1, S1, (Post.bind q1).imp fun ab ρ2 G2 H2 e2 S2 q2 u hu => ?_⟩⟩
  obtain ⟨z, h1, h2⟩ : ∃ z, _ = some z ∧ ∀ v' H' G', Same G2 G' → SIG b c G' ρ2 σ H' → RN b c G' H' v' z → Apart ρ2 σ v' z → Q v' H' := by
    unfold optM at q2
    split at q2
    · rename_i z hz
      exact ⟨z, hz, fun v' H' G' ee SS rr ap => q2 H' G' ee SS v' rr ap⟩
    · exact q2.elim
  dsimp only at h1
  cases hx : res ρ2 aa with
  | none => rw [hx] at h1; cases h1
  | some x =>
    cases hy : res ρ2 ab with
    | none => rw [hx, hy] at h1; cases h1
    | some y =>
      rw [hx, hy] at h1
      exact dz S2 ((hv.mono e2).res S2 hx) (hu.res S2 hy) h1 h2
theorem un_core {r : V → Hp → VK → Prop} {g : Dt → Option Rv} (dz : Does1 b r g) {σ : St} {H : Hp} {Q : VK} (h : tV b W (un1 g fa) σ H Q) : tUn r (tE b W fa) σ H Q := by
  obtain ⟨c, G, ρ, S, q⟩ := h
  refine ⟨c, G, ρ, S, (Post.bind q).imp fun a ρ1 G1 H1 e1 S1 q1 v hv => ?_⟩
  unfold optM at q1
  split at q1
  · rename_i z hz
    dsimp only at hz
    cases hx : res ρ1 a with
    | none => rw [hx] at hz; cases hz
    | some x =>
      rw [hx] at hz
      exact dz S1 (hv.res S1 hx) hz fun v' H' G' ee SS rr ap => q1 H' G' ee SS v' rr ap
  · exact q1.elim
theorem m_op {op : Operator} {r : R2} {g : Dt → Dt → Option Rv} {pos : Pos} (ho : OpR X (binaryOp op) r) (dz : Does2 b r g) (ha : PE X a (tE b W fa)) (hb : PE X a2 (tE b W fb)) : PE X (.BinOp a op a2 pos) (tV b W (bin2 g fa fb)) :=
  weakE (pe_op ho ha hb) fun _ _ _ h => bin_core dz h
theorem m_cmp {op : CmpOp} {r : R2} {g : Dt → Dt → Option Rv} {pos : Pos} (ho : OpR X (compareOp op) r) (dz : Does2 b r g) (ha : PE X a (tE b W fa)) (hb : PE X a2 (tE b W fb)) (hm : behindInMarks op a2 = false) : PE X (.Compare a [op] [a2] pos) (tV b W (bin2 g fa fb)) :=
  weakE (pe_cmpR ho ha hb hm) fun _ _ _ h => bin_core dz h
theorem m_ix {r : R2} {g : Dt → Dt → Option Rv} {pos : Pos} (ho : IxR X r) (dz : Does2 b r g) (ha : PE X a (tE b W fa)) (hb : PE X a2 (tE b W fb)) (hs : PlainIx a2) : PE X (.Subscript a a2 pos) (tV b W (bin2 g fa fb)) :=
  weakE (pe_ix ho ha hb hs) fun _ _ _ h => bin_core dz h
theorem m_un {op : UnaryOp} {r : V → Hp → VK → Prop} {g : Dt → Option Rv} {pos : Pos} (ho : UnR X (unaryOp op) r) (dz : Does1 b r g) (ha : PE X a (tE b W fa)) : PE X (.UnaryOp op a pos) (tV b W (un1 g fa)) :=
  weakE (pe_un ho ha) fun _ _ _ h => un_core dz h
end
end G8
namespace G8
open PySem L2
/-! tests -/
def truth : Dt → Option Bool
  | .none => some false
  | .bool b => some b
  | .int i => some (i != 0)
  | .str x => if x.length ≤ 1000000 then some ((x.length : Int) != 0) else none
  | .list xs => some (!xs.isEmpty)
  | .tuple xs => some (!xs.isEmpty)
  | .dict _ => none
def slotT : Option (Option Sv) → Option Bool
  | some (some (.d x)) => truth x
  | some (some (.ls _ xs)) => some (!xs.isEmpty)
  | some (some (.scr ns)) => some (!ns.isEmpty)
  | _ => none
def tru (ρ : Ev) : Av → Option Bool
  | .d x => truth x
  | .s i => slotT ρ[i]?
def testM (fa : M Av) : M Bool := bindM fa fun a => optM fun ρ => tru ρ a
def andM (fa fb : M Bool) : M Bool := bindM fa fun b => match b with
  | true => fb
  | false => retM false
def orM (fa fb : M Bool) : M Bool := bindM fa fun b => match b with
  | true => retM true
  | false => fb
def notM (fa : M Bool) : M Bool := bindM fa fun b => retM (!b)
def andV (fa fb : M Av) : M Av := bindM fa fun a => bindM (optM fun ρ => tru ρ a) fun b => match b with
  | true => fb
  | false => retM a
def orV (fa fb : M Av) : M Av := bindM fa fun a => bindM (optM fun ρ => tru ρ a) fun b => match b with
  | true => retM a
  | false => fb
def notV (fa : M Av) : M Av := bindM (testM fa) fun b => retM (.d (.bool (!b)))
def ifM {α : Type} (ft : M Bool) (fa fb : M α) : M α := bindM ft fun b => match b with
  | true => fa
  | false => fb
theorem isEmpty_rps {K : Fg} {G : Hp} {vs : List V} {ds : List Dt} (h : Rps K G vs ds) : ds.isEmpty = vs.isEmpty := by
  have := h.length
  cases vs <;> cases ds <;> first | rfl | (simp at this)
theorem truth_of {K : Fg} {G H : Hp} {v : V} {x : Dt} {k : Bool} (e : SameG G H) (h : RO K G H v x) (q : truth x = some k) : TruV K v H k := by
  cases x with
  | none => cases q; rw [h.none]; rfl
  | bool b => cases q; rw [h.bool]; rfl
  | int i => cases q; rw [h.int]; rfl
  | str y =>
    rw [h.str]
    have q : (if y.length ≤ 1000000 then some ((y.length : Int) != 0) else none) = some k := q
    split at q
    · rename_i hl
      cases q
      exact ⟨Nat.le_trans hl (by decide), rfl⟩
    · cases q
  | list ds =>
    obtain ⟨p, vs, rfl, h1, h2⟩ := h.list e
    cases q
    exact .inl ⟨vs, SqL.of h1, by rw [isEmpty_rps h2]⟩
  | tuple ds =>
    obtain ⟨p, vs, rfl, h1, h2⟩ := h.tup
    cases q
    exact .inr (.inl ⟨vs, same_sqT e h1, by rw [isEmpty_rps h2]⟩)
  | dict kvs => cases q
theorem tru_of {b : Bs} {c : Fc} {G H : Hp} {ρ : Ev} {σ : St} {v : V} {a : Av} {k : Bool} (S : SIG b c G ρ σ H) (h : RA b.K G σ v a) (q : tru ρ a = some k) : TruV b.K v H k := by
  cases a with
  | d x => exact truth_of S.gh (.inl h) q
  | s i =>
    have q : slotT ρ[i]? = some k := q
    unfold slotT at q
    split at q
    · rename_i y hy
      exact truth_of S.gh (RA.res (a := .s i) S h (by show slotD ρ[i]? = some y; rw [hy]; rfl)) q
    · rename_i r y hy
      cases q
      exact truth_of S.gh (RA.res (a := .s i) S h (by show slotD ρ[i]? = some (.list y); rw [hy]; rfl)) rfl
    · rename_i ns hy
      cases q
      obtain ⟨u, hu, p, rfl, r⟩ := S.sl i _ hy
      rw [show σ[i]? = some (some v) from h] at hu
      cases hu
      exact .inl ⟨_, S.gh.seq r, by cases ns <;> rfl⟩
    · cases q
section
variable {X : Cx} {b : Bs} {W : WX} {e a a2 : Expr} {fa fb : M Av} {ft fu : M Bool} {rest : List Expr} {pos : Pos}
theorem m_test (hK : X.K = b.K) (ha : PE X a (tE b W fa)) (he : ∀ whole, isTrue a X.env whole = (do let v ← whole; standAt a.pos; holding [v] (truthy v)) := by intro _; rfl) : PT X a (tT b W (testM fa)) :=
  weakT (pt_truth ha he) fun σ H Q ⟨c, G, ρ, S, q⟩ => ⟨c, G, ρ, S, (Post.bind q).imp fun z ρ1 G1 H1 e1 S1 q1 v hv => by
    obtain ⟨k, h1, h2⟩ := q1.opt S1
    exact ⟨k, by rw [hK]; exact tru_of S1 hv h1, h2⟩⟩
theorem m_and1 (ha : PT X a (tT b W ft)) : PW X (.BoolOp .And [a] pos) (tT b W ft) := pw_and1 ha
theorem m_or1 (ha : PT X a (tT b W ft)) : PW X (.BoolOp .Or [a] pos) (tT b W ft) := pw_or1 ha
theorem m_and (ha : PT X a (tT b W ft)) (hb : PW X (.BoolOp .And (a2 :: rest) pos) (tT b W fu)) : PW X (.BoolOp .And (a :: a2 :: rest) pos) (tT b W (andM ft fu)) :=
  weakW (pw_and ha hb) fun σ H Q ⟨c, G, ρ, S, q⟩ => ⟨c, G, ρ, S, (Post.bind q).imp fun z ρ1 G1 H1 e1 S1 q1 => by
    cases z with
    | true => exact iteT ⟨c, G1, ρ1, S1, q1⟩
    | false => exact iteF (q1.ret S1)⟩
theorem m_or (ha : PT X a (tT b W ft)) (hb : PW X (.BoolOp .Or (a2 :: rest) pos) (tT b W fu)) : PW X (.BoolOp .Or (a :: a2 :: rest) pos) (tT b W (orM ft fu)) :=
  weakW (pw_or ha hb) fun σ H Q ⟨c, G, ρ, S, q⟩ => ⟨c, G, ρ, S, (Post.bind q).imp fun z ρ1 G1 H1 e1 S1 q1 => by
    cases z with
    | true => exact iteT (q1.ret S1)
    | false => exact iteF ⟨c, G1, ρ1, S1, q1⟩⟩
theorem m_not (ha : PT X a (tT b W ft)) : PT X (.UnaryOp .Not a pos) (tT b W (notM ft)) :=
  weakT (pt_not ha) fun σ H Q ⟨c, G, ρ, S, q⟩ => ⟨c, G, ρ, S, (Post.bind q).imp fun z ρ1 G1 H1 e1 S1 q1 => q1.ret S1⟩
theorem m_one {op} (ha : PE X a (tE b W fa)) : PE X (.BoolOp op [a] pos) (tE b W fa) := pe_one ha
theorem m_andV (hK : X.K = b.K) (ha : PE X a (tE b W fa)) (hb : PE X (.BoolOp .And (a2 :: rest) pos) (tE b W fb)) : PE X (.BoolOp .And (a :: a2 :: rest) pos) (tE b W (andV fa fb)) :=
  weakE (pe_andT ha hb) fun σ H Q ⟨c, G, ρ, S, q⟩ => ⟨c, G, ρ, S, (Post.bind q).imp fun z ρ1 G1 H1 e1 S1 q1 v hv => by
    obtain ⟨k, h1, h2⟩ := (Post.bind q1).opt S1
    refine ⟨k, by rw [hK]; exact tru_of S1 hv h1, ?_⟩
    cases k with
    | true => exact iteT ⟨c, G1, ρ1, S1, h2⟩
    | false => exact iteF (h2.ret S1 v hv)⟩
theorem m_orV (hK : X.K = b.K) (ha : PE X a (tE b W fa)) (hb : PE X (.BoolOp .Or (a2 :: rest) pos) (tE b W fb)) : PE X (.BoolOp .Or (a :: a2 :: rest) pos) (tE b W (orV fa fb)) :=
  weakE (pe_orT ha hb) fun σ H Q ⟨c, G, ρ, S, q⟩ => ⟨c, G, ρ, S, (Post.bind q).imp fun z ρ1 G1 H1 e1 S1 q1 v hv => by
    obtain ⟨k, h1, h2⟩ := (Post.bind q1).opt S1
    refine ⟨k, by rw [hK]; exact tru_of S1 hv h1, ?_⟩
    cases k with
    | true => exact iteT (h2.ret S1 v hv)
    | false => exact iteF ⟨c, G1, ρ1, S1, h2⟩⟩
theorem m_notV (hK : X.K = b.K) (ha : PE X a (tE b W fa)) : PE X (.UnaryOp .Not a pos) (tE b W (notV fa)) :=
  weakE (pe_notT ha) fun σ H Q ⟨c, G, ρ, S, q⟩ => ⟨c, G, ρ, S, (Post.bind (Post.bind q)).imp fun z ρ1 G1 H1 e1 S1 q1 v hv => by
    obtain ⟨k, h1, h2⟩ := q1.opt S1
    exact ⟨k, by rw [hK]; exact tru_of S1 hv h1, h2.ret S1 _ (.bl _)⟩⟩
theorem m_ifE {cnd : Expr} (hc : PT X cnd (tT b W ft)) (ha : PE X a (tE b W fa)) (hb : PE X a2 (tE b W fb)) : PE X (.IfExp cnd a a2 pos) (tE b W (ifM ft fa fb)) :=
  weakE (pe_ifExp hc ha hb) fun σ H Q ⟨c, G, ρ, S, q⟩ => ⟨c, G, ρ, S, (Post.bind q).imp fun z ρ1 G1 H1 e1 S1 q1 => by
    cases z with
    | true => exact iteT ⟨c, G1, ρ1, S1, q1⟩
    | false => exact iteF ⟨c, G1, ρ1, S1, q1⟩⟩
theorem m_ifV {cnd : Expr} {fa fb : M Rv} (hc : PT X cnd (tT b W ft)) (ha : PE X a (tV b W fa)) (hb : PE X a2 (tV b W fb)) : PE X (.IfExp cnd a a2 pos) (tV b W (ifM ft fa fb)) :=
  weakE (pe_ifExp hc ha hb) fun σ H Q ⟨c, G, ρ, S, q⟩ => ⟨c, G, ρ, S, (Post.bind q).imp fun z ρ1 G1 H1 e1 S1 q1 => by
    cases z with
    | true => exact iteT ⟨c, G1, ρ1, S1, q1⟩
    | false => exact iteF ⟨c, G1, ρ1, S1, q1⟩⟩
end
/-! chains of two comparisons; g, g' give truths -/
def chainM (g g' : Dt → Dt → Option Bool) (fa fb fc : M Av) : M Av := bindM fa fun a => bindM fb fun b => bindM (optM fun ρ => (res ρ a).bind fun x => (res ρ b).bind fun y => g x y) fun k => match k with
  | true => bindM fc fun z => optM fun ρ => (res ρ b).bind fun y => (res ρ z).bind fun w => (g' y w).map fun t => .d (.bool t)
  | false => retM (.d (.bool false))
/-- a rule of comparison that only looks -/
def Tells (b : Bs) (r : R2) (g : Dt → Dt → Option Bool) : Prop := ∀ {c : Fc} {G H : Hp} {ρ : Ev} {σ : St} {x y : V} {dx dy : Dt} {z : Bool} {Q : VK}, SIG b c G ρ σ H → RO b.K G H x dx → RO b.K G H y dy → g dx dy = some z → Q (.bl z) H → r x y H Q
theorem Tells.does {b : Bs} {r : R2} {g : Dt → Dt → Option Bool} (t : Tells b r g) : Does2 b r (fun x y => (g x y).map fun z => .d (.bool z)) := fun {c G H ρ σ x y dx dy z Q} S hx hy e q => by
  dsimp only at e
  cases hz : g dx dy with
  | none => rw [hz] at e; cases e
  | some w =>
    rw [hz] at e
    cases e
    exact t S hx hy hz (q _ H G (Same.refl G) S (.bl w) fun p _ z => by cases z)
section
variable {X : Cx} {b : Bs} {W : WX} {a a2 a3 : Expr} {fa fb fc : M Av} {pos : Pos}
theorem chain_core {r r' : R2} {g g' : Dt → Dt → Option Bool} (t : Tells b r g) (t' : Tells b r' g') {σ : St} {H : Hp} {Q : VK} (h : tE b W (chainM g g' fa fb fc) σ H Q) : tChain r r' (tE b W fa) (tE b W fb) (tE b W fc) σ H Q := by
  obtain ⟨c, G, ρ, S, q⟩ := h
  refine ⟨c, G, ρ, S, (Post.bind q).imp fun xa ρ1 G1 H1 e1 S1 q1 v hv => ⟨c, G1, ρ1, S1, (Post.bind q1).imp fun xb ρ2 G2 H2 e2 S2 q2 u hu => ?_⟩⟩
  obtain ⟨k, h1, h2⟩ := (Post.bind q2).opt S2
  cases hx : res ρ2 xa with
  | none => rw [hx] at h1; cases h1
  | some x =>
    cases hy : res ρ2 xb with
    | none => rw [hx, hy] at h1; cases h1
    | some y =>
      rw [hx, hy] at h1
      refine t S2 ((hv.mono e2).res S2 hx) (hu.res S2 hy) h1 ⟨k, rfl, ?_⟩
      cases k with
      | false => exact iteF (h2.ret S2 _ (.bl false))
      | true =>
        refine iteT ⟨c, G2, ρ2, S2, (Post.bind h2).imp fun xc ρ3 G3 H3 e3 S3 q3 w hw => ?_⟩
        obtain ⟨m, h3, h4⟩ := q3.opt S3
        cases hy3 : res ρ3 xb with
        | none => rw [hy3] at h3; cases h3
        | some y3 =>
          cases hz3 : res ρ3 xc with
          | none => rw [hy3, hz3] at h3; cases h3
          | some z3 =>
            rw [hy3, hz3] at h3
            dsimp only [Option.bind_some] at h3
            cases hg : g' y3 z3 with
            | none => rw [hg] at h3; cases h3
            | some tt =>
              rw [hg] at h3
              cases h3
              exact t' S3 ((hu.mono e3).res S3 hy3) (hw.res S3 hz3) hg (h4 _ (.bl tt))
theorem m_chain {op op' : CmpOp} {r r' : R2} {g g' : Dt → Dt → Option Bool} (ho : OpR X (compareOp op) r) (t : Tells b r g) (ho' : OpR X (compareOp op') r') (t' : Tells b r' g') (ha : PE X a (tE b W fa)) (hb : PE X a2 (tE b W fb)) (hc : PE X a3 (tE b W fc))
    (hm : lastMarks [op, op'] [a2, a3] = false := by with_unfolding_all rfl) : PE X (.Compare a [op, op'] [a2, a3] pos) (tE b W (chainM g g' fa fb fc)) := weakE (pe_chain ho ho' ha hb hc hm) fun _ _ _ h => chain_core t t' h
def chainT (g g' : Dt → Dt → Option Bool) (fa fb fc : M Av) : M Bool := bindM (chainM g g' fa fb fc) fun a => match a with
  | .d (.bool k) => retM k
  | _ => badM
theorem m_chainT {op op' : CmpOp} {r r' : R2} {g g' : Dt → Dt → Option Bool} (ho : OpR X (compareOp op) r) (t : Tells b r g) (ho' : OpR X (compareOp op') r') (t' : Tells b r' g') (ha : PE X a (tE b W fa)) (hb : PE X a2 (tE b W fb)) (hc : PE X a3 (tE b W fc))
    (hm : lastMarks [op, op'] [a2, a3] = false := by with_unfolding_all rfl) : PT X (.Compare a [op, op'] [a2, a3] pos) (tT b W (chainT g g' fa fb fc)) := weakT (pt_chain ho ho' ha hb hc hm) fun σ H Q h => by
  refine chain_core (W := W) t t' ?_
  obtain ⟨c, G, ρ, S, q⟩ := h
  refine ⟨c, G, ρ, S, (Post.bind q).imp fun z ρ1 G1 H1 e1 S1 q1 v hv => ?_⟩
  split at q1
  · cases hv
    exact ⟨_, rfl, q1.ret S1⟩
  · exact q1.elim
end
/-! argument lists, displays -/
def consM (fe : M Av) (fs : M (List Av)) : M (List Av) := bindM fe fun a => bindM fs fun as => retM (a :: as)
def fzs (ρ : Ev) : List Av → Option (List Dt)
  | [] => some []
  | a :: as => (fzv ρ a).bind fun x => (fzs ρ as).map fun xs => x :: xs
def lstM (fl : M (List Av)) : M Rv := bindM fl fun as => optM fun ρ => if as.length ≤ 1000 then (fzs ρ as).map Rv.l else none
def tupM (fl : M (List Av)) : M Av := bindM fl fun as => bindM (optM fun ρ => if as.length ≤ 1000 then fzs ρ as else none) fun xs => retM (.d (.tuple xs))
theorem fzs_of {b : Bs} {c : Fc} {G H : Hp} {ρ : Ev} {σ : St} (S : SIG b c G ρ σ H) : ∀ {vs : List V} {as : List Av} {xs : List Dt}, Ras b.K G σ vs as → fzs ρ as = some xs → Rps b.K G vs xs
  | _, [], _, h, e => by
    cases h
    cases e
    exact .nil
  | _, a :: as, _, h, e => by
    cases h with
    | cons h1 h2 =>
      unfold fzs at e
      cases hx : fzv ρ a with
      | none => rw [hx] at e; cases e
      | some x =>
        rw [hx] at e
        cases hy : fzs ρ as with
        | none => rw [hy] at e; cases e
        | some ys =>
          rw [hy] at e
          cases e
          exact .cons (h1.fz S hx) (fzs_of S h2 hy)
section
variable {X : Cx} {b : Bs} {W : WX} {e : Expr} {es : List Expr} {fe : M Av} {fs : M (List Av)} {pos : Pos}
theorem m_nil : PA X [] (tL b W (retM [])) := weakA pa_nil fun σ H Q ⟨c, G, ρ, S, q⟩ => q.ret S [] .nil
theorem m_cons (ha : PE X e (tE b W fe)) (hr : PA X es (tL b W fs)) (hs : starEach (e :: es) X.env = (false, eval e X.env) :: starEach es X.env := by rfl) : PA X (e :: es) (tL b W (consM fe fs)) :=
  weakA (pa_cons ha hr hs) fun σ H Q ⟨c, G, ρ, S, q⟩ => ⟨c, G, ρ, S, (Post.bind q).imp fun a ρ1 G1 H1 e1 S1 q1 v hv => ⟨c, G1, ρ1, S1, (Post.bind q1).imp fun as ρ2 G2 H2 e2 S2 q2 vs hvs =>
    q2.ret S2 (v :: vs) (.cons (hv.mono e2) hvs)⟩⟩
theorem m_lst (h : PA X es (tL b W fs)) : PE X (.List es pos) (tV b W (lstM fs)) := weakE (pe_lst h) fun σ H Q ⟨c, G, ρ, S, q⟩ => ⟨c, G, ρ, S, (Post.bind q).imp fun as ρ1 G1 H1 e1 S1 q1 vs hvs => by
  have hl := Paired.length hvs
  unfold optM at q1
  split at q1
  · rename_i z hz
    dsimp only at hz
    split at hz
    · rename_i hn
      cases hx : fzs ρ1 as with
      | none => rw [hx] at hz; cases hz
      | some xs =>
        rw [hx] at hz
        cases hz
        refine ⟨by rw [hl]; exact Nat.le_trans hn (by decide), fun p hp => ?_⟩
        refine q1 _ G1 (Same.refl G1) (S1.alloc hp) (.ref p) ⟨p, vs, rfl, upd_same, S1.free hp, fzs_of S1 hvs hx, S1.fresh0 hp⟩ fun p' ep _ => ?_
        cases ep
        exact S1.noOwn hp
    · cases hz
  · exact q1.elim⟩
theorem m_tup {x1} (h : PA X es (tL b W fs)) : PE X (.Tuple es x1 pos) (tE b W (tupM fs)) := weakE (pe_tup h) fun σ H Q ⟨c, G, ρ, S, q⟩ => ⟨c, G, ρ, S, (Post.bind q).imp fun as ρ1 G1 H1 e1 S1 q1 vs hvs => by
  have hl := Paired.length hvs
  obtain ⟨xs, h1, h2⟩ := (Post.bind q1).opt S1
  split at h1
  · rename_i hn
    refine ⟨by rw [hl]; exact Nat.le_trans hn (by decide), fun p hp => ?_⟩
    obtain ⟨e2, S2⟩ := S1.lay (o := .tup vs) hp
    exact (Post.mono e2 h2).ret S2 (.ref p) (.tup (.inl upd_same) (Rps.mono e2 _ _ (fzs_of S1 hvs h1)))
  · cases h1⟩
end
end G8
namespace G8
open PySem L2
/-! statements -/
def seqM (f g : M Fl) : M Fl := fun ρ => match f ρ with
  | .ok .nx ρ' => g ρ'
  | o => o
theorem PostS.bind {α : Type} {b : Bs} {c : Fc} {W : WX} {G : Hp} {ρ : Ev} {D : Ends} {f : M α} {g : α → M Fl} (σ : St) (h : PostS b c W G D (bindM f g ρ)) : Post b c W G σ (fun a ρ1 G1 _ => PostS b c W G1 D (g a ρ1)) (f ρ) := by
  unfold bindM at h
  cases e : f ρ with
  | ok z ρ1 =>
    rw [e] at h
    exact fun H1 G1 e1 S1 => PostS.mono e1 h
  | err k ρ1 =>
    rw [e] at h
    exact h σ
  | bad =>
    rw [e] at h
    exact h
theorem PostS.seq {b : Bs} {c : Fc} {W : WX} {G : Hp} {ρ : Ev} {D : Ends} {f g : M Fl} {N : St → Hp → Prop} (h : PostS b c W G D (seqM f g ρ)) (hn : ∀ σ H' G' ρ', Same G G' → SIG b c G' ρ' σ H' → PostS b c W G' D (g ρ') → N σ H') : PostS b c W G { D with nx := N } (f ρ) := by
  unfold seqM at h
  cases e : f ρ with
  | ok z ρ1 =>
    rw [e] at h
    cases z with
    | nx => exact fun σ H1 G1 e1 S1 => hn σ H1 G1 ρ1 e1 S1 (PostS.mono e1 h)
    | bk => exact h
    | ct => exact h
    | rt r => exact h
  | err k ρ1 =>
    rw [e] at h
    exact h
  | bad =>
    rw [e] at h
    exact h
section
variable {X : Cx} {b : Bs} {W : WX} {st : Stmt} {sts us : List Stmt} {f g : M Fl} {pos : Pos}
theorem s_one (h : PS X st (tS b W f)) : PSs X [st] (tS b W f) := pss_one h
theorem s_nil : PSs X [] (tS b W (retM .nx)) := weakB pss_nil fun D σ H ⟨c, G, ρ, hb, S, q⟩ => q σ H G (Same.refl G) S
theorem s_cons (h1 : PS X st (tS b W f)) (h2 : PSs X sts (tS b W g)) : PSs X (st :: sts) (tS b W (seqM f g)) := weakB (pss_cons h1 h2) fun D σ H ⟨c, G, ρ, hb, S, q⟩ =>
  ⟨c, G, ρ, hb, S, q.seq fun σ' H' G' ρ' e' S' q' => ⟨c, G', ρ', hb, S', q'⟩⟩
theorem s_pass : PS X (.Pass pos) (tS b W (retM .nx)) := weakS ps_pass fun D σ H ⟨c, G, ρ, hb, S, q⟩ => q σ H G (Same.refl G) S
theorem s_break : PS X (.Break pos) (tS b W (retM .bk)) := weakS ps_break fun D σ H ⟨c, G, ρ, hb, S, q⟩ => q σ H G (Same.refl G) S
theorem s_continue : PS X (.Continue pos) (tS b W (retM .ct)) := weakS ps_continue fun D σ H ⟨c, G, ρ, hb, S, q⟩ => q σ H G (Same.refl G) S
theorem s_if {cnd : Expr} {ft : M Bool} (hc : PT X cnd (tT b W ft)) (ha : PSs X sts (tS b W f)) (hu : PSs X us (tS b W g)) : PS X (.If cnd sts us pos) (tS b W (ifM ft f g)) :=
  weakS (ps_if hc ha hu) fun D σ H ⟨c, G, ρ, hb, S, q⟩ => ⟨c, G, ρ, S, (PostS.bind σ q).imp fun z ρ1 G1 H1 e1 S1 q1 => by
    cases z with
    | true => exact iteT ⟨c, G1, ρ1, hb, S1, q1⟩
    | false => exact iteF ⟨c, G1, ρ1, hb, S1, q1⟩⟩
end
/-! storing a name -/
def refAt : Option (Option Sv) → Bool
  | some (some s) => s.isRef
  | _ => false
def Rv.sv : Rv → Sv
  | .d x => .d x
  | .l xs => .ls false xs
  | .k xs => .dk false xs
  | .t xs => .dt false xs
def putM (i : Nat) (s : Option Sv) : M Unit := fun ρ => if refAt ρ[i]? then .bad else .ok () (ρ.set i s)
def setM (i : Nat) (f : M Rv) : M Fl := bindM f fun r => bindM (putM i (some r.sv)) fun _ => retM .nx
theorem sv_ref (r : Rv) : r.sv.isRef = false := by cases r <;> rfl
theorem sv_mt (r : Rv) : r.sv.isMt = false := by cases r <;> rfl
theorem sv_own (r : Rv) : r.sv.own = r.new := by cases r <;> rfl
theorem sv_rs {b : Bs} {c : Fc} {G H : Hp} {v : V} {r : Rv} (h : RN b c G H v r) : RS b.K b.C G H v r.sv := by
  cases r with
  | d x => exact h
  | l xs => obtain ⟨p, vs, h1, h2, h3, h4, _⟩ := h; exact ⟨p, vs, h1, h2, h3, h4⟩
  | k xs => obtain ⟨p, vs, h1, h2, h3, h4, _⟩ := h; exact ⟨p, vs, h1, h2, h3, h4⟩
  | t xs => obtain ⟨p, vs, h1, h2, h3, h4, _⟩ := h; exact ⟨p, vs, h1, h2, h3, h4⟩
theorem rn_new {b : Bs} {c : Fc} {G H : Hp} {v : V} {r : Rv} (h : RN b c G H v r) (hn : r.new = true) {p : Addr} (hp : v = .ref p) : c.H0 p = none := by
  cases r with
  | d x => cases hn
  | l xs => obtain ⟨q, vs, h1, _, _, _, h5⟩ := h; rw [hp] at h1; cases h1; exact h5
  | k xs => obtain ⟨q, vs, h1, _, _, _, h5⟩ := h; rw [hp] at h1; cases h1; exact h5
  | t xs => obtain ⟨q, vs, h1, _, _, _, h5⟩ := h; rw [hp] at h1; cases h1; exact h5
theorem refAt_of {c : Fc} {ρ : Ev} {i : Nat} (hb : c.Fn) (h : ¬ refAt ρ[i]? = true) : Open c ρ i := fun s e => by
  rw [e] at h
  exact .inr ⟨hb, Bool.eq_false_iff.mpr h⟩
theorem set_rn {b : Bs} {c : Fc} {G H : Hp} {ρ : Ev} {σ : St} {v : V} {r : Rv} {i : Nat} (S : SIG b c G ρ σ H) (h : RN b c G H v r) (ap : Apart ρ σ v r) (hr : Open c ρ i) : SIG b c G (ρ.set i (some r.sv)) (σ.set i (some v)) H :=
  S.set (sv_rs h) hr (fun p ep ho => ⟨ap p ep (by rw [← sv_own]; exact ho), rn_new h (by rw [← sv_own]; exact ho) ep⟩) (sv_mt r)
section
variable {X : Cx} {b : Bs} {W : WX} {e : Expr} {pos pos' : Pos} {x : Str} {i : Nat}
theorem setM_core {f : M Rv} {D : Ends} {σ : St} {H : Hp} (h : tS b W (setM i f) D σ H) : tAsg (tV b W f) (gName i) D σ H := by
  obtain ⟨c, G, ρ, hb, S, q⟩ := h
  refine ⟨c, G, ρ, S, (PostS.bind σ q).imp fun r ρ1 G1 H1 e1 S1 q1 v hv ap => ?_⟩
  show D.nx (σ.set i (some v)) H1
  unfold bindM putM at q1
  by_cases hr : refAt ρ1[i]? = true
  · rw [if_pos hr] at q1
    exact q1.elim
  · rw [if_neg hr] at q1
    exact q1 _ H1 G1 (Same.refl G1) (set_rn S1 hv ap (refAt_of hb hr))
theorem s_set {f : M Rv} (hN : X.N.Nodup) (hi : X.N[i]? = some x) (hx : Loc X.env.scope x) (he : PE X e (tV b W f)) (hs : swapsWith e (some (.Name x pos')) pos.line X.env = pure false := by rfl)
    (hf : X.fn x = true ∨ X.env.scope.names.lookup x = some .local := by first | exact .inl rfl | exact .inr rfl | assumption) : PS X (.Assign [.Name x pos'] e pos) (tS b W (setM i f)) :=
  weakS (ps_set hN hi hx he hs hf) fun D σ H h => setM_core h
/-! return -/
def retS (f : M Rv) : M Fl := bindM f fun r => retM (.rt r)
theorem s_ret {f : M Rv} (he : PE X e (tV b W f)) : PS X (.Return (some e) pos) (tS b W (retS f)) := weakS (ps_ret he) fun D σ H ⟨c, G, ρ, hb, S, q⟩ =>
  ⟨c, G, ρ, S, (PostS.bind σ q).imp fun r ρ1 G1 H1 e1 S1 q1 v hv ap => q1 v σ H1 G1 (Same.refl G1) S1 hv⟩
theorem s_retN : PS X (.Return none pos) (tS b W (retM (.rt (.d .none)))) := weakS ps_retN fun D σ H ⟨c, G, ρ, hb, S, q⟩ => q .non σ H G (Same.refl G) S .non
/-- return x, x a slot: the list goes with it -/
def slotR : Option (Option Sv) → Option Rv
  | some (some (.d x)) => some (.d x)
  | some (some (.ls false xs)) => some (.l xs)
  | some (some (.dk false xs)) => some (.k xs)
  | some (some (.dt false xs)) => some (.t xs)
  | _ => none
def retO (i : Nat) : M Fl := bindM (optM fun ρ => slotR ρ[i]?) fun r => retM (.rt r)
theorem s_retO {n : Str} (i : Nat) (h : PE X (.Name n pos') (tVar i)) : PS X (.Return (some (.Name n pos')) pos) (tS b W (retO i)) := weakS (ps_ret h) fun D σ H ⟨c, G, ρ, hb, S, q⟩ => by
  obtain ⟨r, h1, h2⟩ := (PostS.bind σ q).opt S
  have own : ∀ sv p, ρ[i]? = some (some sv) → sv.own = true → sv.isRef = false → σ[i]? = some (some (.ref p)) → c.H0 p = none := fun sv p e ho hr hp => by
    rcases S.nw i sv p e ho hp with z | z
    · exact z
    · obtain ⟨f, z⟩ := z
      exact absurd z (S.noRef (fun s q => by rw [e] at q; cases q; exact .inr ⟨hb, hr⟩) p f)
  cases hq : ρ[i]? with
  | none => rw [hq] at h1; cases h1
  | some o =>
    cases o with
    | none => rw [hq] at h1; cases h1
    | some sv =>
      obtain ⟨v, hv, rs⟩ := S.sl i sv hq
      refine ⟨v, hv, h2 v σ H G (Same.refl G) S ?_⟩
      rw [hq] at h1
      cases sv with
      | d y => cases h1; exact rs
      | ls rr y =>
        cases rr
        · cases h1
          obtain ⟨p, vs, rfl, r2, r3, r4⟩ := rs
          exact ⟨p, vs, rfl, r2, r3, r4, own _ p hq rfl rfl hv⟩
        · cases h1
      | dk rr y =>
        cases rr
        · cases h1
          obtain ⟨p, vs, rfl, r2, r3, r4⟩ := rs
          exact ⟨p, vs, rfl, r2, r3, r4, own _ p hq rfl rfl hv⟩
        · cases h1
      | dt rr y =>
        cases rr
        · cases h1
          obtain ⟨p, vs, rfl, r2, r3, r4⟩ := rs
          exact ⟨p, vs, rfl, r2, r3, r4, own _ p hq rfl rfl hv⟩
        · cases h1
      | ex k => cases h1
      | scr ns => cases h1
      | fk kvs => cases h1
      | ft kvs => cases h1
      | mt rr m => cases h1
/-! a ghost: the list of a slot is shared -/
def shareM (i : Nat) : M Unit := fun ρ => match ρ[i]? with
  | some (some (.ls false xs)) => .ok () (ρ.set i (some (.d (.list xs))))
  | some (some (.d _)) => .ok () ρ
  | _ => .bad
theorem share_ok {c : Fc} {G H : Hp} {ρ ρ' : Ev} {σ : St} (hb : c.Fn) (S : SIG b c G ρ σ H) (h : shareM i ρ = .ok () ρ') : ∃ G', Same G G' ∧ SIG b c G' ρ' σ H := by
  unfold shareM at h
  split at h
  · rename_i xs hx
    cases h
    exact S.share hb hx
  · cases h
    exact ⟨G, Same.refl G, S⟩
  · cases h
def withS {α : Type} (i : Nat) (f : M α) : M α := bindM (shareM i) fun _ => f
theorem shareM_cases (ρ : Ev) (i : Nat) : (∃ ρ', shareM i ρ = .ok () ρ') ∨ shareM i ρ = .bad := by
  unfold shareM
  split
  · exact .inl ⟨_, rfl⟩
  · exact .inl ⟨_, rfl⟩
  · exact .inr rfl
theorem s_share {st : Stmt} {f : M Fl} (i : Nat) (h : PS X st (tS b W f)) : PS X st (tS b W (withS i f)) := weakS h fun D σ H ⟨c, G, ρ, hb, S, q⟩ => by
  unfold withS bindM at q
  rcases shareM_cases ρ i with ⟨ρ', e⟩ | e
  · rw [e] at q
    obtain ⟨G', e1, S1⟩ := share_ok hb S e
    exact ⟨c, G', ρ', hb, S1, q.mono e1⟩
  · rw [e] at q
    exact q.elim
theorem ss_share {st : List Stmt} {f : M Fl} (i : Nat) (h : PSs X st (tS b W f)) : PSs X st (tS b W (withS i f)) := weakB h fun D σ H ⟨c, G, ρ, hb, S, q⟩ => by
  unfold withS bindM at q
  rcases shareM_cases ρ i with ⟨ρ', e⟩ | e
  · rw [e] at q
    obtain ⟨G', e1, S1⟩ := share_ok hb S e
    exact ⟨c, G', ρ', hb, S1, q.mono e1⟩
  · rw [e] at q
    exact q.elim
end
/-! targets -/
inductive Tgt where
  | one (i : Nat)
  | tup (is : List Nat)
def Tgt.slots : Tgt → List Nat
  | .one i => [i]
  | .tup is => is
def gNs : List Nat → TGs
  | [] => gNil
  | i :: is => gCons (gName i) (gNs is)
def gRaw (K : Fg) : Tgt → TG
  | .one i => gName i
  | .tup is => gTup K is.length (gNs is)
def ownAt : Option (Option Sv) → Bool
  | some (some s) => s.own
  | _ => false
def putD (i : Nat) (d : Dt) : M Unit := fun ρ => if ownAt ρ[i]? then .bad else .ok () (ρ.set i (some (.d d)))
def putDs : List Nat → List Dt → M Unit
  | [], [] => retM ()
  | i :: is, d :: ds => bindM (putD i d) fun _ => putDs is ds
  | _, _ => badM
def putT : Tgt → Dt → M Unit
  | .one i, d => putD i d
  | .tup is, .tuple ds => putDs is ds
  | _, _ => badM
theorem ownAt_of {c : Fc} {ρ : Ev} {i : Nat} (h : ¬ ownAt ρ[i]? = true) : Open c ρ i := fun s e => by
  rw [e] at h
  exact .inl (Bool.eq_false_iff.mpr h)
theorem wipe_set (σ : St) (i : Nat) (w : Option V) : ∀ is : List Nat, i ∈ is → wipe (σ.set i w) is = wipe σ is
  | [], h => by cases h
  | j :: is, h => by
    unfold wipe
    by_cases hj : i = j
    · subst hj
      by_cases hm : i ∈ is
      · rw [wipe_set σ i w is hm]
      · rw [wipe_comm σ i w is hm, List.set_set]
    · rw [wipe_set σ i w is (by simpa [hj] using h)]
where wipe_comm (σ : St) (i : Nat) (w : Option V) : ∀ is : List Nat, i ∉ is → wipe (σ.set i w) is = (wipe σ is).set i w
  | [], _ => rfl
  | j :: is, h => by
    unfold wipe
    rw [List.mem_cons, not_or] at h
    rw [wipe_comm σ i w is h.2, List.set_comm _ _ h.1]
section
variable {b : Bs} {c : Fc} {G H : Hp} {ρ ρ' : Ev} {σ : St} {v : V} {d : Dt}
theorem putD_ok {i : Nat} (S : SIG b c G ρ σ H) (r : Rp b.K G v d) (e : putD i d ρ = .ok () ρ') : SIG b c G ρ' (σ.set i (some v)) H := by
  unfold putD at e
  split at e
  · cases e
  · rename_i hr
    cases e
    exact S.set (v := v) (sv := .d d) r (ownAt_of hr) fun _ _ z => by cases z
theorem putDs_ok : ∀ {is : List Nat} {vs : List V} {ds : List Dt} {ρ ρ' : Ev} {σ : St} {Q : St → Hp → Prop} (all : List Nat) (σ0 : St), (∀ i ∈ is, i ∈ all) → wipe σ all = wipe σ0 all → SIG b c G ρ σ H → Rps b.K G vs ds → putDs is ds ρ = .ok () ρ' →
    (∀ σ', SIG b c G ρ' σ' H → wipe σ' all = wipe σ0 all → Q σ' H) → gNs is vs σ H Q
  | [], vs, [], ρ, ρ', σ, Q, all, σ0, hm, hw, S, r, e, q => by
    cases r
    cases e
    exact ⟨rfl, q σ S hw⟩
  | [], vs, _ :: _, ρ, ρ', σ, Q, all, σ0, hm, hw, S, r, e, q => by cases e
  | _ :: _, vs, [], ρ, ρ', σ, Q, all, σ0, hm, hw, S, r, e, q => by cases e
  | i :: is, vs, d :: ds, ρ, ρ', σ, Q, all, σ0, hm, hw, S, r, e, q => by
    cases r with
    | cons r1 r2 =>
      have e : bindM (putD i d) (fun _ => putDs is ds) ρ = .ok () ρ' := e
      unfold bindM at e
      cases e1 : putD i d ρ with
      | ok z ρ1 =>
        rw [e1] at e
        refine ⟨_, _, rfl, ?_⟩
        exact putDs_ok all σ0 (fun j hj => hm j (List.mem_cons_of_mem _ hj)) ((wipe_set σ i _ all (hm i List.mem_cons_self)).trans hw) (putD_ok S r1 e1) r2 e q
      | err k ρ1 => rw [e1] at e; cases e
      | bad => rw [e1] at e; cases e
theorem putT_ok {t : Tgt} {Q : St → Hp → Prop} (S : SIG b c G ρ σ H) (r : Rp b.K G v d) (e : putT t d ρ = .ok () ρ') (q : ∀ σ', SIG b c G ρ' σ' H → wipe σ' t.slots = wipe σ t.slots → Q σ' H) : gRaw b.K t v σ H Q := by
  cases t with
  | one i => exact q _ (putD_ok S r e) (wipe_set σ i _ [i] List.mem_cons_self)
  | tup is =>
    cases d with
    | tuple ds =>
      cases r with
      | tup r1 r2 =>
        have hl : ∀ {is : List Nat} {ds : List Dt} {ρ ρ' : Ev}, putDs is ds ρ = .ok () ρ' → ds.length = is.length := by
          intro is
          induction is with
          | nil =>
            intro ds ρ ρ' e
            cases ds with
            | nil => rfl
            | cons _ _ => cases e
          | cons i is ih =>
            intro ds ρ ρ' e
            cases ds with
            | nil => cases e
            | cons x xs =>
              have e : bindM (putD i x) (fun _ => putDs is xs) ρ = .ok () ρ' := e
              unfold bindM at e
              cases e1 : putD i x ρ with
              | ok z ρ1 =>
                rw [e1] at e
                rw [List.length_cons, List.length_cons, ih e]
              | err k ρ1 => rw [e1] at e; cases e
              | bad => rw [e1] at e; cases e
        refine ⟨_, _, rfl, same_sqT S.gh r1.sq, by rw [r2.length]; exact hl e, ?_⟩
        exact putDs_ok is σ (fun _ z => z) rfl S r2 e q
    | _ => cases e
theorem putT_noerr {t : Tgt} {d : Dt} {ρ : Ev} (k : Nat) (ρ' : Ev) : putT t d ρ ≠ .err k ρ' := by
  have h1 : ∀ i d ρ, putD i d ρ ≠ .err k ρ' := fun i d ρ e => by
    unfold putD at e
    split at e <;> cases e
  have h2 : ∀ (is : List Nat) (ds : List Dt) (ρ : Ev), putDs is ds ρ ≠ .err k ρ' := by
    intro is
    induction is with
    | nil =>
      intro ds ρ e
      cases ds <;> cases e
    | cons i is ih =>
      intro ds ρ e
      cases ds with
      | nil => cases e
      | cons x xs =>
        have e : bindM (putD i x) (fun _ => putDs is xs) ρ = .err k ρ' := e
        unfold bindM at e
        cases e1 : putD i x ρ with
        | ok z ρ1 => rw [e1] at e; exact ih _ _ e
        | err k1 ρ1 => rw [e1] at e; exact h1 _ _ _ (e1.trans e)
        | bad => rw [e1] at e; cases e
  intro e
  cases t with
  | one i => exact h1 _ _ _ e
  | tup is =>
    cases d with
    | tuple ds => exact h2 _ _ _ e
    | _ => cases e
end
/-- targets = e -/
def asgM (fe : M Av) (t : Tgt) : M Fl := bindM fe fun a => bindM (optM fun ρ => fzv ρ a) fun d => bindM (putT t d) fun _ => retM .nx
section
variable {X : Cx} {b : Bs} {W : WX} {pos : Pos}
theorem s_asg {tg e : Expr} {fe : M Av} {t : Tgt} (hK : X.K = b.K) (he : PE X e (tE b W fe)) (hg : PG X tg (gRaw X.K t)) (hp : ∀ {te : TE} {g : TG}, PE X e te → PG X tg g → PS X (.Assign [tg] e pos) (tAsg te g)) : PS X (.Assign [tg] e pos) (tS b W (asgM fe t)) :=
  weakS (hp he hg) fun D σ H ⟨c, G, ρ, hb, S, q⟩ => ⟨c, G, ρ, S, (PostS.bind σ q).imp fun a ρ1 G1 H1 e1 S1 q1 v hv => by
    obtain ⟨d, h1, h2⟩ := (PostS.bind σ q1).opt S1
    rw [hK]
    unfold bindM at h2
    cases e2 : putT t d ρ1 with
    | ok z ρ2 =>
      rw [e2] at h2
      exact putT_ok S1 (hv.fz S1 h1) e2 fun σ' S' _ => h2 σ' H1 G1 (Same.refl G1) S'
    | err k ρ2 => exact absurd e2 (putT_noerr k ρ2)
    | bad => rw [e2] at h2; exact h2.elim⟩
end
/-! what a for walks -/
structure Yl (K : Fg) (G : Hp) (J : It) (ds : List Dt) : Prop where
  go : ∀ i H, SameG G H → i < ds.length → J.go i H
  yl : ∀ i H x H', SameG G H → i < ds.length → J.yld i H x H' → H' = H ∧ ∃ d, ds[i]? = some d ∧ Rp K G x d
  st : ∀ H, SameG G H → J.stop ds.length H
def tI (b : Bs) (W : WX) (f : M (List Dt)) : TI := fun σ H R => ∃ c G ρ, SIG b c G ρ σ H ∧ Post b c W G σ (fun ds _ G' H' => ∀ J, Yl b.K G' J ds → R J H') (f ρ)
def seqOf : Dt → Option (List Dt)
  | .list xs => some xs
  | _ => none
def tupOf : Dt → Option (List Dt)
  | .tuple xs => some xs
  | _ => none
/-- over a list that is frozen; over a tuple -/
def itM (fa : M Av) : M (List Dt) := bindM fa fun a => optM fun ρ => (fzv ρ a).bind seqOf
def itT (fa : M Av) : M (List Dt) := bindM fa fun a => optM fun ρ => (fzv ρ a).bind tupOf
theorem yl_list {K : Fg} {G : Hp} {p : Addr} {vs : List V} {ds : List Dt} (h : SqL K G p vs) (r : Rps K G vs ds) : Yl K G (Itl K p) ds := by
  have hl := r.length
  refine ⟨fun i H e hi => ?_, fun i H x H' e hi hy => ?_, fun H e => ⟨vs, e.seq h, by rw [hl]; exact Nat.le_refl _⟩⟩
  · exact ⟨vs, _, e.seq h, List.getElem?_eq_getElem (by rw [hl]; exact hi)⟩
  · obtain ⟨rfl, hy⟩ := hy
    obtain ⟨d, h1, h2⟩ := r.getV (hy vs (e.seq h))
    exact ⟨rfl, d, h1, h2⟩
theorem yl_tup {K : Fg} {G : Hp} {p : Addr} {vs : List V} {ds : List Dt} (h : SqT K G p vs) (r : Rps K G vs ds) : Yl K G (Itt K p) ds := by
  have hl := r.length
  refine ⟨fun i H e hi => ?_, fun i H x H' e hi hy => ?_, fun H e => ⟨vs, same_sqT e h, by rw [hl]; exact Nat.le_refl _⟩⟩
  · exact ⟨vs, _, same_sqT e h, List.getElem?_eq_getElem (by rw [hl]; exact hi)⟩
  · obtain ⟨rfl, hy⟩ := hy
    obtain ⟨d, h1, h2⟩ := r.getV (hy vs (same_sqT e h))
    exact ⟨rfl, d, h1, h2⟩
def rangeD (lo : Int) (n : Nat) : List Dt := (List.range n).map fun (i : Nat) => .int (lo + (i : Int))
theorem rangeD_get {lo : Int} {n i : Nat} (h : i < n) : (rangeD lo n)[i]? = some (.int (lo + (i : Int))) := by
  unfold rangeD
  rw [List.getElem?_map, List.getElem?_range h]
  rfl
theorem rangeD_len (lo : Int) (n : Nat) : (rangeD lo n).length = n := by
  unfold rangeD
  rw [List.length_map, List.length_range]
theorem yl_range (K : Fg) (G : Hp) (lo : Int) (n : Nat) : Yl K G (Itr lo n) (rangeD lo n) := by
  refine ⟨fun i H e hi => by rw [rangeD_len] at hi; exact hi, fun i H x H' e hi hy => ?_, fun H e => by rw [rangeD_len]; exact Nat.le_refl _⟩
  rw [rangeD_len] at hi
  obtain ⟨rfl, rfl⟩ := hy
  exact ⟨rfl, _, rangeD_get hi, .int _⟩
def rangeC (lo c : Int) (n : Nat) : List Dt := (List.range n).map fun (i : Nat) => .int (lo + (i : Int) * c)
theorem yl_rangeC (K : Fg) (G : Hp) (lo c : Int) (n : Nat) : Yl K G (Itc lo c n) (rangeC lo c n) := by
  have hl : (rangeC lo c n).length = n := by unfold rangeC; rw [List.length_map, List.length_range]
  refine ⟨fun i H e hi => by rw [hl] at hi; exact hi, fun i H x H' e hi hy => ?_, fun H e => by rw [hl]; exact Nat.le_refl _⟩
  rw [hl] at hi
  obtain ⟨rfl, rfl⟩ := hy
  refine ⟨rfl, _, ?_, .int _⟩
  unfold rangeC
  rw [List.getElem?_map, List.getElem?_range hi]
  rfl
def int1 : List Dt → Option Int
  | [.int i] => some i
  | _ => none
def int2 : List Dt → Option (Int × Int)
  | [.int i, .int j] => some (i, j)
  | _ => none
def int3 : List Dt → Option (Int × Int × Int)
  | [.int i, .int j, .int k] => some (i, j, k)
  | _ => none
def mid (i : Int) : Bool := Nat.blt i.natAbs 4611686018427387904
def rg1 (fl : M (List Av)) : M (List Dt) := bindM fl fun as => optM fun ρ => (fzs ρ as).bind fun xs => (int1 xs).bind fun j => if mid j then some (rangeD 0 j.toNat) else none
def rg2 (fl : M (List Av)) : M (List Dt) := bindM fl fun as => optM fun ρ => (fzs ρ as).bind fun xs => (int2 xs).bind fun q => if mid q.1 && mid q.2 then some (rangeD q.1 (q.2 - q.1).toNat) else none
/-- downward by ones -/
def rg3 (fl : M (List Av)) : M (List Dt) := bindM fl fun as => optM fun ρ => (fzs ρ as).bind fun xs => (int3 xs).bind fun q => if mid q.1 && mid q.2.1 && decide (q.2.2 = -1) then some (rangeC q.1 (-1) (q.1 - q.2.1).toNat) else none
section
variable {X : Cx} {b : Bs} {W : WX} {tg l : Expr} {fa : M Av} {fl : M (List Av)}
theorem weakI {iter : Expr} {t t' : TI} (h : PI X tg iter t) (w : ∀ σ H R, t' σ H R → t σ H R) : PI X tg iter t' := ⟨fun pins s σ H R I q => h.run pins s σ H R I (w σ H R q)⟩
theorem i_list (hK : X.K = b.K) (hl : PE X l (tE b W fa)) : PI X tg l (tI b W (itM fa)) := weakI (pi_list hl) fun σ H R ⟨c, G, ρ, S, q⟩ => ⟨c, G, ρ, S, (Post.bind q).imp fun a ρ1 G1 H1 e1 S1 q1 v hv => by
  obtain ⟨ds, h1, h2⟩ := q1.opt S1
  cases hx : fzv ρ1 a with
  | none => rw [hx] at h1; cases h1
  | some d =>
    rw [hx] at h1
    have r := hv.fz S1 hx
    cases d with
    | list xs =>
      cases h1
      cases r with
      | lst r1 r2 => exact ⟨_, rfl, ⟨_, SqL.of (S1.gh _ _ r1 rfl)⟩, by rw [hK]; exact h2 _ (yl_list (SqL.of r1) r2)⟩
    | _ => cases h1⟩
theorem i_tup (hK : X.K = b.K) (hl : PE X l (tE b W fa)) : PI X tg l (tI b W (itT fa)) := weakI (pi_tup hl) fun σ H R ⟨c, G, ρ, S, q⟩ => ⟨c, G, ρ, S, (Post.bind q).imp fun a ρ1 G1 H1 e1 S1 q1 v hv => by
  obtain ⟨ds, h1, h2⟩ := q1.opt S1
  cases hx : fzv ρ1 a with
  | none => rw [hx] at h1; cases h1
  | some d =>
    rw [hx] at h1
    have r := hv.fz S1 hx
    cases d with
    | tuple xs =>
      cases h1
      cases r with
      | tup r1 r2 => exact ⟨_, rfl, ⟨_, by rw [hK]; exact same_sqT S1.gh r1.sq⟩, by rw [hK]; exact h2 _ (yl_tup r1.sq r2)⟩
    | _ => cases h1⟩
theorem mid_of {i : Int} (h : mid i = true) : -(2 ^ 62) ≤ i ∧ i < 2 ^ 62 := by
  unfold mid at h
  have h := Nat.blt_eq.mp h
  omega
theorem rps_int1 {K : Fg} {G : Hp} {vs : List V} {xs : List Dt} {i : Int} (r : Rps K G vs xs) (e : int1 xs = some i) : vs = [.int i] := by
  unfold int1 at e
  split at e
  · cases e
    cases r with
    | cons r1 r2 =>
      cases r1
      cases r2
      rfl
  · cases e
theorem rps_int2 {K : Fg} {G : Hp} {vs : List V} {xs : List Dt} {i : Int × Int} (r : Rps K G vs xs) (e : int2 xs = some i) : vs = [.int i.1, .int i.2] := by
  unfold int2 at e
  split at e
  · cases e
    cases r with
    | cons r1 r2 =>
      cases r1
      cases r2 with
      | cons r3 r4 =>
        cases r3
        cases r4
        rfl
  · cases e
theorem rps_int3 {K : Fg} {G : Hp} {vs : List V} {xs : List Dt} {i : Int × Int × Int} (r : Rps K G vs xs) (e : int3 xs = some i) : vs = [.int i.1, .int i.2.1, .int i.2.2] := by
  unfold int3 at e
  split at e
  · cases e
    cases r with
    | cons r1 r2 =>
      cases r1
      cases r2 with
      | cons r3 r4 =>
        cases r3
        cases r4 with
        | cons r5 r6 =>
          cases r5
          cases r6
          rfl
  · cases e
theorem i_range1 {a : Expr} {p pos : Pos} (hg : Gl X "range") (hm : X.mg "range" = none) (ha : PA X [a] (tL b W fl)) (hs : starEach [a] X.env = [(false, eval a X.env)] := by rfl) : PI X tg (.Call (.Name "range" p) [a] [] pos) (tI b W (rg1 fl)) :=
  weakI (pi_range1 hg hm ha hs) fun σ H R ⟨c, G, ρ, S, q⟩ => ⟨c, G, ρ, S, (Post.bind q).imp fun as ρ1 G1 H1 e1 S1 q1 vs hv => by
    obtain ⟨ds, h1, h2⟩ := q1.opt S1
    cases hx : fzs ρ1 as with
    | none => rw [hx] at h1; cases h1
    | some xs =>
      rw [hx, Option.bind_some] at h1
      cases hy : int1 xs with
      | none => rw [hy] at h1; cases h1
      | some j =>
        rw [hy, Option.bind_some] at h1
        split at h1
        · rename_i hj
          cases h1
          exact ⟨j, rps_int1 (fzs_of S1 hv hx) hy, (mid_of hj).1, (mid_of hj).2, h2 _ (yl_range _ _ _ _)⟩
        · cases h1⟩
theorem i_range2 {a a2 : Expr} {p pos : Pos} (hg : Gl X "range") (hm : X.mg "range" = none) (ha : PA X [a, a2] (tL b W fl)) (hs : starEach [a, a2] X.env = [(false, eval a X.env), (false, eval a2 X.env)] := by rfl) (hs2 : starEach [a2] X.env = [(false, eval a2 X.env)] := by rfl) : PI X tg (.Call (.Name "range" p) [a, a2] [] pos) (tI b W (rg2 fl)) :=
  weakI (pi_range2 hg hm ha hs hs2) fun σ H R ⟨c, G, ρ, S, q⟩ => ⟨c, G, ρ, S, (Post.bind q).imp fun as ρ1 G1 H1 e1 S1 q1 vs hv => by
    obtain ⟨ds, h1, h2⟩ := q1.opt S1
    cases hx : fzs ρ1 as with
    | none => rw [hx] at h1; cases h1
    | some xs =>
      rw [hx, Option.bind_some] at h1
      cases hy : int2 xs with
      | none => rw [hy] at h1; cases h1
      | some j =>
        rw [hy, Option.bind_some] at h1
        split at h1
        · rename_i hj
          cases h1
          rw [Bool.and_eq_true] at hj
          exact ⟨j.1, j.2, rps_int2 (fzs_of S1 hv hx) hy, ⟨(mid_of hj.1).1, (mid_of hj.1).2, (mid_of hj.2).1, (mid_of hj.2).2⟩, h2 _ (yl_range _ _ _ _)⟩
        · cases h1⟩
theorem i_range3 {a a2 a3 : Expr} {p pos : Pos} (ha : PA X [a, a2, a3] (tL b W fl)) (hp : ∀ {ta : TA}, PA X [a, a2, a3] ta → PI X tg (.Call (.Name "range" p) [a, a2, a3] [] pos) (iRng3 ta)) : PI X tg (.Call (.Name "range" p) [a, a2, a3] [] pos) (tI b W (rg3 fl)) :=
  weakI (hp ha) fun σ H R ⟨c, G, ρ, S, q⟩ => ⟨c, G, ρ, S, (Post.bind q).imp fun as ρ1 G1 H1 e1 S1 q1 vs hv => by
    obtain ⟨ds, h1, h2⟩ := q1.opt S1
    cases hx : fzs ρ1 as with
    | none => rw [hx] at h1; cases h1
    | some xs =>
      rw [hx, Option.bind_some] at h1
      cases hy : int3 xs with
      | none => rw [hy] at h1; cases h1
      | some j =>
        rw [hy, Option.bind_some] at h1
        split at h1
        · rename_i hj
          cases h1
          rw [Bool.and_eq_true, Bool.and_eq_true, decide_eq_true_eq] at hj
          obtain ⟨⟨j1, j2⟩, j3⟩ := hj
          have ev := rps_int3 (fzs_of S1 hv hx) hy
          rw [j3] at ev
          exact ⟨j.1, j.2.1, -1, _, ev, RgC.neg (mid_of j1).1 (mid_of j1).2 (mid_of j2).1 (mid_of j2).2, h2 _ (yl_rangeC _ _ _ _ _)⟩
        · cases h1⟩
end
/-! for -/
def forL (t : Tgt) (body : M Fl) : List Dt → M Fl
  | [] => retM .nx
  | d :: ds => fun ρ => match putT t d ρ with
    | .ok _ ρ1 => (match body ρ1 with
      | .ok .nx ρ2 => forL t body ds ρ2
      | .ok .ct ρ2 => forL t body ds ρ2
      | .ok .bk ρ2 => .ok .nx ρ2
      | o => o)
    | _ => .bad
def forM (fi : M (List Dt)) (t : Tgt) (body : M Fl) : M Fl := bindM fi fun ds => forL t body ds
section
variable {X : Cx} {b : Bs} {W : WX} {tg iter : Expr} {body : List Stmt} {fi : M (List Dt)} {t : Tgt} {f : M Fl} {pos : Pos}
theorem s_for (hK : X.K = b.K) (hp : PassesOwn (model X.prog X.w) X.A X.env X.xe) (hc : X.calm = true) (hi : PI X tg iter (tI b W fi)) (hg : PG X tg (gRaw X.K t)) (hd : PSs X body (tS b W f)) (hs : ∀ x, foldedSetIterable iter X.env x = pure x := by intro _; rfl) :
    PS X (.For tg iter body [] pos) (tS b W (forM fi t f)) := weakS (ps_for hp hc hi hg hd hs) fun D σ H ⟨c, G, ρ, hb, S, q⟩ => by
  refine ⟨c, G, ρ, S, (PostS.bind σ q).imp fun ds ρ1 G1 H1 e1 S1 q1 J hJ => ?_⟩
  refine ⟨fun i m σ' H' => ∃ G' ρ', Same G1 G' ∧ SIG b c G' ρ' σ' H' ∧ i + m = ds.length ∧ PostS b c W G' D (forL t f (ds.drop i) ρ'), ⟨ds.length, G1, ρ1, Same.refl _, S1, Nat.zero_add _, q1⟩, ?_⟩
  rintro i m σ' H' ⟨G', ρ', e', S', em, q'⟩
  have gh : SameG G1 H' := SameG.tr e' S'.gh
  by_cases hi : i < ds.length
  · have ed : ds.drop i = ds[i] :: ds.drop (i + 1) := List.drop_eq_getElem_cons hi
    refine .inr ⟨hJ.go i H' gh hi, fun σ2 H2 => ∃ G2 ρ2, Same G1 G2 ∧ SIG b c G2 ρ2 σ2 H2 ∧ PostS b c W G2 D (forL t f (ds.drop (i + 1)) ρ2), ?_, fun x H2 hy => ?_⟩
    · rintro σ2 H2 ⟨G2, ρ2, a1, a2, a3⟩
      exact ⟨m - 1, by omega, G2, ρ2, a1, a2, by omega, a3⟩
    · obtain ⟨rfl, d, hd, rd⟩ := hJ.yl i H' x H2 gh hi hy
      have ed2 : d = ds[i] := by
        rw [List.getElem?_eq_getElem hi] at hd
        exact (Option.some.inj hd).symm
      rw [hK]
      rw [ed] at q'
      have q2 : PostS b c W G' D (match putT t ds[i] ρ' with
        | .ok _ ρ1 => (match f ρ1 with
          | .ok .nx ρ2 => forL t f (ds.drop (i + 1)) ρ2
          | .ok .ct ρ2 => forL t f (ds.drop (i + 1)) ρ2
          | .ok .bk ρ2 => .ok .nx ρ2
          | o => o)
        | _ => .bad) := q'
      rw [ed2] at rd
      cases e3 : putT t ds[i] ρ' with
      | err k ρ3 => rw [e3] at q2; exact q2.elim
      | bad => rw [e3] at q2; exact q2.elim
      | ok z ρ3 =>
        rw [e3] at q2
        refine putT_ok S' (Rp.mono e' _ _ rd) e3 fun σ3 S3 _ => ?_
        have ee := Same.refl G'
        refine ⟨c, G', ρ3, hb, S3, ?_⟩
        dsimp only at q2
        cases e4 : f ρ3 with
        | bad => rw [e4] at q2; exact q2.elim
        | err k ρ4 =>
          rw [e4] at q2
          exact fun σ4 H4 G4 e5 S4 => q2 σ4 H4 G4 (ee.trans e5) S4
        | ok fl ρ4 =>
          rw [e4] at q2
          cases fl with
          | nx => exact fun σ4 H4 G4 e5 S4 => ⟨G4, ρ4, (e'.trans ee).trans e5, S4, PostS.mono (ee.trans e5) q2⟩
          | ct => exact fun σ4 H4 G4 e5 S4 => ⟨G4, ρ4, (e'.trans ee).trans e5, S4, PostS.mono (ee.trans e5) q2⟩
          | bk => exact fun σ4 H4 G4 e5 S4 => q2 σ4 H4 G4 (ee.trans e5) S4
          | rt r => exact fun v σ4 H4 G4 e5 S4 => q2 v σ4 H4 G4 (ee.trans e5) S4
  · have ei : i = ds.length := by omega
    subst ei
    refine .inl ⟨hJ.st H' gh, ?_⟩
    rw [List.drop_length] at q'
    exact q' σ' H' G' (Same.refl _) S'
end
end G8
namespace G8
open PySem L2
/-! list comprehensions -/
def wipeE (ρ : Ev) : List Nat → Ev
  | [] => ρ
  | v :: vs => (wipeE ρ vs).set v none
def backE (ρ ρ' : Ev) : List Nat → Ev
  | [] => ρ'
  | v :: vs => (backE ρ ρ' vs).set v ((ρ[v]?).getD none)
def anyOwn (ρ : Ev) (is : List Nat) : Bool := is.any fun i => ownAt ρ[i]?
def stepL (t : Tgt) (ft : M Bool) (fe : M Av) (d : Dt) : M (Option Dt) := fun ρ => if anyOwn ρ t.slots then .bad else match putT t d (wipeE ρ t.slots) with
  | .ok _ ρ1 => (match ft ρ1 with
    | .ok true ρ2 => (match fe ρ2 with
      | .ok a ρ3 => (match fzv ρ3 a with
        | some x => .ok (some x) (backE ρ ρ3 t.slots)
        | none => .bad)
      | _ => .bad)
    | .ok false ρ2 => .ok none (backE ρ ρ2 t.slots)
    | _ => .bad)
  | _ => .bad
def compL (t : Tgt) (ft : M Bool) (fe : M Av) : List Dt → List Dt → M (List Dt)
  | [], acc => retM acc
  | d :: ds, acc => bindM (stepL t ft fe d) fun o => match o with
    | some x => if acc.length < 1000000 then compL t ft fe ds (acc ++ [x]) else badM
    | none => compL t ft fe ds acc
theorem bindM_ok {α β : Type} {f : M α} {g : α → M β} {ρ ρ' : Ev} {a : α} (h : f ρ = .ok a ρ') : bindM f g ρ = g a ρ' := by
  unfold bindM
  rw [h]
theorem bindM_bad {α β : Type} {f : M α} {g : α → M β} {ρ : Ev} (h : f ρ = .bad) : bindM f g ρ = .bad := by
  unfold bindM
  rw [h]
theorem bindM_err {α β : Type} {f : M α} {g : α → M β} {ρ ρ' : Ev} {k : Nat} (h : f ρ = .err k ρ') : bindM f g ρ = .err k ρ' := by
  unfold bindM
  rw [h]
theorem bindM_assoc {α β γ : Type} (f : M α) (g : α → M β) (h : β → M γ) (ρ : Ev) : bindM (bindM f g) h ρ = bindM f (fun a => bindM (g a) h) ρ := by
  cases e : f ρ with
  | ok a ρ1 => rw [bindM_ok e]; unfold bindM; rw [e]
  | err k ρ1 => rw [bindM_err e, bindM_err (bindM_err e)]
  | bad => rw [bindM_bad e, bindM_bad (bindM_bad e)]
theorem stepL_cases {t : Tgt} {ft : M Bool} {fe : M Av} {d : Dt} {ρ ρ' : Ev} {o : Option Dt} (h : stepL t ft fe d ρ = .ok o ρ') : anyOwn ρ t.slots = false ∧ ∃ ρ1, putT t d (wipeE ρ t.slots) = .ok () ρ1 ∧ ∃ bb ρ2, ft ρ1 = .ok bb ρ2 ∧
    ((bb = false ∧ o = none ∧ ρ' = backE ρ ρ2 t.slots) ∨ (bb = true ∧ ∃ a ρ3 x, fe ρ2 = .ok a ρ3 ∧ fzv ρ3 a = some x ∧ o = some x ∧ ρ' = backE ρ ρ3 t.slots)) := by
  unfold stepL at h
  cases ha : anyOwn ρ t.slots with
  | true => rw [ha, if_pos rfl] at h; cases h
  | false =>
    rw [ha, if_neg Bool.false_ne_true] at h
    refine ⟨rfl, ?_⟩
    cases e1 : putT t d (wipeE ρ t.slots) with
    | err k ρ1 => rw [e1] at h; cases h
    | bad => rw [e1] at h; cases h
    | ok z ρ1 =>
      rw [e1] at h
      dsimp only at h
      refine ⟨ρ1, rfl, ?_⟩
      cases e2 : ft ρ1 with
      | err k ρ2 => rw [e2] at h; cases h
      | bad => rw [e2] at h; cases h
      | ok bb ρ2 =>
        rw [e2] at h
        refine ⟨bb, ρ2, rfl, ?_⟩
        cases bb with
        | false =>
          dsimp only at h
          cases h
          exact .inl ⟨rfl, rfl, rfl⟩
        | true =>
          dsimp only at h
          cases e3 : fe ρ2 with
          | err k ρ3 => rw [e3] at h; cases h
          | bad => rw [e3] at h; cases h
          | ok a ρ3 =>
            rw [e3] at h
            dsimp only at h
            cases e4 : fzv ρ3 a with
            | none => rw [e4] at h; cases h
            | some x =>
              rw [e4] at h
              cases h
              exact .inr ⟨rfl, a, ρ3, x, rfl, e4, rfl, rfl⟩
theorem stepL_noerr {t : Tgt} {ft : M Bool} {fe : M Av} {d : Dt} {ρ ρ' : Ev} {k : Nat} : stepL t ft fe d ρ ≠ .err k ρ' := fun h => by
  unfold stepL at h
  split at h
  · cases h
  · split at h
    · split at h
      · split at h
        · split at h <;> cases h
        · cases h
      · cases h
      · cases h
    · cases h
def lcM (fi : M (List Dt)) (t : Tgt) (ft : M Bool) (fe : M Av) : M Rv := bindM fi fun ds => bindM (compL t ft fe ds []) fun xs => retM (.l xs)
abbrev W0 : WX := fun _ _ _ _ => False
theorem wipeE_len (ρ : Ev) : ∀ is : List Nat, (wipeE ρ is).length = ρ.length
  | [] => rfl
  | i :: is => by unfold wipeE; rw [List.length_set, wipeE_len ρ is]
theorem wipeE_in (ρ : Ev) : ∀ (is : List Nat) (j : Nat) (s : Sv), (wipeE ρ is)[j]? = some (some s) → ρ[j]? = some (some s)
  | [], _, _, h => h
  | i :: is, j, s, h => by
    unfold wipeE at h
    rw [getElem?_set_eq'] at h
    split at h
    · split at h <;> cases h
    · exact wipeE_in ρ is j s h
theorem backE_len (ρ ρ' : Ev) : ∀ is : List Nat, (backE ρ ρ' is).length = ρ'.length
  | [] => rfl
  | i :: is => by unfold backE; rw [List.length_set, backE_len ρ ρ' is]
theorem backE_out (ρ ρ' : Ev) : ∀ (is : List Nat) (j : Nat), j ∉ is → (backE ρ ρ' is)[j]? = ρ'[j]?
  | [], _, _ => rfl
  | i :: is, j, h => by
    rw [List.mem_cons, not_or] at h
    unfold backE
    rw [List.getElem?_set_ne (Ne.symm h.1)]
    exact backE_out ρ ρ' is j h.2
theorem backE_own (ρ ρ' : Ev) : ∀ (is : List Nat) (j : Nat), j ∈ is → ∀ s, (backE ρ ρ' is)[j]? = some (some s) → ρ[j]? = some (some s)
  | [], _, h, _, _ => by cases h
  | i :: is, j, h, s, e => by
    unfold backE at e
    by_cases hj : i = j
    · subst hj
      rw [getElem?_set_eq', if_pos rfl] at e
      split at e
      · cases q : ρ[i]? with
        | none => rw [q] at e; cases e
        | some o => rw [q] at e; cases e; rfl
      · cases e
    · rw [List.getElem?_set_ne hj] at e
      exact backE_own ρ ρ' is j (by simpa [Ne.symm hj] using h) s e
theorem wipe_wipe (σ : St) (is : List Nat) : ∀ js : List Nat, (∀ j ∈ js, j ∈ is) → wipe (wipe σ js) is = wipe σ is
  | [], _ => rfl
  | j :: js, h => by
    rw [show wipe σ (j :: js) = (wipe σ js).set j none from rfl, wipe_set _ j _ is (h j List.mem_cons_self)]
    exact wipe_wipe σ is js fun k hk => h k (List.mem_cons_of_mem _ hk)
def refsOf (ρ : Ev) (σ : St) : List (Nat × Addr × Bool) := (List.range ρ.length).filterMap fun (j : Nat) => match ρ[j]?, σ[j]? with
  | some (some s), some (some (V.ref p)) => if s.own then some (j, p, s.isRef) else none
  | _, _ => none
theorem mem_refsOf {ρ : Ev} {σ : St} {j : Nat} {p : Addr} {f : Bool} : (j, p, f) ∈ refsOf ρ σ ↔ ∃ s, ρ[j]? = some (some s) ∧ s.own = true ∧ s.isRef = f ∧ σ[j]? = some (some (.ref p)) := by
  unfold refsOf
  rw [List.mem_filterMap]
  constructor
  · rintro ⟨k, _, e⟩
    split at e
    · rename_i s p' h1 h2
      split at e
      · rename_i ho
        cases e
        exact ⟨s, h1, ho, rfl, h2⟩
      · cases e
    · cases e
  · rintro ⟨s, h1, h2, rfl, h3⟩
    refine ⟨j, List.mem_range.mpr (List.getElem?_eq_some_iff.mp h1).1, ?_⟩
    rw [h1, h3]
    show (if s.own = true then _ else _) = _
    rw [if_pos h2]
section
variable {b : Bs} {c : Fc} {G G' H H' : Hp} {ρ ρ' : Ev} {σ σ' : St}
/-- the lists of the meters in slots -/
def zoneOf (H : Hp) (ρ : Ev) (σ : St) : Addr → Prop := fun q => ∃ (i : Nat) (r : Bool) (m : Ms) (p C : Addr) (m' : Ms) (Z : List Addr), ρ[i]? = some (some (.mt r m)) ∧ σ[i]? = some (some (.ref p)) ∧ MeterAt C H p m' Z ∧ q ∈ Z
theorem SIG.zone (S : SIG b c G ρ σ H) {q : Addr} (h : zoneOf H ρ σ q) : Mk G q ∧ (c.H0 q = none ∨ c.Z q) := by
  obtain ⟨i, r, m, p, C, m', Z, h1, h2, h3, h4⟩ := h
  obtain ⟨Z', z1, z2⟩ := S.mz i r m p h1 h2
  rw [h3.uniq z1] at h4
  exact z2 q h4
def inner (G H : Hp) (ρ : Ev) (σ : St) : Fc := ⟨G, H, refsOf ρ σ, zoneOf H ρ σ, fun i => ∃ r m, ρ[i]? = some (some (.mt r m))⟩
theorem SIG.notZ (S : SIG b c G ρ σ H) {q : Addr} (h : G q = none) : ¬ zoneOf H ρ σ q := fun z => (S.zone z).1.ne h rfl
theorem SIG.enter (S : SIG b c G ρ σ H) : SIG b (inner G H ρ σ) G ρ σ H :=
  ⟨S.len, Same.refl _, S.gh, S.gm, fun a o e _ _ _ => e, fun a o e => .inl e, S.sl, S.sp, fun i s p e ho hp => .inr ⟨_, mem_refsOf.mpr ⟨s, e, ho, rfl, hp⟩⟩, fun i p f h => by
    obtain ⟨s, h1, h2, h3, h4⟩ := mem_refsOf.mp h
    exact ⟨h4, s, h1, h2, h3⟩, S.tb, S.hT, fun i r m p h1 h2 => by
    obtain ⟨Z, z1, z2⟩ := S.mz i r m p h1 h2
    exact ⟨Z, z1, fun q hq => ⟨(z2 q hq).1, .inr ⟨i, r, m, p, _, m, Z, h1, h2, z1, hq⟩⟩⟩, S.m1, fun a z => (S.zone z).1, fun i p f s _ h2 h3 => by
    obtain ⟨r, m, rfl⟩ := isMt_of h3
    exact ⟨r, m, h2⟩⟩
theorem SIG.wipe (S : SIG b c G ρ σ H) : ∀ is : List Nat, anyOwn ρ is = false → SIG b c G (wipeE ρ is) (wipe σ is) H
  | [], _ => S
  | i :: is, h => by
    unfold anyOwn at h
    rw [List.any_cons, Bool.or_eq_false_iff] at h
    refine (SIG.wipe S is h.2).drop (fun s e => .inl ?_) none
    have := wipeE_in ρ is i s e
    rw [this] at h
    exact h.1
theorem SIG.leave (S : SIG b c G ρ σ H) {is : List Nat} (ha : anyOwn ρ is = false) (S' : SIG b (inner G H ρ σ) G' ρ' σ' H') (e : Same G G') (hw : L2.wipe σ' is = L2.wipe σ is) : SIG b c G' (backE ρ ρ' is) σ H' := by
  have hno : ∀ j ∈ is, ownAt ρ[j]? = false := fun j hj => by
    unfold anyOwn at ha
    exact Bool.eq_false_iff.mpr fun z => by
      have := List.any_eq_true (p := fun (i : Nat) => ownAt ρ[i]?) |>.mpr ⟨j, hj, z⟩
      rw [ha] at this
      cases this
  have hσ : ∀ j, j ∉ is → σ'[j]? = σ[j]? := fun j hj => by rw [← wipe_out (σ := σ') hj, hw, wipe_out hj]
  have hlen : σ'.length = σ.length := by rw [← wipe_length σ' is, hw, wipe_length]
  have out : ∀ {j s}, (backE ρ ρ' is)[j]? = some (some s) → s.own = true → j ∉ is ∧ ρ'[j]? = some (some s) := fun {j s} q ho => by
    by_cases hj : j ∈ is
    · have h1 := backE_own ρ ρ' is j hj s q
      have h2 := hno j hj
      rw [h1] at h2
      rw [show ownAt (some (some s)) = s.own from rfl, ho] at h2
      cases h2
    · exact ⟨hj, by rw [← backE_out ρ ρ' is j hj]; exact q⟩
  have omt : ∀ {j s}, (backE ρ ρ' is)[j]? = some (some s) → s.isMt = true → j ∉ is ∧ ρ'[j]? = some (some s) := fun {j s} q hs => by
    obtain ⟨r, m, rfl⟩ := isMt_of hs
    exact out q rfl
  refine ⟨by rw [backE_len, S'.len, hlen], S.g0.trans e, S'.gh, S'.gm, fun a o h1 hT h2 hZ => ?_, fun a o h1 => ?_, fun j s q => ?_, fun j k sj sk p q1 q2 o1 o2 a1 a2 => ?_, fun j s p q o1 a1 => ?_, fun j p f hj => ?_, S'.tb, S.ct, fun j r m p h1 h2 => ?_, fun j k sj sk h1 h2 g1 g2 => S'.m1 j k sj sk (omt h1 g1).2 (omt h2 g2).2 g1 g2, S.zz, fun j p f s h1 h2 h3 => ?_⟩
  case refine_8 =>
    obtain ⟨g1, s0, g2, g3, g4⟩ := S.rf j p f h1
    obtain ⟨n1, q⟩ := omt h2 h3
    obtain ⟨r, m, q2⟩ := S'.rk j p f s (mem_refsOf.mpr ⟨s0, g2, g3, g4, g1⟩) q h3
    exact S.rk j p f _ h1 q2 rfl
  case refine_7 =>
    obtain ⟨n1, q⟩ := omt h1 rfl
    obtain ⟨Z, z1, z2⟩ := S'.mz j r m p q (by rw [hσ j n1]; exact h2)
    refine ⟨Z, z1, fun x hx => ⟨(z2 x hx).1, ?_⟩⟩
    rcases (z2 x hx).2 with z | z
    · exact .inl (S.fresh0 z)
    · exact (S.zone z).2
  · refine S'.fr a o (S.fr a o h1 hT h2 hZ) hT (fun j f hj => ?_) fun z => ?_
    · obtain ⟨s, r1, r2, r3, r4⟩ := mem_refsOf.mp hj
      rcases S.nw j s a r1 r2 r4 with z | ⟨f', z⟩
      · rw [h1] at z; cases z
      · exact h2 j f' z
    · rcases (S.zone z).2 with y | y
      · rw [h1] at y; cases y
      · exact hZ y
  · rcases S'.gn a o h1 with z | z | ⟨xs, rfl, z⟩
    · exact S.gn a o z
    · exact .inr (.inl (S.fresh0 z))
    · rcases S.tup0 z with y | y
      · exact .inr (.inl y)
      · exact .inr (.inr ⟨xs, rfl, y⟩)
  · by_cases hj : j ∈ is
    · have h1 := backE_own ρ ρ' is j hj s q
      obtain ⟨v, hv, r⟩ := S.sl j s h1
      have h2 := hno j hj
      rw [h1] at h2
      exact ⟨v, hv, r.keep e fun p u ho _ _ => by rw [show ownAt (some (some s)) = s.own from rfl, ho] at h2; cases h2⟩
    · rw [backE_out ρ ρ' is j hj] at q
      obtain ⟨v, hv, r⟩ := S'.sl j s q
      exact ⟨v, by rw [← hσ j hj]; exact hv, r⟩
  · obtain ⟨n1, q1⟩ := out q1 o1
    obtain ⟨n2, q2⟩ := out q2 o2
    exact S'.sp j k sj sk p q1 q2 o1 o2 (by rw [hσ j n1]; exact a1) (by rw [hσ k n2]; exact a2)
  · obtain ⟨n1, q⟩ := out q o1
    rcases S'.nw j s p q o1 (by rw [hσ j n1]; exact a1) with z | ⟨f, z⟩
    · exact .inl (S.fresh0 z)
    · obtain ⟨s', r1, r2, r3, r4⟩ := mem_refsOf.mp z
      exact S.nw j s' p r1 r2 r4
  · obtain ⟨h1, s, h2, h3, h4⟩ := S.rf j p f hj
    have n1 : j ∉ is := fun z => by
      have := hno j z
      rw [h2, show ownAt (some (some s)) = s.own from rfl, h3] at this
      cases this
    obtain ⟨g1, s', g2, g3, g4⟩ := S'.rf j p f (mem_refsOf.mpr ⟨s, h2, h3, h4, h1⟩)
    exact ⟨h1, s', by rw [backE_out ρ ρ' is j n1]; exact g2, g3, g4⟩
/-- an object apart is changed -/
theorem SIG.poke (S : SIG b c G ρ σ H) {p : Addr} {o : HO} (hg : G p = none) (h0 : c.H0 p = none) (no : NoOwn ρ σ p) {xs : List V} (hx : H p = some (.lst xs)) : SIG b c G ρ σ (upd H p o) := by
  refine ⟨S.len, S.g0, fun a u e hm => by rw [upd_ne (ne_of_none e hg)]; exact S.gh a u e hm, fun a hm => by rw [upd_ne (hm.ne hg)]; exact S.gm a hm, fun a u e m n z => by rw [upd_ne (ne_of_none e h0)]; exact S.fr a u e m n z, S.gn, fun i sv e => ?_, S.sp, S.nw, S.rf, tabs_mut S.tb hx (fun _ z => by cases z) (fun _ z => by cases z), S.ct, S.mzk (Same.refl G) (fun a u ha q => ?_) (fun i r m p h1 h2 => ⟨i, r, h1, h2⟩), S.m1, S.zz, S.rk⟩
  case refine_2 =>
    rw [upd_ne ?_]
    · exact q
    intro z
    rcases ha with ha | ⟨ys, ha⟩ | ⟨i, s, h1, h2, h3⟩
    · exact ha.ne hg z
    · subst ha
      rw [z, hx] at q
      cases q
    · obtain ⟨r, m, rfl⟩ := isMt_of h2
      exact no i _ h1 rfl (by rw [h3, z])
  obtain ⟨v, hv, r⟩ := S.sl i sv e
  refine ⟨v, hv, r.keep (Same.refl G) fun q u ho ev hq => ?_⟩
  have hne : q ≠ p := fun z => no i sv e ho (by rw [hv, ev, z])
  obtain ⟨q', _, e', _, g'⟩ := r.at ho
  rw [ev] at e'
  cases e'
  exact ⟨by rw [upd_ne hne]; exact hq, g'⟩
theorem noOwn_back {is : List Nat} {D : Addr} (S : SIG b c G ρ σ H) (ha : anyOwn ρ is = false) (S' : SIG b (inner G H ρ σ) G' ρ' σ' H') (hw : L2.wipe σ' is = L2.wipe σ is) {o : HO} (hD : H D = some o) (no : NoOwn ρ σ D) : NoOwn (backE ρ ρ' is) σ D := fun j s q ho a1 => by
  by_cases hj : j ∈ is
  · have h1 := backE_own ρ ρ' is j hj s q
    exact no j s h1 ho a1
  · rw [backE_out ρ ρ' is j hj] at q
    have hσ : σ'[j]? = σ[j]? := by rw [← wipe_out (σ := σ') hj, hw, wipe_out hj]
    rcases S'.nw j s D q ho (by rw [hσ]; exact a1) with z | ⟨f, z⟩
    · rw [show (inner G H ρ σ).H0 D = H D from rfl, hD] at z
      cases z
    · obtain ⟨s', r1, r2, r3, r4⟩ := mem_refsOf.mp z
      exact no j s' r1 r2 r4
end
section
variable {X : Cx} {b : Bs} {W : WX} {fi : M (List Dt)} {t : Tgt} {ft : M Bool} {fe : M Av}
theorem lc_sound {σ : St} {H : Hp} {Q : VK} (h : tV b W (lcM fi t ft fe) σ H Q) : tLc (tI b W fi) (gRaw b.K t) (tT b W0 ft) (tE b W0 fe) t.slots σ H Q := by
  obtain ⟨c, G, ρ, S, q⟩ := h
  refine ⟨c, G, ρ, S, (Post.bind q).imp fun ds ρ1 G1 H1 e1 S1 q1 J hJ => ?_⟩
  intro D hD
  have h0 : c.H0 D = none := S1.fresh0 hD
  let P : Rv → Ev → Hp → Hp → Prop := fun r ρ' G' H' => ∀ v, RN b c G' H' v r → Apart ρ' σ v r → Q v H'
  refine ⟨fun i m H' => ∃ G' ρ' accV acc, Same G1 G' ∧ SIG b c G' ρ' σ H' ∧ i + m = ds.length ∧ H' D = some (.lst accV) ∧ G' D = none ∧ Rps b.K G' accV acc ∧ NoOwn ρ' σ D ∧ Post b c W G' σ P (bindM (compL t ft fe (ds.drop i) acc) (fun xs => retM (.l xs)) ρ'),
    ⟨ds.length, G1, ρ1, [], [], Same.refl _, S1.alloc hD, Nat.zero_add _, upd_same, S1.free hD, .nil, S1.noOwn hD, q1⟩, ?_⟩
  rintro i m H' ⟨G', ρ', accV, acc, e', S', em, hA, gD, rA, no, q'⟩
  have gh : SameG G1 H' := SameG.tr e' S'.gh
  by_cases hi : i < ds.length
  · have ed : ds.drop i = ds[i] :: ds.drop (i + 1) := List.drop_eq_getElem_cons hi
    rw [ed] at q'
    refine .inr ⟨hJ.go i H' gh hi, fun H2 => ∃ G' ρ' accV acc, Same G1 G' ∧ SIG b c G' ρ' σ H2 ∧ H2 D = some (.lst accV) ∧ G' D = none ∧ Rps b.K G' accV acc ∧ NoOwn ρ' σ D ∧ Post b c W G' σ P (bindM (compL t ft fe (ds.drop (i + 1)) acc) (fun xs => retM (.l xs)) ρ'), ?_, fun x H2 hy => ?_⟩
    · rintro H2 ⟨G2, ρ2, av, ac, a1, a2, a3, a4, a5, a6, a7⟩
      exact ⟨m - 1, by omega, G2, ρ2, av, ac, a1, a2, by omega, a3, a4, a5, a6, a7⟩
    · obtain ⟨rfl, d, hd, rd⟩ := hJ.yl i H' x H2 gh hi hy
      have ed2 : d = ds[i] := by
        rw [List.getElem?_eq_getElem hi] at hd
        exact (Option.some.inj hd).symm
      rw [ed2] at rd
      rw [show compL t ft fe (ds[i] :: ds.drop (i + 1)) acc = bindM (stepL t ft fe ds[i]) (fun o => match o with
        | some x => if acc.length < 1000000 then compL t ft fe (ds.drop (i + 1)) (acc ++ [x]) else badM
        | none => compL t ft fe (ds.drop (i + 1)) acc) from rfl, bindM_assoc] at q'
      cases hs : stepL t ft fe ds[i] ρ' with
      | err k ρn => exact absurd hs stepL_noerr
      | bad => rw [bindM_bad hs] at q'; exact q'.elim
      | ok o ρn =>
        rw [bindM_ok hs] at q'
        obtain ⟨ha, ρ3, e3, bb, ρ4, e4, hcase⟩ := stepL_cases hs
        have S2 := (S'.enter).wipe t.slots ha
        refine putT_ok S2 (Rp.mono e' _ _ rd) e3 fun σ3 S3 hw => ?_
        have hw' : wipe σ3 t.slots = wipe σ t.slots := hw.trans (wipe_wipe σ t.slots t.slots fun _ z => z)
        refine ⟨hw', inner G' H2 ρ' σ, G', ρ3, S3, ?_⟩
        have fin : ∀ {G4 H4 ρ4}, Same G' G4 → SIG b (inner G' H2 ρ' σ) G4 ρ4 σ3 H4 → SIG b c G4 (backE ρ' ρ4 t.slots) σ H4 ∧ H4 D = some (.lst accV) ∧ G4 D = none ∧ NoOwn (backE ρ' ρ4 t.slots) σ D := fun {G4 H4 ρ4} e4 S4 => by
          refine ⟨S'.leave ha S4 e4 hw', S4.fr D _ hA (S'.notT hA rfl) (fun j f hj => ?_) (S'.notZ gD), ?_, noOwn_back S' ha S4 hw' hA no⟩
          · obtain ⟨s, r1, r2, r3, r4⟩ := mem_refsOf.mp hj
            exact no j s r1 r2 r4
          · cases z : G4 D with
            | none => rfl
            | some o =>
              rcases S4.gn D o z with y | y | ⟨_, _, y⟩
              · rw [show (inner G' H2 ρ' σ).G0 D = G' D from rfl, gD] at y; cases y
              · rw [show (inner G' H2 ρ' σ).H0 D = H2 D from rfl, hA] at y; cases y
              · rw [show (inner G' H2 ρ' σ).H0 D = H2 D from rfl, hA] at y; cases y
        rw [e4]
        intro H4 G4 ee4 S4
        rcases hcase with ⟨rfl, rfl, rfl⟩ | ⟨rfl, a, ρ5, xx, e5, e6, rfl, rfl⟩
        · refine iteF ?_
          obtain ⟨f1, f2, f3, f4⟩ := fin ee4 S4
          exact ⟨G4, _, accV, acc, e'.trans ee4, f1, f2, f3, Rps.mono ee4 _ _ rA, f4, Post.mono ee4 q'⟩
        · refine iteT ⟨inner G' H2 ρ' σ, G4, ρ4, S4, ?_⟩
          rw [e5]
          intro H5 G5 ee5 S5 y hy'
          by_cases hl : acc.length < 1000000
          · have q3 : Post b c W G' σ P (bindM (compL t ft fe (ds.drop (i + 1)) (acc ++ [xx])) (fun xs => retM (.l xs)) (backE ρ' ρ5 t.slots)) := by
              dsimp only at q'
              rw [if_pos hl] at q'
              exact q'
            obtain ⟨f1, f2, f3, f4⟩ := fin (ee4.trans ee5) S5
            have hz : accV.length < sizeLine := by rw [rA.length]; exact Nat.lt_of_lt_of_le hl (by decide)
            refine ⟨accV, f2, hz, G5, _, accV ++ [y], acc ++ [xx], (e'.trans ee4).trans ee5, f1.poke f3 h0 f4 f2, upd_same, f3, ?_, f4, Post.mono (ee4.trans ee5) q3⟩
            exact (Rps.mono (ee4.trans ee5) _ _ rA).append (.cons (hy'.fz S5 e6) .nil)
          · dsimp only at q'
            rw [if_neg hl] at q'
            exact q'.elim
  · have ei : i = ds.length := by omega
    subst ei
    refine .inl ⟨hJ.st H' gh, ?_⟩
    rw [List.drop_length] at q'
    exact q' H' G' (Same.refl _) S' (.ref D) ⟨D, accV, rfl, hA, gD, rA, h0⟩ fun p ep _ => by cases ep; exact no
theorem m_lc {elt tg iter : Expr} {ifs : List Expr} {scope : Scope} {own : List (Str × Nat)} {pos : Pos} (hK : X.K = b.K) (hv : own.map (·.2) = t.slots) (hc : X.calm = true) (hN : X.N.Nodup) (hi : PI X tg iter (tI b W fi)) (ok : BlkOk X.N X.env.scope scope own)
    (hg : ∀ (s : Shared) (H : Hp) (C : Addr) (cl : List (Str × Addr)) (fp : List Addr), PG (X.blk s H scope (compEnvC scope cl C X.env) fp) tg (gRaw X.K t))
    (ht : ∀ (s : Shared) (H : Hp) (C : Addr) (cl : List (Str × Addr)) (fp : List Addr), PTs (X.blk s H scope (compEnvC scope cl C X.env) fp) ifs (tT b W0 ft))
    (he : ∀ (s : Shared) (H : Hp) (C : Addr) (cl : List (Str × Addr)) (fp : List Addr), PE (X.blk s H scope (compEnvC scope cl C X.env) fp) elt (tE b W0 fe)) (hs : ∀ x, foldedSetIterable iter X.env x = pure x := by intro _; rfl) :
    PE X (.ListComp elt [⟨tg, iter, ifs, 0⟩] scope pos) (tV b W (lcM fi t ft fe)) := weakE (pe_lc hc hN hi ok hg ht he hs) fun σ H Q h => by
  rw [hv, hK]
  exact lc_sound h
theorem s_setLc {i : Nat} {y : Str} {py : Pos} {elt tg iter : Expr} {ifs : List Expr} {scope : Scope} {own : List (Str × Nat)} {pos spos : Pos} (hK : X.K = b.K) (hv : own.map (·.2) = t.slots) (hc : X.calm = true) (hN : X.N.Nodup) (hy : X.N[i]? = some y) (hyl : X.env.scope.names.lookup y = some .local)
    (hsw : swapsWith (.ListComp elt [⟨tg, iter, ifs, 0⟩] scope pos) (some (.Name y py)) spos.line X.env = pure true) (hi : PI X tg iter (tI b W fi)) (ok : BlkOk X.N X.env.scope scope own)
    (hg : ∀ (s : Shared) (H : Hp) (C : Addr) (cl : List (Str × Addr)) (fp : List Addr), PG (X.blk s H scope (compEnvC scope cl C X.env) fp) tg (gRaw X.K t))
    (ht : ∀ (s : Shared) (H : Hp) (C : Addr) (cl : List (Str × Addr)) (fp : List Addr), PTs (X.blk s H scope (compEnvC scope cl C X.env) fp) ifs (tT b W0 ft))
    (he : ∀ (s : Shared) (H : Hp) (C : Addr) (cl : List (Str × Addr)) (fp : List Addr), PE (X.blk s H scope (compEnvC scope cl C X.env) fp) elt (tE b W0 fe)) (hs : ∀ x, foldedSetIterable iter X.env x = pure x := by intro _; rfl) :
    PS X (.Assign [.Name y py] (.ListComp elt [⟨tg, iter, ifs, 0⟩] scope pos) spos) (tS b W (setM i (lcM fi t ft fe))) := weakS (ps_setLc hc hN hy hyl hsw hi ok hg ht he hs) fun D σ H h => by
  rw [hv, hK]
  exact lc_sound (setM_core h)
theorem ts_nil : PTs X [] (tT b W (retM true)) := ⟨fun pins s σ H Q I ⟨c, G, ρ, S, q⟩ => pts_nil.run pins s σ H Q I (q H G (Same.refl G) S)⟩
theorem ts_one {c : Expr} (h : PT X c (tT b W ft)) : PTs X [c] (tT b W ft) := pts_one h
end
end G8
namespace G8
open PySem L2
/-! defs: what they do, calls -/
abbrev Fn := List Sv → Out Rv
def svsE (svs : List Sv) : Ev := svs.map some
def vsE (vs : List V) : St := vs.map some
def ctx0 (G H : Hp) (svs : List Sv) (vs : List V) : Fc := inner G H (svsE svs) (vsE vs)
def PostF (b : Bs) (c : Fc) (vs : List V) (Q : VK) (E : XK) : Out Rv → Prop
  | .ok r outs => ∀ v H' G', SIG b c G' outs (vsE vs) H' → RN b c G' H' v r → Q v H'
  | .err k outs => ∀ H' G', SIG b c G' outs (vsE vs) H' → E (.ref (b.C k)) none H'
  | .bad => False
def spF (b : Bs) (n : Nat) (F : Fn) : Sp := fun vs H Q E => ∃ G svs, vs.length = n ∧ SIG b (ctx0 G H svs vs) G (svsE svs) (vsE vs) H ∧ (∀ s ∈ svs, s.own = true → s.isRef = true) ∧ PostF b (ctx0 G H svs vs) vs Q E (F svs)
def finE : List Sv → Ev → Ev
  | [], _ => []
  | s :: ss, ρ => (if s.isRef then (ρ.head?).getD none else none) :: finE ss ρ.tail
def bodyF (n : Nat) (f : M Fl) : Fn := fun svs => match f (svsE svs ++ List.replicate (n - svs.length) none) with
  | .ok (.rt r) ρ => .ok r (finE svs ρ)
  | .ok .nx ρ => .ok (.d .none) (finE svs ρ)
  | .ok _ _ => .bad
  | .err k ρ => .err k (finE svs ρ)
  | .bad => .bad
theorem finE_len : ∀ (svs : List Sv) (ρ : Ev), (finE svs ρ).length = svs.length
  | [], _ => rfl
  | s :: ss, ρ => by unfold finE; rw [List.length_cons, List.length_cons, finE_len ss]
theorem finE_get : ∀ (svs : List Sv) (ρ : Ev) (i : Nat), (finE svs ρ)[i]? = (svs[i]?).map fun s => if s.isRef then (ρ[i]?).getD none else none
  | [], _, i => by simp [finE]
  | s :: ss, ρ, 0 => by
    unfold finE
    cases ρ <;> simp
  | s :: ss, ρ, i + 1 => by
    unfold finE
    rw [List.getElem?_cons_succ, finE_get ss ρ.tail i, List.getElem?_cons_succ]
    cases ρ <;> simp
section
variable {b : Bs} {c : Fc} {G G' H H' : Hp} {svs : List Sv} {vs : List V} {ρ : Ev} {σ : St}
theorem svsE_get {i : Nat} {s : Sv} : (svsE svs)[i]? = some (some s) ↔ svs[i]? = some s := by
  unfold svsE
  rw [List.getElem?_map]
  cases svs[i]? <;> simp
theorem SIG.exit (S : SIG b (ctx0 G H svs vs) G (svsE svs) (vsE vs) H) (hm : ∀ s ∈ svs, s.own = true → s.isRef = true) (S' : SIG b (ctx0 G H svs vs) G' ρ σ H') : SIG b (ctx0 G H svs vs) G' (finE svs ρ) (vsE vs) H' := by
  have key : ∀ {i s}, (finE svs ρ)[i]? = some (some s) → ∃ p, (i, p, true) ∈ (ctx0 G H svs vs).refs ∧ (vsE vs)[i]? = some (some (.ref p)) ∧ σ[i]? = some (some (.ref p)) ∧ ρ[i]? = some (some s) := fun {i s} e => by
    rw [finE_get] at e
    cases q : svs[i]? with
    | none => rw [q] at e; cases e
    | some s0 =>
      rw [q] at e
      have e : some (if s0.isRef = true then (ρ[i]?).getD none else none) = some (some s) := e
      cases hr : s0.isRef with
      | false => rw [hr, if_neg Bool.false_ne_true] at e; cases e
      | true =>
        rw [hr, if_pos rfl] at e
        have ho := own_of_ref hr
        obtain ⟨v, hv, rs⟩ := S.sl i s0 (svsE_get.mpr q)
        obtain ⟨p, o, rfl, _, _⟩ := rs.at ho
        have hmem : (i, p, true) ∈ (ctx0 G H svs vs).refs := mem_refsOf.mpr ⟨s0, svsE_get.mpr q, ho, hr, hv⟩
        obtain ⟨h1, sv, h2, h3, h4⟩ := S'.rf i p true hmem
        rw [h2] at e
        cases e
        exact ⟨p, hmem, hv, h1, h2⟩
  refine ⟨?_, S'.g0, S'.gh, S'.gm, S'.fr, S'.gn, fun i s e => ?_, fun i j si sj p e1 e2 o1 o2 a1 a2 => ?_, fun i s p e o1 a1 => ?_, fun i p f hi => ?_, S'.tb, S'.ct, fun i r m p h1 h2 => ?_, fun j k sj sk h1 h2 g1 g2 => ?_, S'.zz, fun i p f s h1 h2 h3 => by
    obtain ⟨_, _, _, _, e3⟩ := key h2
    exact S'.rk i p f s h1 e3 h3⟩
  case refine_6 =>
    obtain ⟨q, _, e1, e2, e3⟩ := key h1
    rw [e1] at h2
    cases h2
    exact S'.mz i r m p e3 e2
  case refine_7 =>
    obtain ⟨_, _, _, _, e3⟩ := key h1
    obtain ⟨_, _, _, _, e4⟩ := key h2
    exact S'.m1 j k sj sk e3 e4 g1 g2
  · rw [finE_len]
    have := S.len
    unfold svsE at this
    rw [List.length_map] at this
    exact this
  · obtain ⟨p, _, h1, h2, h3⟩ := key e
    obtain ⟨v, hv, r⟩ := S'.sl i s h3
    rw [h2] at hv
    cases hv
    exact ⟨.ref p, h1, r⟩
  · obtain ⟨p1, _, h1, h2, h3⟩ := key e1
    obtain ⟨p2, _, g1, g2, g3⟩ := key e2
    rw [h1] at a1
    rw [g1] at a2
    cases a1
    cases a2
    exact S'.sp i j si sj p h3 g3 o1 o2 h2 g2
  · obtain ⟨p1, hm1, h1, h2, h3⟩ := key e
    rw [h1] at a1
    cases a1
    exact .inr ⟨true, hm1⟩
  · obtain ⟨h1, sv, h2, h3, h4⟩ := S'.rf i p f hi
    obtain ⟨s0, r1, r2, r3, r4⟩ := mem_refsOf.mp hi
    refine ⟨r4, sv, ?_, h3, h4⟩
    have r1' := svsE_get.mp r1
    rw [finE_get, r1']
    show some (if s0.isRef = true then (ρ[i]?).getD none else none) = some (some sv)
    rw [if_pos (hm s0 (List.mem_of_getElem? r1') r2), h2]
    rfl
theorem SIG.pad (S : SIG b c G ρ σ H) (n : Nat) : SIG b c G (ρ ++ List.replicate n none) (σ ++ List.replicate n none) H := by
  have key : ∀ {i : Nat} {s : Sv}, (ρ ++ List.replicate n none)[i]? = some (some s) → ρ[i]? = some (some s) ∧ (σ ++ List.replicate n none)[i]? = σ[i]? := fun {i s} e => by
    by_cases hi : i < ρ.length
    · rw [List.getElem?_append_left hi] at e
      exact ⟨e, List.getElem?_append_left (by rw [← S.len]; exact hi)⟩
    · rw [List.getElem?_append_right (by omega), List.getElem?_replicate] at e
      split at e <;> cases e
  refine ⟨by rw [List.length_append, List.length_append, S.len, List.length_replicate, List.length_replicate], S.g0, S.gh, S.gm, S.fr, S.gn, fun i s e => ?_, fun i j si sj p e1 e2 o1 o2 a1 a2 => ?_, fun i s p e o1 a1 => ?_, fun i p f hi => ?_, S.tb, S.ct, fun i r m p h1 h2 => by
    obtain ⟨e1, e2⟩ := key h1
    exact S.mz i r m p e1 (by rw [← e2]; exact h2), fun j k sj sk h1 h2 g1 g2 => S.m1 j k sj sk (key h1).1 (key h2).1 g1 g2, S.zz, fun j p f s h1 h2 h3 => S.rk j p f s h1 (key h2).1 h3⟩
  · obtain ⟨h1, h2⟩ := key e
    obtain ⟨v, hv, r⟩ := S.sl i s h1
    exact ⟨v, by rw [h2]; exact hv, r⟩
  · obtain ⟨h1, h2⟩ := key e1
    obtain ⟨g1, g2⟩ := key e2
    rw [h2] at a1
    rw [g2] at a2
    exact S.sp i j si sj p h1 g1 o1 o2 a1 a2
  · obtain ⟨h1, h2⟩ := key e
    rw [h2] at a1
    exact S.nw i s p h1 o1 a1
  · obtain ⟨h1, sv, h2, h3, h4⟩ := S.rf i p f hi
    have hl := (List.getElem?_eq_some_iff.mp h2).1
    exact ⟨by rw [List.getElem?_append_left (by rw [← S.len]; exact hl)]; exact h1, sv, by rw [List.getElem?_append_left hl]; exact h2, h3, h4⟩
end
theorem start_eq (N : List Str) (vs : List V) : start N vs = vsE vs ++ List.replicate (N.length - vs.length) none := rfl
section
variable {P : Program} {w : World} {K : Fg} {mg : Str → Option Value} {base : Heap} {x qual : Str} {params : Arguments} {body : List Stmt} {scope : Scope} {f : Addr} {fd : FuncData} {b : Bs}
/-- what is wanted of exceptions in a def's body -/
abbrev WF (E : XK) : WX := fun cls d _ H => E cls d H
theorem fn_bodyC {N ps : List Str} {k : Nat} {g : M Fl} (F : FunD K x qual params body scope [] [] f fd) (S : FnScope N ps scope)
    (hd : ∀ (cdv : Value) (A : Around) (outer : List Env) (s : Shared) (H : Hp) (E : XK), (∃ oc od osl, K.lookup f = some ⟨oc, od, .func fd, osl⟩ ∧ fd.code = cdv ∧ PySem.W.codeIn K cdv qual = true) → Room k (A.deeper (PyProof.Rows.envOfC qual scope s.heap.objs.size f cdv)) →
      PSs (cxOf (L2.CX P w) P w K mg base N qual scope f cdv A outer s H E) body (tS b (WF E) g)) : FnOk P w K mg base (L2.CX P w) (k + 1) f fd ps (spF b ps.length (bodyF N.length g)) := by
  obtain ⟨oc, od, dV, kV, doc, pm, an, cdv, ct, osl, rfl, lk, hcd, _, _⟩ := F.ex
  refine fn_of lk hcd S (fun vs H Q E h => ?_) (fun A outer s H vs Q E hr h => ⟨_, hd cdv A outer s H E ⟨oc, od, osl, lk, rfl, hcd⟩ hr, ?_⟩)
  · obtain ⟨G, svs, h1, _⟩ := h
    exact h1
  · obtain ⟨G, svs, hl, S0, hm, q⟩ := h
    have hlen : svs.length = vs.length := by
      have := S0.len
      unfold svsE vsE at this
      rw [List.length_map, List.length_map] at this
      exact this
    have S1 := S0.pad (N.length - vs.length)
    rw [← start_eq] at S1
    refine ⟨ctx0 G H svs vs, G, _, fun i p fl hi => ?_, S1, ?_⟩
    · obtain ⟨s0, r1, r2, r3, r4⟩ := mem_refsOf.mp hi
      rw [← r3]
      exact hm s0 (List.mem_of_getElem? (svsE_get.mp r1)) r2
    · unfold bodyF at q
      rw [hlen] at q
      cases e : g (svsE svs ++ List.replicate (N.length - vs.length) none) with
      | bad => rw [e] at q; exact q.elim
      | err kk ρ =>
        rw [e] at q
        exact fun σ' H' G' e' S' => q H' G' (S0.exit hm S')
      | ok fl ρ =>
        rw [e] at q
        cases fl with
        | nx => exact fun σ' H' G' e' S' => q .non H' G' (S0.exit hm S') .non
        | bk => exact q.elim
        | ct => exact q.elim
        | rt r => exact fun v σ' H' G' e' S' rn => q v H' G' (S0.exit hm S') rn
theorem fn_body {N ps : List Str} {k : Nat} {g : M Fl} (F : FunD K x qual params body scope [] [] f fd) (S : FnScope N ps scope)
    (hd : ∀ (cdv : Value) (A : Around) (outer : List Env) (s : Shared) (H : Hp) (E : XK), Room k (A.deeper (PyProof.Rows.envOfC qual scope s.heap.objs.size f cdv)) →
      PSs (cxOf (L2.CX P w) P w K mg base N qual scope f cdv A outer s H E) body (tS b (WF E) g)) : FnOk P w K mg base (L2.CX P w) (k + 1) f fd ps (spF b ps.length (bodyF N.length g)) :=
  fn_bodyC F S fun cdv A outer s H E _ hr => hd cdv A outer s H E hr
end
/-! the caller's side -/
def posOf (i : Nat) : List Av → Option Nat
  | [] => none
  | .d _ :: as => (posOf i as).map (· + 1)
  | .s k :: as => if k = i then some 0 else (posOf i as).map (· + 1)
def wb1 (as : List Av) (outs : Ev) (i : Nat) : Option Sv → Option Sv
  | none => none
  | some s => if s.own then (match posOf i as with
    | some j => (match outs[j]? with
      | some (some s') => some (s'.mark s.isRef)
      | _ => some s)
    | none => some s) else some s
def writeBack (ρ : Ev) (as : List Av) (outs : Ev) : Ev := ρ.mapIdx fun i o => wb1 as outs i o
def resolve (ρ : Ev) : List Av → Option (List Sv)
  | [] => some []
  | .d x :: as => (resolve ρ as).map fun r => .d x :: r
  | .s i :: as => match ρ[i]? with
    | some (some s) => (resolve ρ as).map fun r => s.mark true :: r
    | _ => none
def hasS (i : Nat) : List Av → Bool
  | [] => false
  | .d _ :: as => hasS i as
  | .s k :: as => decide (k = i) || hasS i as
def okArgs (ρ : Ev) : List Av → Bool
  | [] => true
  | .d _ :: as => okArgs ρ as
  | .s i :: as => (!ownAt ρ[i]? || !hasS i as) && okArgs ρ as
def callF (n : Nat) (F : Fn) (as : List Av) : M Rv := fun ρ => if as.length = n ∧ okArgs ρ as = true then (match resolve ρ as with
  | none => .bad
  | some svs => (match F svs with
    | .ok r outs => .ok r (writeBack ρ as outs)
    | .err k outs => .err k (writeBack ρ as outs)
    | .bad => .bad)) else .bad
def callM (n : Nat) (F : Fn) (fl : M (List Av)) : M Rv := bindM fl fun as => callF n F as
theorem hasS_of : ∀ {as : List Av} {j i : Nat}, as[j]? = some (.s i) → hasS i as = true
  | [], _, _, h => by simp at h
  | .d _ :: as, 0, _, h => by simp at h
  | .d _ :: as, j + 1, i, h => hasS_of (as := as) (j := j) (by simpa using h)
  | .s k :: as, 0, i, h => by
    simp at h
    subst h
    simp [hasS]
  | .s k :: as, j + 1, i, h => by
    have := hasS_of (as := as) (j := j) (i := i) (by simpa using h)
    simp [hasS, this]
theorem okArgs_uniq {ρ : Ev} : ∀ {as : List Av} {j k i : Nat}, okArgs ρ as = true → ownAt ρ[i]? = true → as[j]? = some (.s i) → as[k]? = some (.s i) → j = k
  | [], _, _, _, _, _, h, _ => by simp at h
  | .d _ :: as, 0, _, _, _, _, h, _ => by simp at h
  | .d _ :: as, _ + 1, 0, _, _, _, _, h => by simp at h
  | .d _ :: as, j + 1, k + 1, i, hk, ho, h1, h2 => by
    rw [okArgs_uniq (as := as) (j := j) (k := k) (i := i) hk ho (by simpa using h1) (by simpa using h2)]
  | .s m :: as, 0, 0, _, _, _, _, _ => rfl
  | .s m :: as, 0, k + 1, i, hk, ho, h1, h2 => by
    simp at h1
    subst h1
    unfold okArgs at hk
    rw [ho, hasS_of (as := as) (j := k) (i := m) (by simpa using h2)] at hk
    simp at hk
  | .s m :: as, j + 1, 0, i, hk, ho, h1, h2 => by
    simp at h2
    subst h2
    unfold okArgs at hk
    rw [ho, hasS_of (as := as) (j := j) (i := m) (by simpa using h1)] at hk
    simp at hk
  | .s m :: as, j + 1, k + 1, i, hk, ho, h1, h2 => by
    unfold okArgs at hk
    rw [Bool.and_eq_true] at hk
    rw [okArgs_uniq (as := as) (j := j) (k := k) (i := i) hk.2 ho (by simpa using h1) (by simpa using h2)]
theorem posOf_some : ∀ {as : List Av} {i j : Nat}, posOf i as = some j → as[j]? = some (.s i)
  | [], _, _, h => by cases h
  | .d x :: as, i, j, h => by
    have h : (posOf i as).map (· + 1) = some j := h
    cases q : posOf i as with
    | none => rw [q] at h; cases h
    | some k =>
      rw [q] at h
      cases h
      rw [List.getElem?_cons_succ]
      exact posOf_some q
  | .s m :: as, i, j, h => by
    unfold posOf at h
    split at h
    · rename_i e
      cases h
      rw [e]
      rfl
    · cases q : posOf i as with
      | none => rw [q] at h; cases h
      | some k =>
        rw [q] at h
        cases h
        rw [List.getElem?_cons_succ]
        exact posOf_some q
theorem posOf_none : ∀ {as : List Av} {i j : Nat}, posOf i as = none → as[j]? ≠ some (.s i)
  | [], _, _, _ => by simp
  | .d x :: as, i, 0, _ => by simp
  | .d x :: as, i, j + 1, h => by
    have h : (posOf i as).map (· + 1) = none := h
    rw [List.getElem?_cons_succ]
    exact posOf_none (by cases q : posOf i as with
      | none => rfl
      | some k => rw [q] at h; cases h)
  | .s m :: as, i, j, h => by
    unfold posOf at h
    split at h
    · cases h
    · rename_i hne
      cases j with
      | zero =>
        simp
        exact hne
      | succ j =>
        rw [List.getElem?_cons_succ]
        exact posOf_none (by cases q : posOf i as with
          | none => rfl
          | some k => rw [q] at h; cases h)
theorem resolve_get {ρ : Ev} : ∀ {as : List Av} {svs : List Sv} {j : Nat}, resolve ρ as = some svs → (svs[j]? = none ∧ as[j]? = none) ∨ (∃ x, as[j]? = some (.d x) ∧ svs[j]? = some (.d x)) ∨ ∃ i s, as[j]? = some (.s i) ∧ ρ[i]? = some (some s) ∧ svs[j]? = some (s.mark true)
  | [], svs, j, h => by
    cases h
    exact .inl ⟨by simp, by simp⟩
  | .d x :: as, svs, j, h => by
    have h : (resolve ρ as).map (fun r => Sv.d x :: r) = some svs := h
    cases q : resolve ρ as with
    | none => rw [q] at h; cases h
    | some r =>
      rw [q] at h
      cases h
      cases j with
      | zero => exact .inr (.inl ⟨x, rfl, rfl⟩)
      | succ j =>
        rw [List.getElem?_cons_succ, List.getElem?_cons_succ]
        exact resolve_get q
  | .s i :: as, svs, j, h => by
    unfold resolve at h
    split at h
    · rename_i s hs
      cases q : resolve ρ as with
      | none => rw [q] at h; cases h
      | some r =>
        rw [q] at h
        cases h
        cases j with
        | zero => exact .inr (.inr ⟨i, s, rfl, hs, rfl⟩)
        | succ j =>
          rw [List.getElem?_cons_succ, List.getElem?_cons_succ]
          exact resolve_get q
    · cases h
theorem resolve_len {ρ : Ev} : ∀ {as : List Av} {svs : List Sv}, resolve ρ as = some svs → svs.length = as.length
  | [], svs, h => by cases h; rfl
  | .d x :: as, svs, h => by
    have h : (resolve ρ as).map (fun r => Sv.d x :: r) = some svs := h
    cases q : resolve ρ as with
    | none => rw [q] at h; cases h
    | some r =>
      rw [q] at h
      cases h
      rw [List.length_cons, List.length_cons, resolve_len q]
  | .s i :: as, svs, h => by
    unfold resolve at h
    split at h
    · cases q : resolve ρ as with
      | none => rw [q] at h; cases h
      | some r =>
        rw [q] at h
        cases h
        rw [List.length_cons, List.length_cons, resolve_len q]
    · cases h
theorem ras_get {K : Fg} {G : Hp} {σ : St} : ∀ {vs : List V} {as : List Av} {j : Nat} {a : Av}, Ras K G σ vs as → as[j]? = some a → ∃ v, vs[j]? = some v ∧ RA K G σ v a
  | _, [], _, _, _, e => by simp at e
  | _, a :: as, 0, x, h, e => by
    cases h with
    | cons h1 h2 =>
      simp at e
      subst e
      exact ⟨_, rfl, h1⟩
  | _, a :: as, j + 1, x, h, e => by
    cases h with
    | cons h1 h2 =>
      obtain ⟨v, q, r⟩ := ras_get (j := j) h2 (by simpa using e)
      exact ⟨v, by simpa using q, r⟩
theorem vsE_get {vs : List V} {i : Nat} {v : V} : (vsE vs)[i]? = some (some v) ↔ vs[i]? = some v := by
  unfold vsE
  rw [List.getElem?_map]
  cases vs[i]? <;> simp
section
variable {b : Bs} {c : Fc} {G G' H H' : Hp} {ρ outs : Ev} {σ : St} {as : List Av} {svs : List Sv} {vs : List V}
/-- where an own argument comes from -/
theorem arg_own (S : SIG b c G ρ σ H) (r : Ras b.K G σ vs as) (hr : resolve ρ as = some svs) {j : Nat} {s : Sv} (e : svs[j]? = some s) (ho : s.own = true) : ∃ i s0, as[j]? = some (.s i) ∧ ρ[i]? = some (some s0) ∧ s0.own = true ∧ s = s0.mark true ∧ ∃ p, vs[j]? = some (.ref p) ∧ σ[i]? = some (some (.ref p)) := by
  rcases resolve_get (j := j) hr with ⟨z, _⟩ | ⟨x, _, z⟩ | ⟨i, s0, h1, h2, h3⟩
  · rw [z] at e; cases e
  · rw [z] at e; cases e; cases ho
  · rw [h3] at e
    cases e
    rw [own_mark] at ho
    obtain ⟨v, hv, ra⟩ := ras_get r h1
    obtain ⟨u, hu, rs⟩ := S.sl i s0 h2
    have ra : σ[i]? = some (some v) := ra
    rw [ra] at hu
    cases hu
    obtain ⟨p, o, rfl, _, _⟩ := rs.at ho
    exact ⟨i, s0, h1, h2, ho, rfl, p, hv, ra⟩
theorem SIG.give (S : SIG b c G ρ σ H) (r : Ras b.K G σ vs as) (hk : okArgs ρ as = true) (hr : resolve ρ as = some svs) : SIG b (ctx0 G H svs vs) G (svsE svs) (vsE vs) H := by
  have hlen : svs.length = vs.length := (resolve_len hr).trans (Paired.length r).symm
  have mt : ∀ {j : Nat} {r1 : Bool} {m : Ms}, (svsE svs)[j]? = some (some (.mt r1 m)) → ∃ (i : Nat) (r0 : Bool) (p : Addr), as[j]? = some (.s i) ∧ ρ[i]? = some (some (.mt r0 m)) ∧ σ[i]? = some (some (.ref p)) ∧ (vsE vs)[j]? = some (some (.ref p)) := fun {j r1 m} e => by
    obtain ⟨i, s0, h1, h2, h3, h4, p, h5, h6⟩ := arg_own S r hr (svsE_get.mp e) rfl
    cases s0 with
    | mt r0 m0 => cases h4; exact ⟨i, r0, p, h1, h2, h6, vsE_get.mpr h5⟩
    | _ => cases h4
  have zn : ∀ {a : Addr}, zoneOf H (svsE svs) (vsE vs) a → zoneOf H ρ σ a := fun {a} z => by
    obtain ⟨j, rj, m, p, C, m', Z, h1, h2, h3, h4⟩ := z
    obtain ⟨i, r0, p', g1, g2, g3, g4⟩ := mt h1
    rw [h2] at g4
    cases g4
    exact ⟨i, r0, m, p, C, m', Z, g2, g3, h3, h4⟩
  have base : SIG b ⟨G, H, refsOf (svsE svs) (vsE vs), zoneOf H (svsE svs) (vsE vs), fun i => ∃ r m, (svsE svs)[i]? = some (some (.mt r m))⟩ G (svsE svs) (vsE vs) H := by
    refine ⟨by unfold svsE vsE; rw [List.length_map, List.length_map, hlen], Same.refl _, S.gh, S.gm, fun a o e _ _ _ => e, fun a o e => .inl e, fun j s e => ?_, fun j k sj sk p e1 e2 o1 o2 a1 a2 => ?_, fun j s p e o1 a1 => .inr ⟨_, mem_refsOf.mpr ⟨s, e, o1, rfl, a1⟩⟩, fun j p f hj => ?_, S.tb, S.hT, fun j rj m p h1 h2 => ?_, fun j k sj sk h1 h2 g1 g2 => ?_, fun a z => (S.zone (zn z)).1, fun i p f s _ h2 h3 => by
      obtain ⟨r, m, rfl⟩ := isMt_of h3
      exact ⟨r, m, h2⟩⟩
    case refine_4 =>
      obtain ⟨i, r0, p', g1, g2, g3, g4⟩ := mt h1
      rw [h2] at g4
      cases g4
      obtain ⟨Z, z1, z2⟩ := S.mz i r0 m p g2 g3
      exact ⟨Z, z1, fun q hq => ⟨(z2 q hq).1, .inr ⟨j, rj, m, p, _, m, Z, h1, h2, z1, hq⟩⟩⟩
    case refine_5 =>
      obtain ⟨rj, mj, rfl⟩ := isMt_of g1
      obtain ⟨rk, mk, rfl⟩ := isMt_of g2
      obtain ⟨i, r0, p, e1, e2, e3, e4⟩ := mt h1
      obtain ⟨i', r0', p', e1', e2', e3', e4'⟩ := mt h2
      have ei := S.m1 i i' _ _ e2 e2' rfl rfl
      subst ei
      exact okArgs_uniq hk (by rw [e2]; rfl) e1 e1'
    · have e := svsE_get.mp e
      rcases resolve_get (j := j) hr with ⟨z, _⟩ | ⟨x, z1, z⟩ | ⟨i, s0, h1, h2, h3⟩
      · rw [z] at e; cases e
      · rw [z] at e
        cases e
        obtain ⟨v, hv, ra⟩ := ras_get r z1
        exact ⟨v, vsE_get.mpr hv, ra⟩
      · rw [h3] at e
        cases e
        obtain ⟨v, hv, ra⟩ := ras_get r h1
        obtain ⟨u, hu, rs⟩ := S.sl i s0 h2
        have ra : σ[i]? = some (some v) := ra
        rw [ra] at hu
        cases hu
        exact ⟨v, vsE_get.mpr hv, rs.mark true⟩
    · obtain ⟨i, s0, h1, h2, h3, _, q, h4, h5⟩ := arg_own S r hr (svsE_get.mp e1) o1
      obtain ⟨i', s0', g1, g2, g3, _, q', g4, g5⟩ := arg_own S r hr (svsE_get.mp e2) o2
      rw [vsE_get.mpr h4] at a1
      rw [vsE_get.mpr g4] at a2
      cases a1
      cases a2
      have ei := S.sp i i' s0 s0' p h2 g2 h3 g3 h5 g5
      subst ei
      exact okArgs_uniq hk (by rw [h2]; exact h3) h1 g1
    · obtain ⟨s, h1, h2, h3, h4⟩ := mem_refsOf.mp hj
      exact ⟨h4, s, h1, h2, h3⟩
  exact base
theorem wb_get (i : Nat) : (writeBack ρ as outs)[i]? = (ρ[i]?).map (wb1 as outs i) := by
  unfold writeBack
  rw [List.getElem?_mapIdx]
/-- behind the call -/
theorem SIG.take (S : SIG b c G ρ σ H) (r : Ras b.K G σ vs as) (hk : okArgs ρ as = true) (hr : resolve ρ as = some svs) (S' : SIG b (ctx0 G H svs vs) G' outs (vsE vs) H') : SIG b c G' (writeBack ρ as outs) σ H' := by
  -- a slot behind the call: as it was, or lent
  have lent : ∀ {i : Nat} {s0 : Sv} {p : Addr}, ρ[i]? = some (some s0) → s0.own = true → σ[i]? = some (some (.ref p)) → (∃ j s', posOf i as = some j ∧ outs[j]? = some (some s') ∧ s'.own = true ∧ (vsE vs)[j]? = some (some (.ref p)) ∧ (writeBack ρ as outs)[i]? = some (some (s'.mark s0.isRef))) ∨
      ((∀ j f, (j, p, f) ∉ (ctx0 G H svs vs).refs) ∧ (writeBack ρ as outs)[i]? = some (some s0)) := fun {i s0 p} h1 h2 h3 => by
    cases q : posOf i as with
    | some j =>
      have hj := posOf_some q
      obtain ⟨v, hv, ra⟩ := ras_get r hj
      have ra : σ[i]? = some (some v) := ra
      rw [ra] at h3
      cases h3
      have hs : svs[j]? = some (s0.mark true) := by
        rcases resolve_get (j := j) hr with ⟨_, z⟩ | ⟨x, z, _⟩ | ⟨i', s', z1, z2, z3⟩
        · rw [hj] at z; cases z
        · rw [hj] at z; cases z
        · rw [hj] at z1
          cases z1
          rw [h1] at z2
          cases z2
          exact z3
      have hm : (j, p, true) ∈ (ctx0 G H svs vs).refs := mem_refsOf.mpr ⟨_, svsE_get.mpr hs, by rw [own_mark]; exact h2, ref_mark h2, vsE_get.mpr hv⟩
      obtain ⟨g1, s', g2, g3, g4⟩ := S'.rf j p true hm
      refine .inl ⟨j, s', rfl, g2, g3, g1, ?_⟩
      rw [wb_get, h1]
      show some (wb1 as outs i (some s0)) = _
      unfold wb1
      dsimp only
      rw [if_pos h2, q]
      dsimp only
      rw [g2]
    | none =>
      refine .inr ⟨fun j f hj => ?_, ?_⟩
      · obtain ⟨s, r1, r2, r3, r4⟩ := mem_refsOf.mp hj
        obtain ⟨i', s', g1, g2, g3, _, p', g4, g5⟩ := arg_own S r hr (svsE_get.mp r1) r2
        rw [vsE_get.mpr g4] at r4
        cases r4
        have := S.sp i i' s0 s' p h1 g2 h2 g3 h3 g5
        subst this
        exact posOf_none q g1
      · rw [wb_get, h1]
        show some (wb1 as outs i (some s0)) = _
        unfold wb1
        dsimp only
        rw [if_pos h2, q]
  have back : ∀ {i : Nat} {s : Sv}, (writeBack ρ as outs)[i]? = some (some s) → ∃ s0 : Sv, ρ[i]? = some (some s0) ∧ s.own = s0.own ∧ (s0.own = false → s = s0) ∧ (s0.own = true → s.isRef = s0.isRef) := fun {i s} e => by
    have e0 := e
    rw [wb_get] at e
    cases q : ρ[i]? with
    | none => rw [q] at e; cases e
    | some o =>
      cases o with
      | none => rw [q] at e; cases e
      | some s0 =>
        refine ⟨s0, rfl, ?_⟩
        cases ho : s0.own with
        | false =>
          rw [q] at e
          have e : some (wb1 as outs i (some s0)) = some (some s) := e
          unfold wb1 at e
          dsimp only at e
          rw [ho, if_neg Bool.false_ne_true] at e
          cases e
          exact ⟨ho, fun _ => rfl, fun z => by cases z⟩
        | true =>
          obtain ⟨v, hv, rs⟩ := S.sl i s0 q
          obtain ⟨p, o, rfl, _, _⟩ := rs.at ho
          rcases lent q ho hv with ⟨j, s', h1, h2, h3, h4, h5⟩ | ⟨_, h5⟩
          · rw [h5] at e0
            cases e0
            exact ⟨by rw [own_mark]; exact h3, (fun z => by cases z), fun _ => ref_mark h3⟩
          · rw [h5] at e0
            cases e0
            exact ⟨ho, (fun z => by cases z), fun _ => rfl⟩
  have frz : ∀ {p o}, G p = none → H p = some o → HO.plain o = true → G' p = none := fun {p o} g1 h1 pl => by
    cases z : G' p with
    | none => rfl
    | some u =>
      rcases S'.gn p u z with y | y | ⟨_, _, y⟩
      · rw [show (ctx0 G H svs vs).G0 p = G p from rfl, g1] at y; cases y
      · rw [show (ctx0 G H svs vs).H0 p = H p from rfl, h1] at y; cases y
      · rw [show (ctx0 G H svs vs).H0 p = H p from rfl, h1] at y; cases y; cases pl
  have sGG : Same G G' := S'.g0
  have mt : ∀ {j : Nat} {r1 : Bool} {m : Ms}, (svsE svs)[j]? = some (some (.mt r1 m)) → ∃ (i : Nat) (r0 : Bool) (p : Addr), as[j]? = some (.s i) ∧ ρ[i]? = some (some (.mt r0 m)) ∧ σ[i]? = some (some (.ref p)) ∧ (vsE vs)[j]? = some (some (.ref p)) := fun {j r1 m} e => by
    obtain ⟨i, s0, h1, h2, h3, h4, p, h5, h6⟩ := arg_own S r hr (svsE_get.mp e) rfl
    cases s0 with
    | mt r0 m0 => cases h4; exact ⟨i, r0, p, h1, h2, h6, vsE_get.mpr h5⟩
    | _ => cases h4
  have zn : ∀ {a : Addr}, (ctx0 G H svs vs).Z a → zoneOf H ρ σ a ∧ ∃ (i j : Nat) (r0 : Bool) (m : Ms), posOf i as = some j ∧ ρ[i]? = some (some (.mt r0 m)) := fun {a} z => by
    obtain ⟨j, rj, m, p, C, m', Z, h1, h2, h3, h4⟩ := z
    obtain ⟨i, r0, p', g1, g2, g3, g4⟩ := mt h1
    rw [h2] at g4
    cases g4
    refine ⟨⟨i, r0, m, p, C, m', Z, g2, g3, h3, h4⟩, ?_⟩
    cases q : posOf i as with
    | none => exact absurd g1 (posOf_none q)
    | some j' => exact ⟨i, j', r0, m, q, g2⟩
  have one : ∀ {i : Nat} {s : Sv}, (writeBack ρ as outs)[i]? = some (some s) → s.isMt = true → (∃ (r0 : Bool) (m : Ms), ρ[i]? = some (some (.mt r0 m)) ∧ posOf i as = none ∧ s = .mt r0 m) ∨ ∃ (j : Nat) (s' : Sv) (p : Addr), posOf i as = some j ∧ outs[j]? = some (some s') ∧ s'.isMt = true ∧ (vsE vs)[j]? = some (some (.ref p)) ∧ σ[i]? = some (some (.ref p)) ∧ (∃ r1 m, s = .mt r1 m ∧ ∃ r2, s' = .mt r2 m) ∧ ∃ r0 m0, ρ[i]? = some (some (.mt r0 m0)) := fun {i s} e hs => by
    obtain ⟨r1, m, rfl⟩ := isMt_of hs
    obtain ⟨s0, h0, h1, h2, h3⟩ := back e
    have ho : s0.own = true := by rw [← h1]; rfl
    obtain ⟨v, hv, rs⟩ := S.sl i s0 h0
    obtain ⟨p, o, rfl, hp, gp⟩ := rs.at ho
    rcases lent h0 ho hv with ⟨j, s', q1, q2, q3, q4, q5⟩ | ⟨q1, q5⟩
    · have k2 : ∃ r2, s' = .mt r2 m := by
        rw [q5] at e
        cases s' <;> first | (cases e; exact ⟨_, rfl⟩) | (cases e)
      obtain ⟨r2, rfl⟩ := k2
      refine .inr ⟨j, _, p, q1, q2, rfl, q4, hv, ⟨r1, m, rfl, _, rfl⟩, ?_⟩
      have hj := posOf_some q1
      have hs : svs[j]? = some (s0.mark true) := by
        rcases resolve_get (j := j) hr with ⟨_, z⟩ | ⟨x, z, _⟩ | ⟨i', s'', z1, z2, z3⟩
        · rw [hj] at z; cases z
        · rw [hj] at z; cases z
        · rw [hj] at z1
          cases z1
          rw [h0] at z2
          cases z2
          exact z3
      obtain ⟨r3, m3, e3⟩ := S'.rk j p true _ (mem_refsOf.mpr ⟨_, svsE_get.mpr hs, by rw [own_mark]; exact ho, ref_mark ho, q4⟩) q2 rfl
      rw [svsE_get.mp e3] at hs
      cases s0 <;> first | exact ⟨_, _, h0⟩ | (cases hs)
    · rw [q5] at e
      cases e
      refine .inl ⟨r1, m, h0, ?_, rfl⟩
      cases q : posOf i as with
      | none => rfl
      | some j =>
        exfalso
        have hj := posOf_some q
        obtain ⟨v', hv', ra⟩ := ras_get r hj
        have ra : σ[i]? = some (some v') := ra
        rw [ra] at hv
        cases hv
        have hs : svs[j]? = some (Sv.mt true m) := by
          rcases resolve_get (j := j) hr with ⟨_, z⟩ | ⟨x, z, _⟩ | ⟨i', s'', z1, z2, z3⟩
          · rw [hj] at z; cases z
          · rw [hj] at z; cases z
          · rw [hj] at z1
            cases z1
            rw [h0] at z2
            cases z2
            exact z3
        exact q1 j true (mem_refsOf.mpr ⟨_, svsE_get.mpr hs, rfl, rfl, vsE_get.mpr hv'⟩)
  refine ⟨by unfold writeBack; rw [List.length_mapIdx]; exact S.len, S.g0.trans sGG, S'.gh, S'.gm, fun a o h1 hT h2 hZ => ?_, fun a o h1 => ?_, fun i s e => ?_, fun i j si sj p e1 e2 o1 o2 a1 a2 => ?_, fun i s p e o1 a1 => ?_, fun i p f hi => ?_, S'.tb, S.ct, fun i r1 m p h1 h2 => ?_, fun i j si sj h1 h2 g1 g2 => ?_, S.zz, fun i p f s h1 h2 h3 => ?_⟩
  case refine_7 =>
    rcases one h1 rfl with ⟨r0, m0, g1, g2, g3⟩ | ⟨j, s', p', g1, g2, g3, g4, g5, ⟨r1', m', g6, r2, g7⟩, _⟩
    · cases g3
      obtain ⟨Z, z1, z2⟩ := S.mz i _ m p g1 h2
      have nz : ∀ {a : Addr}, ¬ (ctx0 G H svs vs).Z a := fun {a} z => by
        obtain ⟨_, i', j', r', m', y1, y2⟩ := zn z
        have := S.m1 i i' _ _ g1 y2 rfl rfl
        subst this
        rw [g2] at y1
        cases y1
      refine ⟨Z, z1.keep fun a o ha hq => ?_, fun q hq => ⟨(z2 q hq).1.mono sGG, (z2 q hq).2⟩⟩
      have nT : ∀ t ∈ b.T, t.1 ≠ a := fun t ht z => by
        obtain ⟨ps, w1, _⟩ := S.tb t ht
        rw [z, hq] at w1
        cases w1
        rcases ha with ha | ha | ⟨xs, ha⟩
        · subst ha
          obtain ⟨dx, fs, w⟩ := z1.main
          rw [hq] at w
          cases w
        · obtain ⟨xs, w⟩ := z1.lsts a ha
          rw [hq] at w
          cases w
        · cases ha
      refine S'.fr a o hq nT (fun j f hj => ?_) nz
      obtain ⟨s, r1, r2, r3, r4⟩ := mem_refsOf.mp hj
      obtain ⟨i', s', w1, w2, w3, _, p', w4, w5⟩ := arg_own S r hr (svsE_get.mp r1) r2
      rw [vsE_get.mpr w4] at r4
      cases r4
      rcases ha with ha | ha | ⟨xs, ha⟩
      · subst ha
        have := S.sp i i' _ s' a g1 w2 rfl w3 h2 w5
        subst this
        exact posOf_none g2 w1
      · obtain ⟨v, hv, rs⟩ := S.sl i' s' w2
        rw [w5] at hv
        cases hv
        obtain ⟨p2, o2, e2, _, y2⟩ := rs.at w3
        cases e2
        exact (z2 a ha).1.ne y2 rfl
      · subst ha
        obtain ⟨v, hv, rs⟩ := S.sl i' s' w2
        rw [w5] at hv
        cases hv
        obtain ⟨o1, y1, y2⟩ := rs.kind w3
        rw [hq] at y1
        cases y1
        cases y2
    · cases g6
      rw [g5] at h2
      cases h2
      subst g7
      obtain ⟨Z, z1, z2⟩ := S'.mz j r2 m p g2 g4
      refine ⟨Z, z1, fun q hq => ⟨(z2 q hq).1, ?_⟩⟩
      rcases (z2 q hq).2 with z | z
      · exact .inl (S.fresh0 z)
      · exact (S.zone (zn z).1).2
  case refine_8 =>
    have was : ∀ {i : Nat} {s : Sv}, (writeBack ρ as outs)[i]? = some (some s) → s.isMt = true → ∃ r0 m0, ρ[i]? = some (some (.mt r0 m0)) := fun {i s} e hs => by
      rcases one e hs with ⟨r0, m0, a1, _⟩ | ⟨_, _, _, _, _, _, _, _, _, a1⟩
      · exact ⟨r0, m0, a1⟩
      · exact a1
    obtain ⟨r1, m1, e1⟩ := was h1 g1
    obtain ⟨r2, m2, e2⟩ := was h2 g2
    exact S.m1 i j _ _ e1 e2 rfl rfl
  case refine_9 =>
    rcases one h2 h3 with ⟨r0, m0, a1, _⟩ | ⟨_, _, _, _, _, _, _, _, _, r0, m0, a1⟩
    · exact S.rk i p f _ h1 a1 rfl
    · exact S.rk i p f _ h1 a1 rfl
  · refine S'.fr a o (S.fr a o h1 hT h2 hZ) hT (fun j f hj => ?_) (fun z => by
      rcases (S.zone (zn z).1).2 with y | y
      · rw [h1] at y; cases y
      · exact hZ y)
    obtain ⟨s, r1, r2, r3, r4⟩ := mem_refsOf.mp hj
    obtain ⟨i', s', g1, g2, g3, _, p', g4, g5⟩ := arg_own S r hr (svsE_get.mp r1) r2
    rw [vsE_get.mpr g4] at r4
    cases r4
    rcases S.nw i' s' a g2 g3 g5 with z | ⟨f', z⟩
    · rw [h1] at z; cases z
    · exact h2 i' f' z
  · rcases S'.gn a o h1 with z | z | ⟨xs, rfl, z⟩
    · exact S.gn a o z
    · exact .inr (.inl (S.fresh0 z))
    · rcases S.tup0 z with y | y
      · exact .inr (.inl y)
      · exact .inr (.inr ⟨xs, rfl, y⟩)
  · obtain ⟨s0, h0, h1, h2, h3⟩ := back e
    obtain ⟨v, hv, rs⟩ := S.sl i s0 h0
    refine ⟨v, hv, ?_⟩
    cases ho : s0.own with
    | false =>
      rw [h2 ho]
      exact rs.keep sGG fun p u z _ _ => by rw [ho] at z; cases z
    | true =>
      obtain ⟨p, o, rfl, hp, gp⟩ := rs.at ho
      rcases lent h0 ho hv with ⟨j, s', q1, q2, q3, q4, q5⟩ | ⟨q1, q5⟩
      · rw [q5] at e
        cases e
        obtain ⟨u, hu, ru⟩ := S'.sl j s' q2
        rw [q4] at hu
        cases hu
        exact ru.mark _
      · rw [q5] at e
        cases e
        refine rs.keep sGG fun p' u _ ev hq => ?_
        cases ev
        obtain ⟨o1, w1, w2⟩ := rs.kind ho
        exact ⟨S'.fr p u hq (S.notT w1 w2) q1 (fun z => (S.zone (zn z).1).1.ne gp rfl), frz gp hq (by rw [w1] at hq; cases hq; exact w2)⟩
  · obtain ⟨s0, h0, h1, _⟩ := back e1
    obtain ⟨s1, g0, g1, _⟩ := back e2
    exact S.sp i j s0 s1 p h0 g0 (by rw [← h1]; exact o1) (by rw [← g1]; exact o2) a1 a2
  · obtain ⟨s0, h0, h1, _⟩ := back e
    exact S.nw i s0 p h0 (by rw [← h1]; exact o1) a1
  · obtain ⟨h1, s0, h2, h3, h4⟩ := S.rf i p f hi
    rcases lent h2 h3 h1 with ⟨j, s', q1, q2, q3, q4, q5⟩ | ⟨q1, q5⟩
    · exact ⟨h1, _, q5, by rw [own_mark]; exact q3, by rw [ref_mark q3]; exact h4⟩
    · exact ⟨h1, s0, q5, h3, h4⟩
theorem own_back (S : SIG b c G ρ σ H) {i : Nat} {s : Sv} (e : (writeBack ρ as outs)[i]? = some (some s)) (ho : s.own = true) : ∃ s0, ρ[i]? = some (some s0) ∧ s0.own = true := by
  rw [wb_get] at e
  cases q : ρ[i]? with
  | none => rw [q] at e; cases e
  | some o =>
    cases o with
    | none => rw [q] at e; cases e
    | some s0 =>
      refine ⟨s0, rfl, ?_⟩
      cases h0 : s0.own with
      | true => rfl
      | false =>
        rw [q] at e
        have e : some (wb1 as outs i (some s0)) = some (some s) := e
        unfold wb1 at e
        dsimp only at e
        rw [h0, if_neg Bool.false_ne_true] at e
        cases e
        rw [h0] at ho
        cases ho
end
theorem rn_inner {b : Bs} {c : Fc} {G G' H H' : Hp} {ρ : Ev} {σ : St} {v : V} {r : Rv} {refs : List (Nat × Addr × Bool)} {Zp : Addr → Prop} {Mp : Nat → Prop} (S : SIG b c G ρ σ H) (h : RN b ⟨G, H, refs, Zp, Mp⟩ G' H' v r) : RN b c G' H' v r := by
  cases r with
  | d x => exact h
  | l xs => obtain ⟨p, vs, h1, h2, h3, h4, h5⟩ := h; exact ⟨p, vs, h1, h2, h3, h4, S.fresh0 h5⟩
  | k xs => obtain ⟨p, vs, h1, h2, h3, h4, h5⟩ := h; exact ⟨p, vs, h1, h2, h3, h4, S.fresh0 h5⟩
  | t xs => obtain ⟨p, vs, h1, h2, h3, h4, h5⟩ := h; exact ⟨p, vs, h1, h2, h3, h4, S.fresh0 h5⟩
section
variable {X : Cx} {b : Bs} {W : WX} {k n : Nat} {f : Addr} {fd : FuncData} {ps : List Str} {F : Fn} {x : Str} {p pos : Pos} {e : Expr} {es : List Expr} {fl : M (List Av)}
theorem m_call (FN : FnOk X.prog X.w X.K X.mg X.base (L2.CX X.prog X.w) k f fd ps (spF b n F)) (hr : Room k X.A) (hg : Gl X x) (hm : X.mg x = some (.ref f)) (hk : PySem.W.keepIn X.K (.ref f) = true) (hb : Binds X.K fd ps []) (tk : Takes X W)
    (ha : PA X (e :: es) (tL b W fl)) (hdb : (x == ("__debug__" : Str)) = false := by decide) (he : starEach (e :: es) X.env = (false, eval e X.env) :: starEach es X.env := by rfl) (hpl : (backTo pos (starEach es X.env)).any (·.1) = false := by rfl) :
    PE X (.Call (.Name x p) (e :: es) [] pos) (tV b W (callM n F fl)) := weakE (pe_callS (E := WE W) FN hr hg hm hk hb (fun σ => passAt tk σ) ha hdb he hpl) fun σ H Q ⟨c, G, ρ, S, q⟩ => by
  refine ⟨c, G, ρ, S, (Post.bind q).imp fun as ρ1 G1 H1 e1 S1 q1 vs hvs => ?_⟩
  unfold callF at q1
  split at q1
  · rename_i hc
    cases hres : resolve ρ1 as with
    | none => rw [hres] at q1; exact q1.elim
    | some svs =>
      rw [hres] at q1
      dsimp only at q1
      have S2 := S1.give hvs hc.2 hres
      refine ⟨G1, svs, by rw [Paired.length hvs]; exact hc.1, S2, fun s hs ho => ?_, ?_⟩
      · obtain ⟨j, hj⟩ := List.getElem?_of_mem hs
        obtain ⟨i, s0, h1, h2, h3, rfl, _⟩ := arg_own S1 hvs hres hj ho
        exact ref_mark h3
      · cases hF : F svs with
        | bad => rw [hF] at q1; exact q1.elim
        | err kk outs =>
          rw [hF] at q1
          exact fun H' G' S' => q1 H' G' S'.g0 (S1.take hvs hc.2 hres S')
        | ok rr outs =>
          rw [hF] at q1
          intro v H' G' S' rn
          refine q1 H' G' S'.g0 (S1.take hvs hc.2 hres S') v (rn_inner S1 rn) fun pp ep hn i s es ho a1 => ?_
          obtain ⟨s0, h1, h2⟩ := own_back S1 es ho
          exact S1.noOwn (rn_new rn hn ep) i s0 h1 h2 a1
  · exact q1.elim
end
end G8
namespace G8
open PySem L2
/-! what operators do with data -/
section
variable {K : Fg} {G H : Hp}
mutual
theorem Rp.plain : ∀ (d : Dt) (v : V), Rp K G v d → d.plain = true
  | .none, _, _ => rfl
  | .bool b, _, _ => rfl
  | .int i, _, _ => rfl
  | .str x, _, _ => rfl
  | .list ds, _, h => by
    cases h with
    | lst h1 h2 => exact Rps.plain ds _ h2
  | .tuple ds, _, h => by
    cases h with
    | tup h1 h2 => exact Rps.plain ds _ h2
  | .dict _, _, h => by cases h
theorem Rps.plain : ∀ (ds : List Dt) (vs : List V), Rps K G vs ds → PyData.plainAll ds = true
  | [], _, _ => rfl
  | d :: ds, _, h => by
    cases h with
    | cons h1 h2 =>
      show (d.plain && PyData.plainAll ds) = true
      rw [Rp.plain d _ h1, Rps.plain ds _ h2]
      rfl
end
theorem RO.plain {v : V} {x : Dt} (h : RO K G H v x) : x.plain = true := by
  rcases h with h | ⟨p, vs, xs, _, rfl, _, h⟩
  · exact Rp.plain _ _ h
  · exact Rps.plain _ _ h
end
def shal (x : Dt) : Bool := decide (x.depth ≤ 60)
def shalL (x : List Dt) : Bool := decide (PyData.depthAll x ≤ 60)
/-- readable data at two places -/
def rTwo (K : Fg) (g : Dt → Dt → Option Bool) : R2 := fun x y H Q => ∃ d e z, Dp K H x d ∧ Dp K H y e ∧ d.plain = true ∧ e.plain = true ∧ g d e = some z ∧ Q (.bl z) H
theorem tells_two {b : Bs} (g : Dt → Dt → Option Bool) : Tells b (rTwo b.K g) g := fun {c G H ρ σ x y dx dy z Q} S hx hy e q => ⟨dx, dy, z, hx.dp S.gh, hy.dp S.gh, hx.plain, hy.plain, e, q⟩
def eqD (x y : Dt) : Option Bool := if shal x && shal y then some (PyData.eqv x y) else none
def neD (x y : Dt) : Option Bool := if shal x && shal y then some (!PyData.eqv x y) else none
def inD (x y : Dt) : Option Bool := match y with
  | .list ys => if shal x && shalL ys then some (ys.any fun z => PyData.eqv z x) else none
  | .tuple ys => if shal x && shalL ys then some (ys.any fun z => PyData.eqv z x) else none
  | _ => none
def ninD (x y : Dt) : Option Bool := (inD x y).map not
section
variable {X : Cx}
theorem sh_of {x : Dt} (h : shal x = true) : x.depth ≤ 60 := of_decide_eq_true h
theorem shL_of {x : List Dt} (h : shalL x = true) : PyData.depthAll x ≤ 60 := of_decide_eq_true h
theorem o_eq (hu : X.A.units + 64 < cLine) : OpR X (compareOp .Eq) (rTwo X.K eqD) := by
  intro pins s σ H x y v u Q I rx ry h
  obtain ⟨d, e, z, hd, he, pd, pe, hg, q⟩ := h
  obtain ⟨as, r1⟩ := Dp.reads I d x v hd rx
  obtain ⟨bs, r2⟩ := Dp.reads I e y u he ry
  unfold eqD at hg
  split at hg
  · rename_i hs
    rw [Bool.and_eq_true] at hs
    cases hg
    have h1 := sh_of hs.1
    exact SeqAt.eq_plain r1 r2 pd pe (by have := Nat.min_le_left d.depth e.depth; omega) ⟨.bl _, H, I, rfl, q⟩
  · cases hg
theorem o_ne (hu : X.A.units + 64 < cLine) : OpR X (compareOp .NotEq) (rTwo X.K neD) := by
  intro pins s σ H x y v u Q I rx ry h
  obtain ⟨d, e, z, hd, he, pd, pe, hg, q⟩ := h
  obtain ⟨as, r1⟩ := Dp.reads I d x v hd rx
  obtain ⟨bs, r2⟩ := Dp.reads I e y u he ry
  unfold neD at hg
  split at hg
  · rename_i hs
    rw [Bool.and_eq_true] at hs
    cases hg
    have h1 := sh_of hs.1
    exact SeqAt.ne_plain r1 r2 pd pe (by have := Nat.min_le_left d.depth e.depth; omega) ⟨.bl _, H, I, rfl, q⟩
  · cases hg
theorem o_in (hu : X.A.units + 64 < cLine) : OpR X (compareOp .In) (rTwo X.K inD) := by
  intro pins s σ H x y v u Q I rx ry h
  obtain ⟨d, e, z, hd, he, pd, pe, hg, q⟩ := h
  obtain ⟨as, r1⟩ := Dp.reads I d x v hd rx
  obtain ⟨bs, r2⟩ := Dp.reads I e y u he ry
  unfold inD at hg
  split at hg
  · rename_i ys
    split at hg
    · rename_i hs
      rw [Bool.and_eq_true] at hs
      cases hg
      have h1 := sh_of hs.1
      exact SeqAt.in_list_data r2 r1 pe pd (by have := Nat.min_le_right (PyData.depthAll ys) d.depth; omega) ⟨.bl _, H, I, rfl, q⟩
    · cases hg
  · rename_i ys
    split at hg
    · rename_i hs
      rw [Bool.and_eq_true] at hs
      cases hg
      have h1 := sh_of hs.1
      exact SeqAt.in_tuple_data r2 r1 pe pd (by have := Nat.min_le_right (PyData.depthAll ys) d.depth; omega) ⟨.bl _, H, I, rfl, q⟩
    · cases hg
  · cases hg
theorem o_nin (hu : X.A.units + 64 < cLine) : OpR X (compareOp .NotIn) (rTwo X.K ninD) := by
  intro pins s σ H x y v u Q I rx ry h
  obtain ⟨d, e, z, hd, he, pd, pe, hg, q⟩ := h
  obtain ⟨as, r1⟩ := Dp.reads I d x v hd rx
  obtain ⟨bs, r2⟩ := Dp.reads I e y u he ry
  unfold ninD inD at hg
  split at hg
  · rename_i ys
    split at hg
    · rename_i hs
      rw [Bool.and_eq_true] at hs
      cases hg
      have h1 := sh_of hs.1
      exact SeqAt.notIn_list_data r2 r1 pe pd (by have := Nat.min_le_right (PyData.depthAll ys) d.depth; omega) ⟨.bl _, H, I, rfl, q⟩
    · cases hg
  · rename_i ys
    split at hg
    · rename_i hs
      rw [Bool.and_eq_true] at hs
      cases hg
      have h1 := sh_of hs.1
      exact SeqAt.notIn_tuple_data r2 r1 pe pd (by have := Nat.min_le_right (PyData.depthAll ys) d.depth; omega) ⟨.bl _, H, I, rfl, q⟩
    · cases hg
  · cases hg
end
def ltI (x y : Dt) : Option Bool := match x, y with
  | .int i, .int j => some (decide (i < j))
  | _, _ => none
def leI (x y : Dt) : Option Bool := match x, y with
  | .int i, .int j => some (decide (i ≤ j))
  | _, _ => none
def gtI (x y : Dt) : Option Bool := match x, y with
  | .int i, .int j => some (decide (j < i))
  | _, _ => none
def geI (x y : Dt) : Option Bool := match x, y with
  | .int i, .int j => some (decide (j ≤ i))
  | _, _ => none
theorem tells_ints {b : Bs} {g : Int → Int → Bool} {h : Dt → Dt → Option Bool} (hh : ∀ x y z, h x y = some z → ∃ i j, x = .int i ∧ y = .int j ∧ z = g i j) : Tells b (rI0 fun i j => .bl (g i j)) h := fun {c G H ρ σ x y dx dy z Q} S hx hy e q => by
  obtain ⟨i, j, rfl, rfl, rfl⟩ := hh _ _ _ e
  exact ⟨i, j, hx.int, hy.int, q⟩
theorem t_lt {b : Bs} : Tells b (rI0 fun i j => .bl (decide (i < j))) ltI := tells_ints fun x y z e => by
  cases x <;> cases y <;> first | (cases e; exact ⟨_, _, rfl, rfl, rfl⟩) | cases e
theorem t_le {b : Bs} : Tells b (rI0 fun i j => .bl (decide (i ≤ j))) leI := tells_ints fun x y z e => by
  cases x <;> cases y <;> first | (cases e; exact ⟨_, _, rfl, rfl, rfl⟩) | cases e
theorem t_gt {b : Bs} : Tells b (rI0 fun i j => .bl (decide (j < i))) gtI := tells_ints fun x y z e => by
  cases x <;> cases y <;> first | (cases e; exact ⟨_, _, rfl, rfl, rfl⟩) | cases e
theorem t_ge {b : Bs} : Tells b (rI0 fun i j => .bl (decide (j ≤ i))) geI := tells_ints fun x y z e => by
  cases x <;> cases y <;> first | (cases e; exact ⟨_, _, rfl, rfl, rfl⟩) | cases e
/-- comparisons as values -/
def cmpM (g : Dt → Dt → Option Bool) (fa fb : M Av) : M Av := bindM fa fun a => bindM fb fun b => optM fun ρ => (res ρ a).bind fun x => (res ρ b).bind fun y => (g x y).map fun z => .d (.bool z)
section
variable {X : Cx} {b : Bs} {W : WX} {a a2 : Expr} {fa fb : M Av} {pos : Pos}
theorem m_cmpB {op : CmpOp} {r : R2} {g : Dt → Dt → Option Bool} (ho : OpR X (compareOp op) r) (t : Tells b r g) (ha : PE X a (tE b W fa)) (hb : PE X a2 (tE b W fb)) (hm : behindInMarks op a2 = false) : PE X (.Compare a [op] [a2] pos) (tE b W (cmpM g fa fb)) :=
  weakE (pe_cmpR ho ha hb hm) fun σ H Q ⟨c, G, ρ, S, q⟩ => ⟨c, G, ρ, S, (Post.bind q).imp fun xa ρ1 G1 H1 e1 S1 q1 v hv => ⟨c, G1, ρ1, S1, (Post.bind q1).imp fun xb ρ2 G2 H2 e2 S2 q2 u hu => by
    obtain ⟨z, h1, h2⟩ := q2.opt S2
    cases hx : res ρ2 xa with
    | none => rw [hx] at h1; cases h1
    | some x =>
      cases hy : res ρ2 xb with
      | none => rw [hx, hy] at h1; cases h1
      | some y =>
        rw [hx, hy] at h1
        dsimp only [Option.bind_some] at h1
        cases hg : g x y with
        | none => rw [hg] at h1; cases h1
        | some k =>
          rw [hg] at h1
          cases h1
          exact t S2 ((hv.mono e2).res S2 hx) (hu.res S2 hy) hg (h2 _ (.bl k))⟩⟩
theorem m_lt (ha : PE X a (tE b W fa)) (hb : PE X a2 (tE b W fb)) : PE X (.Compare a [.Lt] [a2] pos) (tE b W (cmpM ltI fa fb)) := m_cmpB op_lt t_lt ha hb (nomark _)
theorem m_le (ha : PE X a (tE b W fa)) (hb : PE X a2 (tE b W fb)) : PE X (.Compare a [.LtE] [a2] pos) (tE b W (cmpM leI fa fb)) := m_cmpB op_le t_le ha hb (nomark _)
theorem m_gt (ha : PE X a (tE b W fa)) (hb : PE X a2 (tE b W fb)) : PE X (.Compare a [.Gt] [a2] pos) (tE b W (cmpM gtI fa fb)) := m_cmpB op_gt t_gt ha hb (nomark _)
theorem m_ge (ha : PE X a (tE b W fa)) (hb : PE X a2 (tE b W fb)) : PE X (.Compare a [.GtE] [a2] pos) (tE b W (cmpM geI fa fb)) := m_cmpB op_ge t_ge ha hb (nomark _)
theorem m_eq (hu : X.A.units + 64 < cLine) (hK : X.K = b.K) (ha : PE X a (tE b W fa)) (hb : PE X a2 (tE b W fb)) : PE X (.Compare a [.Eq] [a2] pos) (tE b W (cmpM eqD fa fb)) := m_cmpB (o_eq hu) (by rw [hK]; exact tells_two _) ha hb (nomark _)
theorem m_ne (hu : X.A.units + 64 < cLine) (hK : X.K = b.K) (ha : PE X a (tE b W fa)) (hb : PE X a2 (tE b W fb)) : PE X (.Compare a [.NotEq] [a2] pos) (tE b W (cmpM neD fa fb)) := m_cmpB (o_ne hu) (by rw [hK]; exact tells_two _) ha hb (nomark _)
theorem m_in (hu : X.A.units + 64 < cLine) (hK : X.K = b.K) (ha : PE X a (tE b W fa)) (hb : PE X a2 (tE b W fb)) (hm : behindInMarks .In a2 = false := by rfl) : PE X (.Compare a [.In] [a2] pos) (tE b W (cmpM inD fa fb)) := m_cmpB (o_in hu) (by rw [hK]; exact tells_two _) ha hb hm
theorem m_nin (hu : X.A.units + 64 < cLine) (hK : X.K = b.K) (ha : PE X a (tE b W fa)) (hb : PE X a2 (tE b W fb)) (hm : behindInMarks .NotIn a2 = false := by rfl) : PE X (.Compare a [.NotIn] [a2] pos) (tE b W (cmpM ninD fa fb)) := m_cmpB (o_nin hu) (by rw [hK]; exact tells_two _) ha hb hm
/-! is None -/
def isNone : Dt → Bool
  | .none => true
  | _ => false
def nonA (ρ : Ev) : Av → Option Bool
  | .d x => some (isNone x)
  | .s i => match ρ[i]? with
    | some (some (.d x)) => some (isNone x)
    | some (some _) => some false
    | _ => none
def isN (n : Bool) (fa : M Av) : M Av := bindM fa fun a => optM fun ρ => (nonA ρ a).map fun k => .d (.bool (if n then !k else k))
theorem isNone_of {K : Fg} {G : Hp} {v : V} {x : Dt} (h : Rp K G v x) : decide (v = .non) = isNone x := by
  cases h <;> rfl
theorem nonA_of {c : Fc} {G H : Hp} {ρ : Ev} {σ : St} {v : V} {z : Av} {k : Bool} (S : SIG b c G ρ σ H) (h : RA b.K G σ v z) (e : nonA ρ z = some k) : decide (v = .non) = k := by
  cases z with
  | d x => cases e; exact isNone_of h
  | s i =>
    have e : (match ρ[i]? with
      | some (some (.d x)) => some (isNone x)
      | some (some _) => some false
      | _ => none) = some k := e
    have h : σ[i]? = some (some v) := h
    split at e
    · rename_i x hx
      cases e
      obtain ⟨u, hu, r⟩ := S.sl i _ hx
      rw [h] at hu
      cases hu
      exact isNone_of r
    · rename_i sv hne hx
      cases e
      obtain ⟨u, hu, r⟩ := S.sl i _ hx
      rw [h] at hu
      cases hu
      cases sv with
      | d x => exact absurd rfl (hne x)
      | ls r' xs => obtain ⟨p, _, rfl, _⟩ := r; rfl
      | dk r' xs => obtain ⟨p, _, rfl, _⟩ := r; rfl
      | dt r' xs => obtain ⟨p, _, rfl, _⟩ := r; rfl
      | ex k => obtain ⟨p, rfl, _⟩ := r; rfl
      | scr ns => obtain ⟨p, rfl, _⟩ := r; rfl
      | fk kvs => obtain ⟨p, _, _, rfl, _⟩ := r; rfl
      | ft kvs => obtain ⟨p, _, _, rfl, _⟩ := r; rfl
      | mt r' m => obtain ⟨p, _, _, rfl, _⟩ := r; rfl
    · cases e
theorem m_isN {j pos'} (ha : PE X a (tE b W fa)) : PE X (.Compare a [.Is] [.Constant .none j pos'] pos) (tE b W (isN false fa)) := weakE (pe_cmp (pc_isN ha)) fun σ H Q ⟨c, G, ρ, S, q⟩ => ⟨c, G, ρ, S, (Post.bind q).imp fun z ρ1 G1 H1 e1 S1 q1 v hv => by
  obtain ⟨k, h1, h2⟩ := q1.opt S1
  cases hx : nonA ρ1 z with
  | none => rw [hx] at h1; cases h1
  | some t =>
    rw [hx] at h1
    cases h1
    rw [nonA_of S1 hv hx]
    exact h2 _ (.bl t)⟩
theorem m_notN {j pos'} (ha : PE X a (tE b W fa)) : PE X (.Compare a [.IsNot] [.Constant .none j pos'] pos) (tE b W (isN true fa)) := weakE (pe_cmp (pc_notN ha)) fun σ H Q ⟨c, G, ρ, S, q⟩ => ⟨c, G, ρ, S, (Post.bind q).imp fun z ρ1 G1 H1 e1 S1 q1 v hv => by
  obtain ⟨k, h1, h2⟩ := q1.opt S1
  cases hx : nonA ρ1 z with
  | none => rw [hx] at h1; cases h1
  | some t =>
    rw [hx] at h1
    cases h1
    rw [nonA_of S1 hv hx]
    exact h2 _ (.bl (!t))⟩
end
/-! comparisons as tests -/
def cmpT (g : Dt → Dt → Option Bool) (fa fb : M Av) : M Bool := bindM fa fun a => bindM fb fun b => optM fun ρ => (res ρ a).bind fun x => (res ρ b).bind fun y => g x y
def isNT (n : Bool) (fa : M Av) : M Bool := bindM fa fun a => optM fun ρ => (nonA ρ a).map fun k => if n then !k else k
section
variable {X : Cx} {b : Bs} {W : WX} {a a2 : Expr} {fa fb : M Av} {pos : Pos}
theorem m_tcmp {op : CmpOp} {r : R2} {g : Dt → Dt → Option Bool} (ho : OpR X (compareOp op) r) (t : Tells b r g) (ha : PE X a (tE b W fa)) (hb : PE X a2 (tE b W fb)) (hm : behindInMarks op a2 = false) : PT X (.Compare a [op] [a2] pos) (tT b W (cmpT g fa fb)) :=
  weakT (pt_cmpR ho ha hb hm) fun σ H Q ⟨c, G, ρ, S, q⟩ => ⟨c, G, ρ, S, (Post.bind q).imp fun xa ρ1 G1 H1 e1 S1 q1 v hv => ⟨c, G1, ρ1, S1, (Post.bind q1).imp fun xb ρ2 G2 H2 e2 S2 q2 u hu => by
    obtain ⟨z, h1, h2⟩ := q2.opt S2
    cases hx : res ρ2 xa with
    | none => rw [hx] at h1; cases h1
    | some x =>
      cases hy : res ρ2 xb with
      | none => rw [hx, hy] at h1; cases h1
      | some y =>
        rw [hx, hy] at h1
        exact t S2 ((hv.mono e2).res S2 hx) (hu.res S2 hy) h1 ⟨z, rfl, h2⟩⟩⟩
theorem m_tisN {j pos'} (ha : PE X a (tE b W fa)) : PT X (.Compare a [.Is] [.Constant .none j pos'] pos) (tT b W (isNT false fa)) := weakT (pt_cmp (pc_isN ha)) fun σ H Q ⟨c, G, ρ, S, q⟩ => ⟨c, G, ρ, S, (Post.bind q).imp fun z ρ1 G1 H1 e1 S1 q1 v hv => by
  obtain ⟨k, h1, h2⟩ := q1.opt S1
  cases hx : nonA ρ1 z with
  | none => rw [hx] at h1; cases h1
  | some t =>
    rw [hx] at h1
    cases h1
    exact ⟨_, congrArg V.bl (nonA_of S1 hv hx), h2⟩⟩
theorem m_tnotN {j pos'} (ha : PE X a (tE b W fa)) : PT X (.Compare a [.IsNot] [.Constant .none j pos'] pos) (tT b W (isNT true fa)) := weakT (pt_cmp (pc_notN ha)) fun σ H Q ⟨c, G, ρ, S, q⟩ => ⟨c, G, ρ, S, (Post.bind q).imp fun z ρ1 G1 H1 e1 S1 q1 v hv => by
  obtain ⟨k, h1, h2⟩ := q1.opt S1
  cases hx : nonA ρ1 z with
  | none => rw [hx] at h1; cases h1
  | some t =>
    rw [hx] at h1
    cases h1
    exact ⟨_, congrArg (fun k => V.bl (!k)) (nonA_of S1 hv hx), h2⟩⟩
end
/-! arithmetic, lists by operators -/
def small64 (i : Int) : Bool := Nat.blt i.natAbs 18446744073709551616
def addD (x y : Dt) : Option Rv := match x, y with
  | .int i, .int j => some (.d (.int (i + j)))
  | .list xs, .list ys => if xs.length + ys.length ≤ 1000000 then some (.l (xs ++ ys)) else none
  | .str s, .str t => if s.length + t.length ≤ 1000000 then some (.d (.str (s ++ t))) else none
  | _, _ => none
def subD (x y : Dt) : Option Rv := match x, y with
  | .int i, .int j => some (.d (.int (i - j)))
  | _, _ => none
def mulD (x y : Dt) : Option Rv := match x, y with
  | .int i, .int j => if small64 i || small64 j then some (.d (.int (i * j))) else none
  | .list xs, .int k => if mid k && decide (k ≤ 1000) && decide (xs.length ≤ 1000) then some (.l (List.replicate k.toNat xs).flatten) else none
  | _, _ => none
def fdivD (x y : Dt) : Option Rv := match x, y with
  | .int i, .int j => if 0 < j ∧ j.natAbs < 1073741824 then some (.d (.int (i / j))) else none
  | _, _ => none
def modD (x y : Dt) : Option Rv := match x, y with
  | .int i, .int j => if 0 < j then some (.d (.int (i % j))) else none
  | _, _ => none
def powD (x y : Dt) : Option Rv := match x, y with
  | .int i, .int j => if 0 ≤ j ∧ j ≤ 1000000 ∧ i.natAbs < 2 ^ 64 then some (.d (.int (i ^ j.toNat))) else none
  | _, _ => none
theorem fin_d {b : Bs} {c : Fc} {G H : Hp} {ρ : Ev} {σ : St} {v : V} {x : Dt} {Q : VK} (S : SIG b c G ρ σ H) (q : ∀ v H' G', Same G G' → SIG b c G' ρ σ H' → RN b c G' H' v (.d x) → Apart ρ σ v (.d x) → Q v H') (r : Rp b.K G v x) : Q v H :=
  q v H G (Same.refl G) S r fun p _ z => by cases z
theorem fin_l {b : Bs} {c : Fc} {G H : Hp} {ρ : Ev} {σ : St} {p : Addr} {vs : List V} {xs : List Dt} {Q : VK} (S : SIG b c G ρ σ H) (q : ∀ v H' G', Same G G' → SIG b c G' ρ σ H' → RN b c G' H' v (.l xs) → Apart ρ σ v (.l xs) → Q v H') (hp : H p = none) (r : Rps b.K G vs xs) : Q (.ref p) (upd H p (.lst vs)) :=
  q (.ref p) _ G (Same.refl G) (S.alloc hp) ⟨p, vs, rfl, upd_same, S.free hp, r, S.fresh0 hp⟩ fun p' ep _ => by cases ep; exact S.noOwn hp
def rAddD : R2 := fun x y H Q => (rI0 fun i j => .int (i + j)) x y H Q ∨ rCat x y H Q ∨ (∃ i j, x = .str i ∧ y = .str j ∧ i.length + j.length ≤ sizeLine ∧ Q (.str (i ++ j)) H)
theorem le_line {n : Nat} (h : n ≤ 1000000) : n ≤ sizeLine := Nat.le_trans h (by decide)
theorem d_add {b : Bs} : Does2 b rAddD addD := fun {c G H ρ σ x y dx dy z Q} S hx hy e q => by
  unfold addD at e
  split at e
  · cases e
    exact .inl ⟨_, _, hx.int, hy.int, fin_d S q (.int _)⟩
  · split at e
    · rename_i xs ys hl
      cases e
      obtain ⟨p, vs, rfl, h1, h2⟩ := hx.list S.gh
      obtain ⟨p', vs', rfl, h1', h2'⟩ := hy.list S.gh
      exact .inr (.inl ⟨p, p', vs, vs', rfl, rfl, h1, h1', by rw [h2.length, h2'.length]; exact le_line hl, fun r hr => fin_l S q hr (h2.append h2')⟩)
    · cases e
  · split at e
    · rename_i hl
      cases e
      exact .inr (.inr ⟨_, _, hx.str, hy.str, le_line hl, fin_d S q (.str _)⟩)
    · cases e
  · cases e
def rMulD : R2 := fun x y H Q => (rI CMul fun i j => .int (i * j)) x y H Q ∨ rRep x y H Q
theorem small64_of {i : Int} (h : small64 i = true) : -(2 ^ 64) < i ∧ i < 2 ^ 64 := by
  unfold small64 at h
  have h := Nat.blt_eq.mp h
  omega
theorem d_mul {b : Bs} : Does2 b rMulD mulD := fun {c G H ρ σ x y dx dy z Q} S hx hy e q => by
  unfold mulD at e
  split at e
  · split at e
    · rename_i hl
      cases e
      rw [Bool.or_eq_true] at hl
      exact .inl ⟨_, _, hx.int, hy.int, hl.elim (fun z => .inl (small64_of z)) fun z => .inr (small64_of z), fin_d S q (.int _)⟩
    · cases e
  · split at e
    · rename_i xs k hl
      cases e
      rw [Bool.and_eq_true, Bool.and_eq_true, decide_eq_true_eq, decide_eq_true_eq] at hl
      obtain ⟨⟨l1, l2⟩, l3⟩ := hl
      have l1 := mid_of l1
      obtain ⟨p, vs, rfl, h1, h2⟩ := hx.list S.gh
      refine .inr ⟨p, k, vs, rfl, hy.int, h1, by omega, by omega, ?_, fun r hr => fin_l S q hr (h2.rep _)⟩
      rw [h2.length]
      have : k.toNat ≤ 1000 := by omega
      exact Nat.le_trans (Nat.mul_le_mul l3 this) (by decide)
    · cases e
  · cases e
theorem d_sub {b : Bs} : Does2 b (rI0 fun i j => .int (i - j)) subD := fun {c G H ρ σ x y dx dy z Q} S hx hy e q => by
  unfold subD at e
  split at e
  · cases e
    exact ⟨_, _, hx.int, hy.int, fin_d S q (.int _)⟩
  · cases e
theorem d_fdiv {b : Bs} : Does2 b (rI CDiv fun i j => .int (i / j)) fdivD := fun {c G H ρ σ x y dx dy z Q} S hx hy e q => by
  unfold fdivD at e
  split at e
  · split at e
    · rename_i hl
      cases e
      exact ⟨_, _, hx.int, hy.int, ⟨hl.1, by have := hl.2; omega⟩, fin_d S q (.int _)⟩
    · cases e
  · cases e
theorem d_mod {b : Bs} : Does2 b (rI (fun _ j => 0 < j) fun i j => .int (i % j)) modD := fun {c G H ρ σ x y dx dy z Q} S hx hy e q => by
  unfold modD at e
  split at e
  · split at e
    · rename_i hl
      cases e
      exact ⟨_, _, hx.int, hy.int, hl, fin_d S q (.int _)⟩
    · cases e
  · cases e
theorem d_pow {b : Bs} : Does2 b (rI CPow fun i j => .int (i ^ j.toNat)) powD := fun {c G H ρ σ x y dx dy z Q} S hx hy e q => by
  unfold powD at e
  split at e
  · split at e
    · rename_i hl
      cases e
      exact ⟨_, _, hx.int, hy.int, hl, fin_d S q (.int _)⟩
    · cases e
  · cases e
def negD (x : Dt) : Option Rv := match x with
  | .int i => some (.d (.int (-i)))
  | _ => none
theorem d_neg {b : Bs} : Does1 b (rU fun i => .int (-i)) negD := fun {c G H ρ σ x dx z Q} S hx e q => by
  unfold negD at e
  split at e
  · cases e
    exact ⟨_, hx.int, fin_d S q (.int _)⟩
  · cases e
/-- an item -/
def ixD (x y : Dt) : Option Rv := match x, y with
  | .list xs, .int i => (atI xs i).map Rv.d
  | .tuple xs, .int i => (atI xs i).map Rv.d
  | .str s, .int i => if s.length ≤ 1000000 then (atI s.cps.toList i).map fun c => .d (.str ⟨#[c]⟩) else none
  | _, _ => none
theorem atI_rps {K : Fg} {G : Hp} {vs : List V} {xs : List Dt} {i : Int} {d : Dt} (r : Rps K G vs xs) (e : atI xs i = some d) : ∃ v, atI vs i = some v ∧ Rp K G v d := by
  unfold atI at e ⊢
  rw [← r.length] at e
  cases h : ixN vs.length i with
  | none => rw [h] at e; cases e
  | some j =>
    rw [h] at e
    exact r.get e
theorem d_ix {b : Bs} : Does2 b (rIx b.K) ixD := fun {c G H ρ σ x y dx dy z Q} S hx hy e q => by
  unfold ixD at e
  split at e
  · rename_i xs i
    obtain ⟨p, vs, rfl, h1, h2⟩ := hx.list S.gh
    cases hd : atI xs i with
    | none => rw [hd] at e; cases e
    | some d =>
      rw [hd] at e
      cases e
      obtain ⟨v, h3, h4⟩ := atI_rps h2 hd
      exact .inl ⟨p, vs, i, v, rfl, hy.int, SqL.of h1, h3, fin_d S q h4⟩
  · rename_i xs i
    obtain ⟨p, vs, rfl, h1, h2⟩ := hx.tup
    cases hd : atI xs i with
    | none => rw [hd] at e; cases e
    | some d =>
      rw [hd] at e
      cases e
      obtain ⟨v, h3, h4⟩ := atI_rps h2 hd
      exact .inr (.inl ⟨p, vs, i, v, rfl, hy.int, same_sqT S.gh h1, h3, fin_d S q h4⟩)
  · split at e
    · rename_i s i hl
      cases hd : atI s.cps.toList i with
      | none => rw [hd] at e; cases e
      | some d =>
        rw [hd] at e
        cases e
        exact .inr (.inr ⟨s, i, d, hx.str, hy.int, le_line hl, hd, fin_d S q (.str _)⟩)
    · cases e
  · cases e
section
variable {X : Cx} {b : Bs} {W : WX} {a a2 : Expr} {fa fb : M Av} {pos : Pos}
theorem m_add (ha : PE X a (tE b W fa)) (hb : PE X a2 (tE b W fb)) : PE X (.BinOp a .Add a2 pos) (tV b W (bin2 addD fa fb)) := m_op (op_add.or (op_cat.or op_add_str)) d_add ha hb
theorem m_sub (ha : PE X a (tE b W fa)) (hb : PE X a2 (tE b W fb)) : PE X (.BinOp a .Sub a2 pos) (tV b W (bin2 subD fa fb)) := m_op op_sub d_sub ha hb
theorem m_mul (ha : PE X a (tE b W fa)) (hb : PE X a2 (tE b W fb)) : PE X (.BinOp a .Mult a2 pos) (tV b W (bin2 mulD fa fb)) := m_op (op_mul.or op_rep) d_mul ha hb
theorem m_fdiv (ha : PE X a (tE b W fa)) (hb : PE X a2 (tE b W fb)) : PE X (.BinOp a .FloorDiv a2 pos) (tV b W (bin2 fdivD fa fb)) := m_op op_fdiv d_fdiv ha hb
theorem m_mod (ha : PE X a (tE b W fa)) (hb : PE X a2 (tE b W fb)) : PE X (.BinOp a .Mod a2 pos) (tV b W (bin2 modD fa fb)) := m_op op_mod d_mod ha hb
theorem m_pow (ha : PE X a (tE b W fa)) (hb : PE X a2 (tE b W fb)) : PE X (.BinOp a .Pow a2 pos) (tV b W (bin2 powD fa fb)) := m_op op_pow d_pow ha hb
theorem m_neg (ha : PE X a (tE b W fa)) : PE X (.UnaryOp .USub a pos) (tV b W (un1 negD fa)) := m_un un_neg d_neg ha
theorem m_idx (hK : X.K = b.K) (ha : PE X a (tE b W fa)) (hb : PE X a2 (tE b W fb)) (hs : PlainIx a2 := by intro _ _; rfl) : PE X (.Subscript a a2 pos) (tV b W (bin2 ixD fa fb)) := m_ix ix_seq (by rw [hK]; exact d_ix) ha hb hs
end
/-! slices -/
def cutD (xs : List Dt) (lo hi : Option Int) : List Dt := (xs.drop (HT.sIx xs.length 0 lo)).take (HT.sIx xs.length xs.length hi - HT.sIx xs.length 0 lo)
theorem cut_rps {K : Fg} {G : Hp} {vs : List V} {xs : List Dt} (r : Rps K G vs xs) (lo hi : Option Int) : Rps K G (cutV vs lo hi) (cutD xs lo hi) := by
  unfold cutV cutD
  rw [r.length]
  exact (r.drop _).take _
def partN : M (Option Int) := retM none
def partS (f : M Av) : M (Option Int) := bindM f fun a => optM fun ρ => match res ρ a with
  | some (.int i) => some (some i)
  | _ => none
def slD (x : Dt) (lo hi : Option Int) : Option Rv := match x with
  | .list xs => some (.l (cutD xs lo hi))
  | .str s => if s.length ≤ 1000000 then some (.d (.str (cutS s lo hi))) else none
  | _ => none
def sliceM (fa : M Av) (fl fh : M (Option Int)) : M Rv := bindM fa fun a => bindM fl fun lo => bindM fh fun hi => optM fun ρ => (res ρ a).bind fun x => slD x lo hi
def tPO (b : Bs) (W : WX) (f : M (Option Int)) : TO := fun σ H Q => ∃ c G ρ, SIG b c G ρ σ H ∧ Post b c W G σ (fun o _ _ H' => Q o H') (f ρ)
section
variable {X : Cx} {b : Bs} {W : WX} {a : Expr} {lo hi : Option Expr} {fa : M Av} {fl fh : M (Option Int)} {pos p2 : Pos}
theorem weakO {e : Option Expr} {t t' : TO} (h : PO X e t) (w : ∀ σ H Q, t' σ H Q → t σ H Q) : PO X e t' := ⟨fun pins s σ H Q I q => h.run pins s σ H Q I (w σ H Q q)⟩
theorem p_none : PO X none (tPO b W partN) := weakO po_none fun σ H Q ⟨c, G, ρ, S, q⟩ => q.ret S
theorem p_some {e : Expr} (h : PE X e (tE b W fa)) : PO X (some e) (tPO b W (partS fa)) := weakO (po_some h) fun σ H Q ⟨c, G, ρ, S, q⟩ => ⟨c, G, ρ, S, (Post.bind q).imp fun z ρ1 G1 H1 e1 S1 q1 v hv => by
  obtain ⟨o, h1, h2⟩ := q1.opt S1
  split at h1
  · rename_i i hx
    cases h1
    exact ⟨i, (hv.res S1 hx).int, h2⟩
  · cases h1⟩
def rSlD (K : Fg) : V → Option Int → Option Int → Hp → VK → Prop := fun x l h H Q => rSlL K x l h H Q ∨ ∃ z, x = .str z ∧ z.length ≤ sizeLine ∧ Q (.str (cutS z l h)) H
theorem m_slice (hK : X.K = b.K) (hr : SlR X (rSlD X.K)) (ha : PE X a (tE b W fa)) (hl : PO X lo (tPO b W fl)) (hh : PO X hi (tPO b W fh)) : PE X (.Subscript a (.Slice lo hi none p2) pos) (tV b W (sliceM fa fl fh)) :=
  weakE (pe_slice hr ha hl hh) fun σ H Q ⟨c, G, ρ, S, q⟩ => ⟨c, G, ρ, S, (Post.bind q).imp fun z ρ1 G1 H1 e1 S1 q1 v hv => ⟨c, G1, ρ1, S1, (Post.bind q1).imp fun l ρ2 G2 H2 e2 S2 q2 => ⟨c, G2, ρ2, S2, (Post.bind q2).imp fun h ρ3 G3 H3 e3 S3 q3 => by
    unfold optM at q3
    split at q3
    · rename_i r hr'
      dsimp only at hr'
      cases hx : res ρ3 z with
      | none => rw [hx] at hr'; cases hr'
      | some x =>
        rw [hx] at hr'
        have ro := ((hv.mono e2).mono e3).res S3 hx
        have hr' : slD x l h = some r := hr'
        have q4 : ∀ v H' G', Same G3 G' → SIG b c G' ρ3 σ H' → RN b c G' H' v r → Apart ρ3 σ v r → Q v H' := fun v' H' G' ee SS rr ap => q3 H' G' ee SS v' rr ap
        unfold slD at hr'
        split at hr'
        · cases hr'
          obtain ⟨p, vs, rfl, h1, h2⟩ := ro.list S3.gh
          exact .inl ⟨p, vs, rfl, by rw [hK]; exact SqL.of h1, fun r hr => fin_l S3 q4 hr (cut_rps h2 l h)⟩
        · split at hr'
          · rename_i hz
            cases hr'
            exact .inr ⟨_, ro.str, le_line hz, fin_d S3 q4 (.str _)⟩
          · cases hr'
        · cases hr'
    · exact q3.elim⟩⟩⟩
end
end G8
namespace G8
open PySem L2
/-! built-in calls upon data -/
def ress (ρ : Ev) : List Av → Option (List Dt)
  | [] => some []
  | a :: as => (res ρ a).bind fun x => (ress ρ as).map fun xs => x :: xs
inductive ROs (K : Fg) (G H : Hp) : List V → List Dt → Prop
  | nil : ROs K G H [] []
  | cons {v : V} {d : Dt} {vs : List V} {ds : List Dt} : RO K G H v d → ROs K G H vs ds → ROs K G H (v :: vs) (d :: ds)
theorem ress_of {b : Bs} {c : Fc} {G H : Hp} {ρ : Ev} {σ : St} (S : SIG b c G ρ σ H) : ∀ {vs : List V} {as : List Av} {xs : List Dt}, Ras b.K G σ vs as → ress ρ as = some xs → ROs b.K G H vs xs
  | _, [], _, h, e => by
    cases h
    cases e
    exact .nil
  | _, a :: as, _, h, e => by
    cases h with
    | cons h1 h2 =>
      unfold ress at e
      cases hx : res ρ a with
      | none => rw [hx] at e; cases e
      | some x =>
        rw [hx] at e
        cases hy : ress ρ as with
        | none => rw [hy] at e; cases e
        | some ys =>
          rw [hy] at e
          cases e
          exact .cons (h1.res S hx) (ress_of S h2 hy)
def biM (g : List Dt → Option Rv) (fl : M (List Av)) : M Rv := bindM fl fun as => optM fun ρ => (ress ρ as).bind g
def DoesN (b : Bs) (r : List V → Hp → VK → Prop) (g : List Dt → Option Rv) : Prop := ∀ {c : Fc} {G H : Hp} {ρ : Ev} {σ : St} {xs : List V} {ds : List Dt} {z : Rv} {Q : VK}, SIG b c G ρ σ H → ROs b.K G H xs ds → g ds = some z →
  (∀ v H' G', Same G G' → SIG b c G' ρ σ H' → RN b c G' H' v z → Apart ρ σ v z → Q v H') → r xs H Q
theorem bi_core {b : Bs} {W : WX} {fl : M (List Av)} {r : List V → Hp → VK → Prop} {g : List Dt → Option Rv} (dz : DoesN b r g) {σ : St} {H : Hp} {Q : VK} (h : tV b W (biM g fl) σ H Q) : tCB r (tL b W fl) σ H Q := by
  obtain ⟨c, G, ρ, S, q⟩ := h
  refine ⟨c, G, ρ, S, (Post.bind q).imp fun as ρ1 G1 H1 e1 S1 q1 vs hv => ?_⟩
  unfold optM at q1
  split at q1
  · rename_i z hz
    dsimp only at hz
    cases hx : ress ρ1 as with
    | none => rw [hx] at hz; cases hz
    | some xs =>
      rw [hx] at hz
      exact dz S1 (ress_of S1 hv hx) hz fun v' H' G' ee SS rr ap => q1 H' G' ee SS v' rr ap
  · exact q1.elim
section
variable {X : Cx} {b : Bs} {W : WX} {x : Str} {p pos : Pos} {e : Expr} {es : List Expr} {fl : M (List Av)} {id T : String} {r : List V → Hp → VK → Prop} {g : List Dt → Option Rv}
theorem m_bi (hc : CallR X (.builtin id) r) (dz : DoesN b r g) (hg : Gl X x) (hm : X.mg x = none) (hv : bootBuiltins x = some (.builtin id)) (ha : PA X (e :: es) (tL b W fl)) (hn : x ≠ "__name__" := by decide) (hdb : (x == ("__debug__" : Str)) = false := by decide)
    (he : starEach (e :: es) X.env = (false, eval e X.env) :: starEach es X.env := by rfl) (hpl : (backTo pos (starEach es X.env)).any (·.1) = false := by rfl) : PE X (.Call (.Name x p) (e :: es) [] pos) (tV b W (biM g fl)) :=
  weakE (pe_callB hc hg hm hv ha hn hdb he hpl) fun _ _ _ h => bi_core dz h
theorem m_ty (hc : CallR X (.type T) r) (dz : DoesN b r g) (hg : Gl X x) (hm : X.mg x = none) (hv : bootBuiltins x = some (.type T)) (ha : PA X (e :: es) (tL b W fl)) (hn : x ≠ "__name__" := by decide) (hdb : (x == ("__debug__" : Str)) = false := by decide)
    (he : starEach (e :: es) X.env = (false, eval e X.env) :: starEach es X.env := by rfl) (hpl : (backTo pos (starEach es X.env)).any (·.1) = false := by rfl) : PE X (.Call (.Name x p) (e :: es) [] pos) (tV b W (biM g fl)) :=
  weakE (pe_callTy hc hg hm hv ha hn hdb he hpl) fun _ _ _ h => bi_core dz h
end
/-! len -/
def lenD : Dt → Option Nat
  | .list xs => some xs.length
  | .tuple xs => some xs.length
  | .str s => if s.length ≤ 1000000 then some s.length else none
  | _ => none
def lenA (ρ : Ev) : Av → Option Nat
  | .d x => lenD x
  | .s i => match ρ[i]? with
    | some (some (.d x)) => lenD x
    | some (some (.ls _ xs)) => some xs.length
    | some (some (.dk _ xs)) => some xs.length
    | some (some (.scr ns)) => some ns.length
    | _ => none
def lenM (fa : M Av) : M Av := bindM fa fun a => optM fun ρ => (lenA ρ a).map fun (n : Nat) => Av.d (.int (n : Int))
def rLenA (K : Fg) : List V → Hp → VK → Prop := fun xs H Q => (∃ x n, xs = [x] ∧ LenV K x H n ∧ Q (.int n) H) ∨ ∃ a kvs, xs = [V.ref a] ∧ H a = some (.dK kvs) ∧ Q (.int kvs.length) H
theorem lenD_of {K : Fg} {G H : Hp} {v : V} {x : Dt} {n : Nat} (e : SameG G H) (h : RO K G H v x) (q : lenD x = some n) : LenV K v H n := by
  cases x with
  | list ds =>
    obtain ⟨p, vs, rfl, h1, h2⟩ := h.list e
    cases q
    exact .inl ⟨vs, SqL.of h1, h2.length.symm⟩
  | tuple ds =>
    obtain ⟨p, vs, rfl, h1, h2⟩ := h.tup
    cases q
    exact .inr ⟨vs, same_sqT e h1, h2.length.symm⟩
  | str s =>
    rw [h.str]
    have q : (if s.length ≤ 1000000 then some s.length else none) = some n := q
    split at q
    · rename_i hl
      cases q
      exact ⟨le_line hl, rfl⟩
    · cases q
  | _ => cases q
section
variable {X : Cx} {b : Bs} {W : WX} {p pos : Pos} {e : Expr} {fa : M Av}
theorem m_len (hK : X.K = b.K) (hg : Gl X "len") (hm : X.mg "len" = none) (ha : PE X e (tE b W fa)) (hs : starEach [e] X.env = (false, eval e X.env) :: starEach [] X.env := by rfl) : PE X (.Call (.Name "len" p) [e] [] pos) (tE b W (lenM fa)) :=
  weakE (pe_callB ((call_len (X := X)).or call_lenD) hg hm PySem.boot_len (pa_cons ha pa_nil hs) (by decide) (by decide) hs) fun σ H Q ⟨c, G, ρ, S, q⟩ => ⟨c, G, ρ, S, (Post.bind q).imp fun a ρ1 G1 H1 e1 S1 q1 v hv => by
    obtain ⟨z, h1, h2⟩ := q1.opt S1
    show (∃ x n, [v] = [x] ∧ LenV X.K x H1 n ∧ Q (.int n) H1) ∨ ∃ a kvs, [v] = [V.ref a] ∧ H1 a = some (.dK kvs) ∧ Q (.int kvs.length) H1
    cases hx : lenA ρ1 a with
    | none => rw [hx] at h1; cases h1
    | some n =>
      rw [hx] at h1
      cases h1
      have fin := h2 _ (.int (n : Int))
      rw [hK]
      cases a with
      | d x => exact .inl ⟨v, n, rfl, lenD_of S1.gh (.inl hv) hx, fin⟩
      | s i =>
        have hv : σ[i]? = some (some v) := hv
        have hx : (match ρ1[i]? with
          | some (some (.d x)) => lenD x
          | some (some (.ls _ xs)) => some xs.length
          | some (some (.dk _ xs)) => some xs.length
          | some (some (.scr ns)) => some ns.length
          | _ => none) = some n := hx
        split at hx
        · rename_i x hs
          obtain ⟨u, hu, r⟩ := S1.sl i _ hs
          rw [hv] at hu
          cases hu
          exact .inl ⟨v, n, rfl, lenD_of S1.gh (.inl r) hx, fin⟩
        · rename_i rr xs hs
          cases hx
          obtain ⟨u, hu, p', vs, rfl, r2, r3, r4⟩ := S1.sl i _ hs
          rw [hv] at hu
          cases hu
          exact .inl ⟨_, _, rfl, .inl ⟨vs, SqL.of r2, r4.length.symm⟩, fin⟩
        · rename_i rr xs hs
          cases hx
          obtain ⟨u, hu, p', vs, rfl, r2, r3, r4⟩ := S1.sl i _ hs
          rw [hv] at hu
          cases hu
          exact .inr ⟨p', vs, rfl, r2, by rw [Paired.length r4]; exact fin⟩
        · rename_i ns hs
          cases hx
          obtain ⟨u, hu, p', rfl, r2⟩ := S1.sl i _ hs
          rw [hv] at hu
          cases hu
          exact .inl ⟨_, _, rfl, .inl ⟨_, S1.gh.seq r2, by rw [List.length_map]⟩, fin⟩
        · cases hx⟩
/-- an item of the script -/
def ixS (i : Nat) (fb : M Av) : M Av := bindM (varM i) fun _ => bindM fb fun a => optM fun ρ => match ρ[i]?, res ρ a with
  | some (some (.scr ns)), some (.int k) => (atI ns k).map fun z => .d (.int z)
  | _, _ => none
theorem varM_is {ρ ρ' : Ev} {i : Nat} {a : Av} (h : varM i ρ = .ok a ρ') : a = .s i := by
  unfold varM at h
  split at h
  · cases h; rfl
  · cases h
theorem m_ixS {x : Str} {a2 : Expr} {fb : M Av} (hK : X.K = b.K) (i : Nat) (ha : PE X (.Name x p) (tVar i)) (hb : PE X a2 (tE b W fb)) (hs : PlainIx a2 := by intro _ _; rfl) : PE X (.Subscript (.Name x p) a2 pos) (tE b W (ixS i fb)) :=
  weakE (pe_ix ix_list (m_var (b := b) (W := W) i ha) hb hs) fun σ H Q ⟨c, G, ρ, S, q⟩ => by
    have q0 := Post.bind q
    cases hv0 : varM i ρ with
    | bad => rw [hv0] at q0; exact q0.elim
    | err k ρ' => unfold varM at hv0; split at hv0 <;> cases hv0
    | ok a0 ρ0 =>
      have e0 := varM_is hv0
      subst e0
      rw [hv0] at q0
      refine ⟨c, G, ρ, S, ?_⟩
      rw [hv0]
      intro H' G' e' S' v hv
      exact ⟨c, G', ρ0, S', (Post.bind (q0 H' G' e' S')).imp fun a ρ1 G1 H1 e1 S1 q1 u hu => by
          obtain ⟨z, h1, h2⟩ := q1.opt S1
          split at h1
          · rename_i ns k h3 h4
            cases hat : atI ns k with
            | none => rw [hat] at h1; cases h1
            | some y =>
              rw [hat] at h1
              cases h1
              obtain ⟨w, hw, p', rfl, r2⟩ := S1.sl i _ h3
              rw [show σ[i]? = some (some v) from hv] at hw
              cases hw
              refine ⟨p', _, k, .int y, rfl, (hu.res S1 h4).int, by rw [hK]; exact S1.gh.seq r2, ?_, h2 _ (.int y)⟩
              unfold atI at hat ⊢
              rw [List.length_map]
              cases hj : ixN ns.length k with
              | none => rw [hj] at hat; cases hat
              | some j =>
                rw [hj] at hat
                have hat : ns[j]? = some y := hat
                show (ns.map V.int)[j]? = _
                rw [List.getElem?_map, hat]
                rfl
          · cases h1⟩
end
/-! min, max, sum, any, all, list, tuple, int -/
def alikeB (xs : List Dt) : Bool := (xs.all fun x => xs.all fun y => PySem.W.alike x y) && xs.all fun x => !isNone x
theorem alikeB_of {xs : List Dt} (h : alikeB xs = true) : PySem.W.AlikeAll xs := by
  unfold alikeB at h
  rw [Bool.and_eq_true, List.all_eq_true, List.all_eq_true] at h
  refine ⟨fun x hx y hy => List.all_eq_true.mp (h.1 x hx) y hy, fun x hx e => ?_⟩
  have := h.2 x hx
  rw [e] at this
  cases this
def bestD (g : Dt → List Dt → Dt) : List Dt → Option Rv
  | [.list (x :: xs)] => if shalL (x :: xs) && alikeB (x :: xs) then some (.d (g x xs)) else none
  | [.int i, .int j] => none
  | _ => none
def rBest (K : Fg) (g : Dt → List Dt → Dt) : List V → Hp → VK → Prop := fun vs H Q => ∃ (a : Addr) (ys : List V) (x : Dt) (xs : List Dt), vs = [.ref a] ∧ SqL K H a ys ∧ DpAll K H ys (x :: xs) ∧ PyData.plainAll (x :: xs) = true ∧ PySem.W.AlikeAll (x :: xs) ∧ PyData.depthAll (x :: xs) ≤ 60 ∧
  ∀ (i : Nat) (y : V) (d : Dt), ys[i]? = some y → (x :: xs)[i]? = some d → d = g x xs → Q y H
theorem readsAll_get {h : Heap} : ∀ {vs : List Value} {xs : List Dt} {as : List Addr} {i : Nat} {v : Value}, ReadsAll h vs xs as → vs[i]? = some v → ∃ d bs, xs[i]? = some d ∧ Reads h v d bs
  | _, _, _, _, _, .nil, e => by simp at e
  | _, _, _, 0, _, .cons r rs, e => by
    simp at e
    subst e
    exact ⟨_, _, rfl, r⟩
  | _, _, _, i + 1, _, .cons r rs, e => by
    obtain ⟨d, bs, h1, h2⟩ := readsAll_get (i := i) rs (by simpa using e)
    exact ⟨d, bs, by simpa using h1, h2⟩
theorem plainAll_get : ∀ {xs : List Dt} {i : Nat} {d : Dt}, PyData.plainAll xs = true → xs[i]? = some d → d.plain = true
  | [], _, _, _, e => by simp at e
  | x :: xs, 0, d, h, e => by
    simp at e
    subst e
    have h : (x.plain && PyData.plainAll xs) = true := h
    rw [Bool.and_eq_true] at h
    exact h.1
  | x :: xs, i + 1, d, h, e => by
    have h : (x.plain && PyData.plainAll xs) = true := h
    rw [Bool.and_eq_true] at h
    exact plainAll_get h.2 (by simpa using e)
section
variable {X : Cx}
theorem best_core {id : String} {g : Dt → List Dt → Dt} (hc : X.calm = true) (hu : X.A.units + 64 < cLine)
    (rule : ∀ {s : Shared} {l : Addr} {vs : Array Value} {x : PyData} {xs : List PyData} {as : List Addr} {Q : Value → Shared → Prop}, X.A.handled = none → s.heap.IsList l vs → ReadsAll s.heap vs.toList (x :: xs) as → PySem.W.AlikeAll (x :: xs) → X.A.units + 1 + PyData.depthAll (x :: xs) < cLine →
      (∀ (i : Nat) v h' tk bs, vs[i]? = some v → Reads h' v (g x xs) bs → (∀ b o, s.heap.get? b = some o → h'.get? b = some o) → Q v { s with heap := h', toks := tk }) → wpAny (model X.prog X.w) X.A (call (.builtin id) [.ref l]) Q X.xe s) : CallR X (.builtin id) (rBest X.K g) := by
  intro pins s σ H vs us Q I r h
  obtain ⟨a, ys, x, xs, rfl, h1, h2, h3, h4, h5, q⟩ := h
  obtain ⟨u, rfl, ru⟩ := vals1 r
  cases ru
  obtain ⟨its, rv, pl, hz⟩ := I.list h1
  obtain ⟨as, rs⟩ := Dp.readsAll I (x :: xs) ys its h2 rv
  obtain ⟨o, n, ho, hcl, _, hd⟩ := pl
  refine rule (I.ok.hd hc) (vs := its.toArray) ⟨o, ho, hcl, n, hd⟩ (by simpa using rs) h4 (by omega) fun i v h' tk bs hi hr hk => ?_
  have hi' : its[i]? = some v := by simpa using hi
  obtain ⟨d, bs', e1, e2⟩ := readsAll_get rs hi'
  have hil : i < ys.length := by
    have := (List.getElem?_eq_some_iff.mp hi').1
    rw [rv.length]
    exact this
  obtain ⟨u, g1, g2⟩ := rv.get (List.getElem?_eq_getElem hil)
  rw [hi'] at g1
  cases g1
  have ed : d = g x xs := SeqAt.plain_unique d (g x xs) v bs' bs (plainAll_get h3 e1) (PyProof.Rows.Reads.keeps hk e2) hr
  exact ⟨ys[i], H, I.kept (t' := tk) hk, g2, q i ys[i] d (List.getElem?_eq_getElem hil) e1 ed⟩
theorem c_max (hc : X.calm = true) (hu : X.A.units + 64 < cLine) : CallR X (.builtin "max") (rBest X.K PySem.W.maxD) := best_core hc hu fun h1 h2 h3 h4 h5 h6 => PySem.W.max_list_data h1 h2 h3 h4 h5 h6
theorem c_min (hc : X.calm = true) (hu : X.A.units + 64 < cLine) : CallR X (.builtin "min") (rBest X.K PySem.W.minD) := best_core hc hu fun h1 h2 h3 h4 h5 h6 => PySem.W.min_list_data h1 h2 h3 h4 h5 h6
end
theorem d_best {b : Bs} (g : Dt → List Dt → Dt) : DoesN b (rBest b.K g) (bestD g) := fun {c G H ρ σ xs ds z Q} S hx e q => by
  unfold bestD at e
  split at e
  · rename_i x xs'
    split at e
    · rename_i hs
      cases e
      rw [Bool.and_eq_true] at hs
      cases hx with
      | cons h1 h2 =>
        cases h2
        obtain ⟨p, vs, rfl, r1, r2⟩ := h1.list S.gh
        refine ⟨p, vs, x, xs', rfl, SqL.of r1, Rps.dp _ _ (Rps.monoG S.gh _ _ r2), Rps.plain _ _ r2, alikeB_of hs.2, shL_of hs.1, fun i y d e1 e2 e3 => ?_⟩
        obtain ⟨d', e4, e5⟩ := r2.getV e1
        rw [e2] at e4
        cases e4
        rw [e3] at e5
        exact fin_d S q e5
    · cases e
  · cases e
  · cases e
def two2 (g : Int → Int → Int) : List Dt → Option Rv
  | [.int i, .int j] => some (.d (.int (g i j)))
  | _ => none
def intsOf : List Dt → Option (List Int)
  | [] => some []
  | .int i :: xs => (intsOf xs).map fun r => i :: r
  | _ => none
def boolsOf : List Dt → Option (List Bool)
  | [] => some []
  | .bool i :: xs => (boolsOf xs).map fun r => i :: r
  | _ => none
theorem intsOf_map (ns : List Int) : intsOf (ns.map PyData.int) = some ns := by
  induction ns with
  | nil => rfl
  | cons n ns ih =>
    show (intsOf (ns.map PyData.int)).map (fun r => n :: r) = _
    rw [ih]
    rfl
theorem boolsOf_map (ns : List Bool) : boolsOf (ns.map PyData.bool) = some ns := by
  induction ns with
  | nil => rfl
  | cons n ns ih =>
    show (boolsOf (ns.map PyData.bool)).map (fun r => n :: r) = _
    rw [ih]
    rfl
theorem intsOf_of : ∀ {xs : List Dt} {ns : List Int}, intsOf xs = some ns → xs = ns.map PyData.int
  | [], _, h => by cases h; rfl
  | x :: xs, ns, h => by
    unfold intsOf at h
    split at h
    · rename_i h0
      cases h0
    · rename_i i ys h0
      cases h0
      cases q : intsOf xs with
      | none => rw [q] at h; cases h
      | some r =>
        rw [q] at h
        cases h
        rw [intsOf_of q]
        rfl
    · cases h
theorem boolsOf_of : ∀ {xs : List Dt} {ns : List Bool}, boolsOf xs = some ns → xs = ns.map PyData.bool
  | [], _, h => by cases h; rfl
  | x :: xs, ns, h => by
    unfold boolsOf at h
    split at h
    · rename_i h0
      cases h0
    · rename_i i ys h0
      cases h0
      cases q : boolsOf xs with
      | none => rw [q] at h; cases h
      | some r =>
        rw [q] at h
        cases h
        rw [boolsOf_of q]
        rfl
    · cases h
def sumD : List Dt → Option Rv
  | [.list xs] => (intsOf xs).map fun ns => .d (.int ns.sum)
  | _ => none
def anyD : List Dt → Option Rv
  | [.list xs] => (boolsOf xs).map fun ns => .d (.bool (ns.any id))
  | _ => none
def allD : List Dt → Option Rv
  | [.list xs] => (boolsOf xs).map fun ns => .d (.bool (ns.all id))
  | _ => none
def listD : List Dt → Option Rv
  | [.list xs] => some (.l xs)
  | [.tuple xs] => some (.l xs)
  | _ => none
def tupD : List Dt → Option Rv
  | [.list xs] => some (.d (.tuple xs))
  | _ => none
def intD : List Dt → Option Rv
  | [.int i] => some (.d (.int i))
  | [.bool k] => some (.d (.int (if k then 1 else 0)))
  | _ => none
theorem ros1 {K : Fg} {G H : Hp} {vs : List V} {d : Dt} (h : ROs K G H vs [d]) : ∃ v, vs = [v] ∧ RO K G H v d := by
  cases h with
  | cons h1 h2 => cases h2; exact ⟨_, rfl, h1⟩
theorem ros2 {K : Fg} {G H : Hp} {vs : List V} {d e : Dt} (h : ROs K G H vs [d, e]) : ∃ v u, vs = [v, u] ∧ RO K G H v d ∧ RO K G H u e := by
  cases h with
  | cons h1 h2 =>
    cases h2 with
    | cons h3 h4 => cases h4; exact ⟨_, _, rfl, h1, h3⟩
theorem d_two2 {b : Bs} (g : Int → Int → Int) : DoesN b (fun xs H Q => ∃ i j, xs = [.int i, .int j] ∧ Q (.int (g i j)) H) (two2 g) := fun {c G H ρ σ xs ds z Q} S hx e q => by
  unfold two2 at e
  split at e
  · cases e
    obtain ⟨v, u, rfl, h1, h2⟩ := ros2 hx
    rw [h1.int, h2.int]
    exact ⟨_, _, rfl, fin_d S q (.int _)⟩
  · cases e
theorem d_sum {b : Bs} : DoesN b (rSum b.K) sumD := fun {c G H ρ σ xs ds z Q} S hx e q => by
  unfold sumD at e
  split at e
  · rename_i ys
    obtain ⟨v, rfl, h1⟩ := ros1 hx
    cases hy : intsOf ys with
    | none => rw [hy] at e; cases e
    | some ns =>
      rw [hy] at e
      cases e
      have := intsOf_of hy
      subst this
      obtain ⟨p, vs, rfl, r1, r2⟩ := h1.list S.gh
      rw [r2.ints] at r1
      exact ⟨p, ns, rfl, SqL.of r1, fin_d S q (.int _)⟩
  · cases e
theorem d_any {b : Bs} : DoesN b (rAny b.K) anyD := fun {c G H ρ σ xs ds z Q} S hx e q => by
  unfold anyD at e
  split at e
  · rename_i ys
    obtain ⟨v, rfl, h1⟩ := ros1 hx
    cases hy : boolsOf ys with
    | none => rw [hy] at e; cases e
    | some ns =>
      rw [hy] at e
      cases e
      have := boolsOf_of hy
      subst this
      obtain ⟨p, vs, rfl, r1, r2⟩ := h1.list S.gh
      rw [r2.bools] at r1
      exact ⟨p, ns, rfl, SqL.of r1, fin_d S q (.bl _)⟩
  · cases e
theorem d_all {b : Bs} : DoesN b (rAll b.K) allD := fun {c G H ρ σ xs ds z Q} S hx e q => by
  unfold allD at e
  split at e
  · rename_i ys
    obtain ⟨v, rfl, h1⟩ := ros1 hx
    cases hy : boolsOf ys with
    | none => rw [hy] at e; cases e
    | some ns =>
      rw [hy] at e
      cases e
      have := boolsOf_of hy
      subst this
      obtain ⟨p, vs, rfl, r1, r2⟩ := h1.list S.gh
      rw [r2.bools] at r1
      exact ⟨p, ns, rfl, SqL.of r1, fin_d S q (.bl _)⟩
  · cases e
theorem d_list {b : Bs} : DoesN b (fun xs H Q => ∃ p ys, xs = [.ref p] ∧ (SqL b.K H p ys ∨ SqT b.K H p ys) ∧ ∀ l, H l = none → Q (.ref l) (upd H l (.lst ys))) listD := fun {c G H ρ σ xs ds z Q} S hx e q => by
  unfold listD at e
  split at e
  · cases e
    obtain ⟨v, rfl, h1⟩ := ros1 hx
    obtain ⟨p, vs, rfl, r1, r2⟩ := h1.list S.gh
    exact ⟨p, vs, rfl, .inl (SqL.of r1), fun l hl => fin_l S q hl r2⟩
  · cases e
    obtain ⟨v, rfl, h1⟩ := ros1 hx
    obtain ⟨p, vs, rfl, r1, r2⟩ := h1.tup
    exact ⟨p, vs, rfl, .inr (same_sqT S.gh r1), fun l hl => fin_l S q hl r2⟩
  · cases e
theorem fin_t {b : Bs} {c : Fc} {G H : Hp} {ρ : Ev} {σ : St} {p : Addr} {vs : List V} {xs : List Dt} {Q : VK} (S : SIG b c G ρ σ H) (q : ∀ v H' G', Same G G' → SIG b c G' ρ σ H' → RN b c G' H' v (.d (.tuple xs)) → Apart ρ σ v (.d (.tuple xs)) → Q v H') (hp : H p = none) (r : Rps b.K G vs xs) : Q (.ref p) (upd H p (.tup vs)) := by
  obtain ⟨e2, S2⟩ := S.lay (o := .tup vs) hp
  exact q (.ref p) _ _ e2 S2 (.tup (.inl upd_same) (Rps.mono e2 _ _ r)) fun p' _ z => by cases z
theorem d_tup {b : Bs} : DoesN b (fun xs H Q => ∃ p ys, xs = [.ref p] ∧ ((SqL b.K H p ys ∧ ∀ l, H l = none → Q (.ref l) (upd H l (.tup ys))) ∨ (SqT b.K H p ys ∧ Q (.ref p) H))) tupD := fun {c G H ρ σ xs ds z Q} S hx e q => by
  unfold tupD at e
  split at e
  · cases e
    obtain ⟨v, rfl, h1⟩ := ros1 hx
    obtain ⟨p, vs, rfl, r1, r2⟩ := h1.list S.gh
    exact ⟨p, vs, rfl, .inl ⟨SqL.of r1, fun l hl => fin_t S q hl r2⟩⟩
  · cases e
theorem d_int {b : Bs} : DoesN b (fun xs H Q => (∃ i, xs = [.int i] ∧ Q (.int i) H) ∨ ∃ k, xs = [.bl k] ∧ Q (.int (if k then 1 else 0)) H) intD := fun {c G H ρ σ xs ds z Q} S hx e q => by
  unfold intD at e
  split at e
  · cases e
    obtain ⟨v, rfl, h1⟩ := ros1 hx
    rw [h1.int]
    exact .inl ⟨_, rfl, fin_d S q (.int _)⟩
  · cases e
    obtain ⟨v, rfl, h1⟩ := ros1 hx
    rw [h1.bool]
    exact .inr ⟨_, rfl, fin_d S q (.int _)⟩
  · cases e
section
variable {X : Cx} {b : Bs} {W : WX} {p pos : Pos} {e e2 : Expr} {fl : M (List Av)}
theorem m_max1 (hK : X.K = b.K) (hc : X.calm = true) (hu : X.A.units + 64 < cLine) (hg : Gl X "max") (hm : X.mg "max" = none) (ha : PA X [e] (tL b W fl)) (hs : starEach [e] X.env = (false, eval e X.env) :: starEach [] X.env := by rfl) : PE X (.Call (.Name "max" p) [e] [] pos) (tV b W (biM (bestD PySem.W.maxD) fl)) :=
  m_bi (c_max hc hu) (by rw [hK]; exact d_best _) hg hm (by decide +kernel) ha (by decide) (by decide) hs
theorem m_min1 (hK : X.K = b.K) (hc : X.calm = true) (hu : X.A.units + 64 < cLine) (hg : Gl X "min") (hm : X.mg "min" = none) (ha : PA X [e] (tL b W fl)) (hs : starEach [e] X.env = (false, eval e X.env) :: starEach [] X.env := by rfl) : PE X (.Call (.Name "min" p) [e] [] pos) (tV b W (biM (bestD PySem.W.minD) fl)) :=
  m_bi (c_min hc hu) (by rw [hK]; exact d_best _) hg hm (by decide +kernel) ha (by decide) (by decide) hs
theorem m_max2 (hc : X.calm = true) (hg : Gl X "max") (hm : X.mg "max" = none) (ha : PA X [e, e2] (tL b W fl)) (hs : starEach [e, e2] X.env = (false, eval e X.env) :: starEach [e2] X.env := by rfl) (hpl : (backTo pos (starEach [e2] X.env)).any (·.1) = false := by rfl) : PE X (.Call (.Name "max" p) [e, e2] [] pos) (tV b W (biM (two2 fun i j => if j > i then j else i) fl)) :=
  m_bi (call_max2 hc) (d_two2 _) hg hm (by decide +kernel) ha (by decide) (by decide) hs hpl
theorem m_min2 (hc : X.calm = true) (hg : Gl X "min") (hm : X.mg "min" = none) (ha : PA X [e, e2] (tL b W fl)) (hs : starEach [e, e2] X.env = (false, eval e X.env) :: starEach [e2] X.env := by rfl) (hpl : (backTo pos (starEach [e2] X.env)).any (·.1) = false := by rfl) : PE X (.Call (.Name "min" p) [e, e2] [] pos) (tV b W (biM (two2 fun i j => if j < i then j else i) fl)) :=
  m_bi (call_min2 hc) (d_two2 _) hg hm (by decide +kernel) ha (by decide) (by decide) hs hpl
theorem m_sum (hK : X.K = b.K) (hc : X.calm = true) (hg : Gl X "sum") (hm : X.mg "sum" = none) (ha : PA X [e] (tL b W fl)) (hs : starEach [e] X.env = (false, eval e X.env) :: starEach [] X.env := by rfl) : PE X (.Call (.Name "sum" p) [e] [] pos) (tV b W (biM sumD fl)) :=
  m_bi (cr_sum hc) (by rw [hK]; exact d_sum) hg hm (by decide +kernel) ha (by decide) (by decide) hs
theorem m_any (hK : X.K = b.K) (hc : X.calm = true) (hg : Gl X "any") (hm : X.mg "any" = none) (ha : PA X [e] (tL b W fl)) (hs : starEach [e] X.env = (false, eval e X.env) :: starEach [] X.env := by rfl) : PE X (.Call (.Name "any" p) [e] [] pos) (tV b W (biM anyD fl)) :=
  m_bi (cr_any hc) (by rw [hK]; exact d_any) hg hm (by decide +kernel) ha (by decide) (by decide) hs
theorem m_all (hK : X.K = b.K) (hc : X.calm = true) (hg : Gl X "all") (hm : X.mg "all" = none) (ha : PA X [e] (tL b W fl)) (hs : starEach [e] X.env = (false, eval e X.env) :: starEach [] X.env := by rfl) : PE X (.Call (.Name "all" p) [e] [] pos) (tV b W (biM allD fl)) :=
  m_bi (cr_all hc) (by rw [hK]; exact d_all) hg hm (by decide +kernel) ha (by decide) (by decide) hs
theorem m_list (hK : X.K = b.K) (hg : Gl X "list") (hm : X.mg "list" = none) (ha : PA X [e] (tL b W fl)) (hs : starEach [e] X.env = (false, eval e X.env) :: starEach [] X.env := by rfl) : PE X (.Call (.Name "list" p) [e] [] pos) (tV b W (biM listD fl)) :=
  m_ty call_list_of (by rw [hK]; exact d_list) hg hm (by decide +kernel) ha (by decide) (by decide) hs
theorem m_tuple (hK : X.K = b.K) (hg : Gl X "tuple") (hm : X.mg "tuple" = none) (ha : PA X [e] (tL b W fl)) (hs : starEach [e] X.env = (false, eval e X.env) :: starEach [] X.env := by rfl) : PE X (.Call (.Name "tuple" p) [e] [] pos) (tV b W (biM tupD fl)) :=
  m_ty call_tuple_of (by rw [hK]; exact d_tup) hg hm (by decide +kernel) ha (by decide) (by decide) hs
theorem m_intc (hg : Gl X "int") (hm : X.mg "int" = none) (ha : PA X [e] (tL b W fl)) (hs : starEach [e] X.env = (false, eval e X.env) :: starEach [] X.env := by rfl) : PE X (.Call (.Name "int" p) [e] [] pos) (tV b W (biM intD fl)) :=
  m_ty call_int1 d_int hg hm (by decide +kernel) ha (by decide) (by decide) hs
end
end G8
namespace G8
open PySem L2
/-! methods of lists that only look -/
def rLook (K : Fg) (g : List Dt → Dt → Option Int) : V → List V → Hp → VK → Prop := fun x xs H Q => ∃ (a : Addr) (y : V) (d : Dt) (ds : List Dt) (z : Int), x = .ref a ∧ xs = [y] ∧ Dp K H (.ref a) (.list ds) ∧ Dp K H y d ∧ PyData.plainAll ds = true ∧ d.plain = true ∧ d.depth ≤ 60 ∧ g ds d = some z ∧ Q (.int z) H
def countD (ds : List Dt) (d : Dt) : Option Int := some ((ds.countP fun y => PyData.eqv y d : Nat) : Int)
def indexD (ds : List Dt) (d : Dt) : Option Int := (SeqAt.dataPlace ds d).map fun j => ((j : Nat) : Int)
section
variable {X : Cx}
theorem c_count (hu : X.A.units + 64 < cLine) : MtR X "list.count" (rLook X.K countD) := by
  intro pins s σ H x xs v us Q I rx rxs h
  obtain ⟨a, y, d, ds, z, rfl, rfl, hl, hy, h1, h2, h3, hg, q⟩ := h
  cases rx
  obtain ⟨uy, rfl, ry⟩ := vals1 rxs
  cases hg
  obtain ⟨bs, r1⟩ := Dp.reads I d y uy hy ry
  cases hl with
  | lst hs ha =>
    obtain ⟨its, rv, ⟨o, n, ho, hcl, hdn, hdt⟩, hlen⟩ := I.list hs
    obtain ⟨as, h4⟩ := Dp.readsAll I ds _ its ha rv
    refine SeqAt.count_list_data (vs := its.toArray) ⟨o, ho, hcl, n, hdt⟩ (by simpa using h4) r1 h1 h2 (by have := Nat.min_le_right (PyData.depthAll ds) d.depth; omega) ?_
    exact ⟨.int _, H, I.tok _, ⟨_, rfl⟩, q⟩
theorem c_index (hu : X.A.units + 64 < cLine) : MtR X "list.index" (rLook X.K indexD) := by
  intro pins s σ H x xs v us Q I rx rxs h
  obtain ⟨a, y, d, ds, z, rfl, rfl, hl, hy, h1, h2, h3, hg, q⟩ := h
  cases rx
  obtain ⟨uy, rfl, ry⟩ := vals1 rxs
  obtain ⟨bs, r1⟩ := Dp.reads I d y uy hy ry
  cases hl with
  | lst hs ha =>
    obtain ⟨its, rv, ⟨⟨cls, dd, data, sls⟩, n, ho, hcl, hdn, hdt⟩, hlen⟩ := I.list hs
    simp only at hcl hdt
    subst hcl hdt
    obtain ⟨as, h4⟩ := Dp.readsAll I ds _ its ha rv
    unfold indexD at hg
    cases hp : SeqAt.dataPlace ds d with
    | none => rw [hp] at hg; cases hg
    | some j =>
      rw [hp] at hg
      cases hg
      have hs' := sizeLine_eq
      have hvl := rv.length
      obtain ⟨hj, hit, hno⟩ := SeqAt.hit_at (vs := its.toArray) (by simpa using h4) h1 hp
      have hjl : j < its.length := by simpa using hj
      refine call_meets PySem.F.slot_list_index ⟨_, ho, rfl⟩ PySem.F.entry_list_index (PySem.F.args_list_index_2 _ _)
        (SeqAt.list_indexAt a its.toArray n dd sls uy (fun u => PyData.eqv (SeqAt.readOf s.heap u) d) j hj (by omega) hit hno) ⟨ho, SeqAt.items_plain (vs := its.toArray) (by simpa using h4) r1 h1 h2 (by have := Nat.min_le_right (PyData.depthAll ds) d.depth; omega), ?_⟩
      exact ⟨.int (j : Nat), H, I.tok _, ⟨_, rfl⟩, q⟩
end
def isL : Dt → Option Unit
  | .list _ => some ()
  | _ => none
def lookD (g : List Dt → Dt → Option Int) : Dt → List Dt → Option Dt
  | .list xs, [d] => if shal d then (g xs d).map fun z => .int z else none
  | _, _ => none
def meM (g : Dt → List Dt → Option Dt) (fo : M Av) (fl : M (List Av)) : M Av := bindM fo fun o => bindM (optM fun ρ => (res ρ o).bind isL) fun _ => bindM fl fun as => optM fun ρ => (res ρ o).bind fun x => (ress ρ as).bind fun ds => (g x ds).map Av.d
section
variable {X : Cx} {b : Bs} {W : WX} {o e : Expr} {es : List Expr} {name : Str} {id : String} {fo : M Av} {fl : M (List Av)} {apos cpos : Pos}
theorem look_core {g : List Dt → Dt → Option Int} {σ : St} {H : Hp} {Q : VK} (h : tE b W (meM (lookD g) fo fl) σ H Q) : tBM b.K "list" (rLook b.K g) (tE b W fo) (tL b W fl) σ H Q := by
  obtain ⟨c, G, ρ, S, q⟩ := h
  refine ⟨c, G, ρ, S, (Post.bind q).imp fun oa ρ1 G1 H1 e1 S1 q1 v hv => ?_⟩
  obtain ⟨u, h1, h2⟩ := (Post.bind q1).opt S1
  cases hx : res ρ1 oa with
  | none => rw [hx] at h1; cases h1
  | some x =>
    rw [hx] at h1
    cases x with
    | list xs =>
      obtain ⟨p, vs, rfl, r1, r2⟩ := (hv.res S1 hx).list S1.gh
      refine ⟨.inl ⟨rfl, vs, SqL.of r1⟩, c, G1, ρ1, S1, (Post.bind h2).imp fun as ρ2 G2 H2 e2 S2 q2 ws hws => ?_⟩
      obtain ⟨z, h3, h4⟩ := q2.opt S2
      cases hx2 : res ρ2 oa with
      | none => rw [hx2] at h3; cases h3
      | some x2 =>
        rw [hx2] at h3
        dsimp only [Option.bind_some] at h3
        cases hd : ress ρ2 as with
        | none => rw [hd] at h3; cases h3
        | some ds =>
          rw [hd] at h3
          dsimp only [Option.bind_some] at h3
          have rr := (hv.mono e2).res S2 hx2
          have ra := ress_of S2 hws hd
          unfold lookD at h3
          split at h3
          · rename_i ys d
            split at h3
            · rename_i hs
              cases hg : g ys d with
              | none => rw [hg] at h3; cases h3
              | some n =>
                rw [hg] at h3
                cases h3
                obtain ⟨y, rfl, ry⟩ := ros1 ra
                exact ⟨p, y, d, ys, n, rfl, rfl, rr.dp S2.gh, ry.dp S2.gh, rr.plain, ry.plain, sh_of hs, hg, h4 _ (.int n)⟩
            · cases h3
          · cases h3
    | _ => cases h1
theorem m_count (hK : X.K = b.K) (hu : X.A.units + 64 < cLine) (ho : PE X o (tE b W fo)) (ha : PA X [e] (tL b W fl)) (hbase : attributeBase o "count" X.env (eval o X.env) = eval o X.env := by rfl)
    (hp : ∀ {to : TE} {t : TA} {r : V → List V → Hp → VK → Prop}, MtR X "list.count" r → PE X o to → PA X [e] t → PE X (.Call (.Attribute o "count" apos) [e] [] cpos) (tBM X.K "list" r to t)) : PE X (.Call (.Attribute o "count" apos) [e] [] cpos) (tE b W (meM (lookD countD) fo fl)) :=
  weakE (hp (c_count hu) ho ha) fun σ H Q h => by rw [hK]; exact look_core h
theorem m_index (hK : X.K = b.K) (hu : X.A.units + 64 < cLine) (ho : PE X o (tE b W fo)) (ha : PA X [e] (tL b W fl))
    (hp : ∀ {to : TE} {t : TA} {r : V → List V → Hp → VK → Prop}, MtR X "list.index" r → PE X o to → PA X [e] t → PE X (.Call (.Attribute o "index" apos) [e] [] cpos) (tBM X.K "list" r to t)) : PE X (.Call (.Attribute o "index" apos) [e] [] cpos) (tE b W (meM (lookD indexD) fo fl)) :=
  weakE (hp (c_index hu) ho ha) fun σ H Q h => by rw [hK]; exact look_core h
end
/-! methods that change a list -/
def MutOk (b : Bs) (r : V → List V → Hp → VK → Prop) (g : List Dt → List Dt → Option (Dt × List Dt)) : Prop := ∀ {G H : Hp} {p : Addr} {vl : List V} {xs : List Dt} {args : List V} {ds : List Dt} {y : Dt} {ys : List Dt} {Q : VK}, SameG G H → H p = some (.lst vl) → Rps b.K G vl xs → Rps b.K G args ds → g xs ds = some (y, ys) →
  (∀ v vs', Rp b.K G v y → Rps b.K G vs' ys → Q v (upd H p (.lst vs'))) → r (.ref p) args H Q
def slotL : Option (Option Sv) → Option (Bool × List Dt)
  | some (some (.ls r xs)) => some (r, xs)
  | _ => none
def mutM (i : Nat) (g : List Dt → List Dt → Option (Dt × List Dt)) (fl : M (List Av)) : M Rv := bindM (optM fun ρ => slotL ρ[i]?) fun _ => bindM fl fun as ρ => match slotL ρ[i]?, fzs ρ as with
  | some (r, xs), some ds => (match g xs ds with
    | some (y, ys) => .ok (.d y) (ρ.set i (some (.ls r ys)))
    | none => .bad)
  | _, _ => .bad
theorem slotL_of {o : Option (Option Sv)} {r : Bool} {xs : List Dt} (h : slotL o = some (r, xs)) : o = some (some (.ls r xs)) := by
  unfold slotL at h
  split at h
  · cases h; rfl
  · cases h
section
variable {X : Cx} {b : Bs} {W : WX} {x : Str} {e : Expr} {es : List Expr} {fl : M (List Av)} {i : Nat} {pos : Pos}
theorem mut_core {r : V → List V → Hp → VK → Prop} {g : List Dt → List Dt → Option (Dt × List Dt)} (mo : MutOk b r g) {σ : St} {H : Hp} {Q : VK} (h : tV b W (mutM i g fl) σ H Q) : tBM b.K "list" r (tVar i) (tL b W fl) σ H Q := by
  obtain ⟨c, G, ρ, S, q⟩ := h
  obtain ⟨⟨r0, xs0⟩, h1, h2⟩ := (Post.bind q).opt S
  have hs0 := slotL_of h1
  obtain ⟨v, hv, p, vs, rfl, a2, a3, a4⟩ := S.sl i _ hs0
  refine ⟨.ref p, hv, .inl ⟨rfl, vs, SqL.of a2⟩, c, G, ρ, S, (Post.bind h2).imp fun as ρ1 G1 H1 e1 S1 q1 ws hws => ?_⟩
  split at q1
  · rename_i r1 xs ds hsl hf
    have hs1 := slotL_of hsl
    split at q1
    · rename_i y ys hg
      obtain ⟨v', hv', p', vs', e', b2, b3, b4⟩ := S1.sl i _ hs1
      rw [hv] at hv'
      cases hv'
      cases e'
      refine mo S1.gh b2 b4 (fzs_of S1 hws hf) hg fun w ws' rw_ rws => ?_
      have S2 := S1.mut (o := .lst ws') (sv' := .ls r1 ys) hs1 rfl hv rfl rfl ⟨p, ws', rfl, upd_same, b3, rws⟩
      exact q1 _ G1 (Same.refl G1) S2 w rw_ fun _ _ z => by cases z
    · exact q1.elim
  · exact q1.elim
theorem mut_core0 {r : V → List V → Hp → VK → Prop} {g : List Dt → List Dt → Option (Dt × List Dt)} (mo : MutOk b r g) {σ : St} {H : Hp} {Q : VK} (h : tV b W (mutM i g (retM [])) σ H Q) : tBM0 b.K "list" r (tVar i) σ H Q := by
  obtain ⟨v, hv, ty, c, G, ρ, S, q⟩ := mut_core mo h
  exact ⟨v, hv, ty, q.ret S [] .nil⟩
end
def appD (xs ds : List Dt) : Option (Dt × List Dt) := match ds with
  | [d] => if xs.length < 1000000 then some (.none, xs ++ [d]) else none
  | _ => none
def extD (xs ds : List Dt) : Option (Dt × List Dt) := match ds with
  | [.list ys] => if xs.length + ys.length ≤ 1000000 then some (.none, xs ++ ys) else none
  | _ => none
def insD (xs ds : List Dt) : Option (Dt × List Dt) := match ds with
  | [.int i, d] => if xs.length < 1000000 ∧ 0 ≤ i ∧ mid i = true then some (.none, xs.take i.toNat ++ [d] ++ xs.drop i.toNat) else none
  | _ => none
def popD (xs ds : List Dt) : Option (Dt × List Dt) := match ds with
  | [] => (xs[xs.length - 1]?).map fun y => (y, xs.dropLast)
  | _ => none
def popAtD (xs ds : List Dt) : Option (Dt × List Dt) := match ds with
  | [.int i] => if 0 ≤ i ∧ i < xs.length ∧ mid i = true then (xs[i.toNat]?).map fun y => (y, xs.eraseIdx i.toNat) else none
  | _ => none
def remD (xs ds : List Dt) : Option (Dt × List Dt) := match ds with
  | [d] => if shal d && decide (xs.length ≤ 1000000) then (SeqAt.dataPlace xs d).map fun j => (.none, xs.eraseIdx j) else none
  | _ => none
theorem rps1 {K : Fg} {G : Hp} {vs : List V} {d : Dt} (h : Rps K G vs [d]) : ∃ v, vs = [v] ∧ Rp K G v d := by
  cases h with
  | cons h1 h2 => cases h2; exact ⟨_, rfl, h1⟩
theorem rps2 {K : Fg} {G : Hp} {vs : List V} {d e : Dt} (h : Rps K G vs [d, e]) : ∃ v u, vs = [v, u] ∧ Rp K G v d ∧ Rp K G u e := by
  cases h with
  | cons h1 h2 =>
    cases h2 with
    | cons h3 h4 => cases h4; exact ⟨_, _, rfl, h1, h3⟩
theorem lt_line {n : Nat} (h : n < 1000000) : n < sizeLine := Nat.lt_of_lt_of_le h (by decide)
theorem k_app {b : Bs} : MutOk b rAppend appD := fun {G H p vl xs args ds y ys Q} sg hp r ra e q => by
  unfold appD at e
  split at e
  · split at e
    · rename_i d hl
      cases e
      obtain ⟨v, rfl, rv⟩ := rps1 ra
      exact ⟨p, vl, v, rfl, rfl, hp, by rw [r.length]; exact lt_line hl, q _ _ .non (r.append (.cons rv .nil))⟩
    · cases e
  · cases e
theorem k_ext {b : Bs} : MutOk b rExtend extD := fun {G H p vl xs args ds y ys Q} sg hp r ra e q => by
  unfold extD at e
  split at e
  · split at e
    · rename_i zs hl
      cases e
      obtain ⟨v, rfl, rv⟩ := rps1 ra
      cases rv with
      | lst r1 r2 => exact ⟨p, _, vl, _, rfl, rfl, hp, sg _ _ r1 rfl, by rw [r.length, r2.length]; exact le_line hl, q _ _ .non (r.append r2)⟩
    · cases e
  · cases e
theorem k_ins {b : Bs} : MutOk b (fun x vs H Q => ∃ (l : Addr) (xs : List V) (i : Int) (y : V), x = .ref l ∧ vs = [.int i, y] ∧ H l = some (.lst xs) ∧ xs.length < sizeLine ∧ 0 ≤ i ∧ i < 2 ^ 63 ∧ Q .non (upd H l (.lst (xs.take i.toNat ++ [y] ++ xs.drop i.toNat)))) insD := fun {G H p vl xs args ds y ys Q} sg hp r ra e q => by
  unfold insD at e
  split at e
  · split at e
    · rename_i i d hl
      cases e
      obtain ⟨v, u, rfl, rv, ru⟩ := rps2 ra
      cases rv
      exact ⟨p, vl, i, u, rfl, rfl, hp, by rw [r.length]; exact lt_line hl.1, hl.2.1, by have := mid_of hl.2.2; omega, q _ _ .non (((r.take _).append (.cons ru .nil)).append (r.drop _))⟩
    · cases e
  · cases e
theorem Rps.dropLast {K : Fg} {G : Hp} {vs : List V} {ds : List Dt} (h : Rps K G vs ds) : Rps K G vs.dropLast ds.dropLast := by
  rw [List.dropLast_eq_take, List.dropLast_eq_take, h.length]
  exact h.take _
theorem k_pop {b : Bs} : MutOk b rPop popD := fun {G H p vl xs args ds y ys Q} sg hp r ra e q => by
  unfold popD at e
  split at e
  · cases hx : xs[xs.length - 1]? with
    | none => rw [hx] at e; cases e
    | some z =>
      rw [hx] at e
      cases e
      cases ra
      obtain ⟨v, h1, h2⟩ := r.get hx
      exact ⟨p, vl, v, rfl, rfl, hp, by rw [r.length]; exact h1, q _ _ h2 r.dropLast⟩
  · cases e
theorem k_popAt {b : Bs} : MutOk b rPopAt popAtD := fun {G H p vl xs args ds y ys Q} sg hp r ra e q => by
  unfold popAtD at e
  split at e
  · split at e
    · rename_i i hl
      cases hx : xs[i.toNat]? with
      | none => rw [hx] at e; cases e
      | some z =>
        rw [hx] at e
        cases e
        obtain ⟨v, rfl, rv⟩ := rps1 ra
        cases rv
        obtain ⟨w, h1, h2⟩ := r.get hx
        have hmi := mid_of hl.2.2
        refine ⟨p, vl, i, i.toNat, w, rfl, rfl, hp, by omega, by omega, ?_, h1, q _ _ h2 (r.erase _)⟩
        rw [r.length]
        exact (ixN_seq (by unfold ixN; rw [if_pos hl.1, if_pos hl.2.1])).1
    · cases e
  · cases e
/-- l.remove(x), x there -/
def rRemD (K : Fg) : V → List V → Hp → VK → Prop := fun x vs H Q => ∃ (l : Addr) (xs : List V) (y : V) (d : Dt) (ds : List Dt) (j : Nat), x = .ref l ∧ vs = [y] ∧ H l = some (.lst xs) ∧ DpAll K H xs ds ∧ Dp K H y d ∧ PyData.plainAll ds = true ∧ d.plain = true ∧ d.depth ≤ 60 ∧ SeqAt.dataPlace ds d = some j ∧ Q .non (upd H l (.lst (xs.eraseIdx j)))
theorem c_rem {X : Cx} (hu : X.A.units + 64 < cLine) : MtR X "list.remove" (rRemD X.K) := by
  intro pins s σ H x vs v us Q I rx rv h
  obtain ⟨l, xs, y, d, ds, j, rfl, rfl, hH, ha, hy, h1, h2, h3, hp, q⟩ := h
  cases rx
  obtain ⟨u, rfl, ru⟩ := vals1 rv
  obtain ⟨bs, r1⟩ := Dp.reads I d y u hy ru
  obtain ⟨z, its, n, r, hl, e⟩ := I.lstM hH
  obtain ⟨as, h4⟩ := Dp.readsAll I ds _ its ha r
  refine SeqAt.remove_list_data (vs := its.toArray) ⟨_, e, rfl, n, rfl⟩ (by simpa using h4) r1 h1 h2 (by have := Nat.min_le_right (PyData.depthAll ds) d.depth; omega) hp (by rw [List.size_toArray]; omega) ?_
  refine ⟨.non, _, I.lset (its' := its.eraseIdx j) (t' := s.toks) hH e ?_ (r.eraseIdx j) ?_, rfl, q⟩
  · show its.toArray.eraseIdxIfInBounds j = (its.eraseIdx j).toArray
    rw [List.eraseIdxIfInBounds_toArray]
  · exact Nat.le_trans (len_erase xs j) z
theorem k_rem {b : Bs} : MutOk b (rRemD b.K) remD := fun {G H p vl xs args ds y ys Q} sg hp r ra e q => by
  unfold remD at e
  split at e
  · rename_i d
    split at e
    · rename_i hl
      cases hx : SeqAt.dataPlace xs d with
      | none => rw [hx] at e; cases e
      | some j =>
        rw [hx] at e
        cases e
        rw [Bool.and_eq_true] at hl
        obtain ⟨v, rfl, rv⟩ := rps1 ra
        exact ⟨p, vl, v, d, xs, j, rfl, rfl, hp, Rps.dp _ _ (Rps.monoG sg _ _ r), Rp.dp _ _ (Rp.monoG sg _ _ rv), Rps.plain _ _ r, Rp.plain _ _ rv, sh_of hl.1, hx, q _ _ .non (r.erase _)⟩
    · cases e
  · cases e
section
variable {X : Cx} {b : Bs} {W : WX} {x : Str} {e : Expr} {es : List Expr} {fl : M (List Av)} {pos apos cpos : Pos}
theorem m_mut {r : V → List V → Hp → VK → Prop} {g : List Dt → List Dt → Option (Dt × List Dt)} (hK : X.K = b.K) (i : Nat) (mo : MutOk b r g) (h : PE X e (tBM X.K "list" r (tVar i) (tL b W fl))) : PE X e (tV b W (mutM i g fl)) :=
  weakE h fun σ H Q h => by rw [hK]; exact mut_core mo h
theorem m_mut0 {r : V → List V → Hp → VK → Prop} {g : List Dt → List Dt → Option (Dt × List Dt)} (hK : X.K = b.K) (i : Nat) (mo : MutOk b r g) (h : PE X e (tBM0 X.K "list" r (tVar i))) : PE X e (tV b W (mutM i g (retM []))) :=
  weakE h fun σ H Q h => by rw [hK]; exact mut_core0 mo h
/-- an expression as a statement -/
def exprS (f : M Rv) : M Fl := bindM f fun _ => retM .nx
theorem s_expr {f : M Rv} (he : PE X e (tV b W f)) (hs : swapsWith e none pos.line X.env = pure false := by rfl) : PS X (.Expr e pos) (tS b W (exprS f)) := weakS (ps_expr he hs) fun D σ H ⟨c, G, ρ, hb, S, q⟩ =>
  ⟨c, G, ρ, S, (PostS.bind σ q).imp fun r ρ1 G1 H1 e1 S1 q1 v hv ap => q1 σ H1 G1 (Same.refl G1) S1⟩
/-- x[k] = e, x a slot's own list -/
def setIt (i : Nat) (fe fk : M Av) : M Fl := bindM fe fun a => bindM (optM fun ρ => slotL ρ[i]?) fun _ => bindM fk fun k ρ => match slotL ρ[i]?, fzv ρ a, res ρ k with
  | some (r, xs), some d, some (.int n) => (match ixN xs.length n with
    | some j => .ok .nx (ρ.set i (some (.ls r (xs.set j d))))
    | none => .bad)
  | _, _, _ => .bad
theorem s_setIt {o k : Expr} {fe fk : M Av} {tp : Pos} (i : Nat) (hp : PS X (.Assign [.Subscript o k tp] e pos) (tAsg (tE b W fe) (gSub (tVar i) (tE b W fk) rSetL))) : PS X (.Assign [.Subscript o k tp] e pos) (tS b W (setIt i fe fk)) := weakS hp fun D σ H ⟨c, G, ρ, hb, S, q⟩ =>
  ⟨c, G, ρ, S, (PostS.bind σ q).imp fun a ρ1 G1 H1 e1 S1 q1 v hv => by
    obtain ⟨⟨r0, xs0⟩, h1, h2⟩ := (PostS.bind σ q1).opt S1
    have hs0 := slotL_of h1
    obtain ⟨w, hw, p, vs, rfl, a2, a3, a4⟩ := S1.sl i _ hs0
    refine ⟨.ref p, hw, c, G1, ρ1, S1, (PostS.bind σ h2).imp fun kk ρ2 G2 H2 e2 S2 q2 u hu => ?_⟩
    split at q2
    · rename_i r1 xs d n hsl hf hk
      have hs1 := slotL_of hsl
      split at q2
      · rename_i j hj
        obtain ⟨v', hv', p', vs', e', b2, b3, b4⟩ := S2.sl i _ hs1
        rw [hw] at hv'
        cases hv'
        cases e'
        refine ⟨p, vs', n, j, rfl, (hu.res S2 hk).int, b2, by rw [b4.length]; exact hj, ?_⟩
        have S3 := S2.mut (o := .lst (vs'.set j v)) (sv' := .ls r1 (xs.set j d)) hs1 rfl hw rfl rfl ⟨p, _, rfl, upd_same, b3, Rps.set ((hv.mono e2).fz S2 hf) j b4⟩
        exact q2 σ _ G2 (Same.refl G2) S3
      · exact q2.elim
    · exact q2.elim⟩
end
end G8
namespace G8
open PySem L2
/-! raise -/
def raiseM {α : Type} (k : Nat) : M α := fun ρ => .err k ρ
section
variable {X : Cx} {b : Bs} {W : WX} {e : Expr} {pos : Pos}
theorem s_raise (k : Nat) (hc : X.calm = true) (tk : Takes X W) (he : PMk X e (fun _ H Q => Q (.ref (b.C k)) none H)) : PS X (.Raise (some e) none pos) (tS b W (raiseM k)) :=
  weakS (ps_raise hc tk he) fun D σ H ⟨c, G, ρ, hb, S, q⟩ => q σ H G (Same.refl G) S
theorem s_never {st : Stmt} : PS X st (tS b W badM) := weakS ps_never fun D σ H ⟨c, G, ρ, hb, S, q⟩ => q.elim
theorem ss_never {st : List Stmt} : PSs X st (tS b W badM) := weakB pss_never fun D σ H ⟨c, G, ρ, hb, S, q⟩ => q.elim
end
/-! try: .. except X as n: .. ; the exception is kept in sight behind the suite -/
def exT (cls : Value) (d : Option Addr) (a : Addr) : HO := .ext fun h => ∃ (oe : Obj) (vs : Array Value), h.get? a = some oe ∧ Zc cls d oe ∧ oe.data = .fields vs
section
variable {X : Cx} {pins : List (Addr × Obj)} {σ : St} {H : Hp} {s : Shared}
theorem inv_track {a : Addr} {oe : Obj} {vs : Array Value} {cls : Value} {d : Option Addr} (J : Inv X pins σ H s) (ha : s.heap.get? a = some oe) (hz : Zc cls d oe) (hd : oe.data = .fields vs) (hn : H a = none) (nL : a ≠ X.env.locals) (n0 : X.s_0.heap.get? a = none) (np : ∀ p ∈ X.pn ++ pins, p.1 ≠ a) :
    Inv X pins σ (upd H a (exT cls d a)) s := by
  have un : ∀ {t u}, H t = some u → upd H a (exT cls d a) t = some u := fun {t u} z => by rw [upd_ne (ne_of_none z hn)]; exact z
  refine ⟨J.ok, J.os, J.bare, ⟨J.base.keep, J.base.slot, fun t u h1 h2 h3 => ?_, J.base.there, fun t u h1 => un (J.base.tups t u h1), fun t u w h1 => un (J.base.frzs t u w h1), fun t u h1 => ?_⟩, J.loc, J.cell, ?_, fun y t h1 => ?_, fun p hp => ?_, fun t u h1 => ?_, J.len⟩
  · rw [upd_ne (fun z => by rw [z, n0] at h1; cases h1)]
    exact J.base.free t u h1 h2 h3
  · obtain ⟨m, z⟩ := J.base.tbls t u h1
    exact ⟨m, un z⟩
  · rw [upd_ne (Ne.symm nL)]
    exact J.free
  · have hne : t ≠ a := fun z => by
      obtain ⟨w, o, h2, h3⟩ := J.cell y t h1
      rw [z, ha] at h2
      cases h2
      rw [hd] at h3
      cases h3
    rw [upd_ne hne]
    exact J.freeC y t h1
  · obtain ⟨h1, h2, h3, h4, h5⟩ := J.pin p hp
    exact ⟨h1, by rw [upd_ne (np p hp)]; exact h2, h3, h4, h5⟩
  · by_cases ht : t = a
    · subst ht
      rw [upd_same] at h1
      cases h1
      exact ⟨⟨oe, vs, ha, hz, hd⟩, ⟨oe, ha⟩, fun _ _ ⟨o, w, q, r⟩ k => ⟨o, w, k o q, r⟩⟩
    · rw [upd_ne ht] at h1
      exact (J.hok t u h1).stay (fun _ _ _ z => z) (fun _ z => un z) fun _ _ z => un z
end
def wAsT (K : Fg) (c : Value) (i : Nat) (ts : Addr → Value → Option Addr → TS) (Wo : WX) (D : Ends) : WX := fun cls d σ H =>
  ∃ k, PySem.W.exmOne K cls c = some k ∧
    (k = true → ∀ a, H a = none → ts a cls d { nx := fun σ' H' => H' a = none → D.nx (σ'.set i none) (upd H' a (exT cls d a)), rt := fun _ _ => False } (σ.set i (some (.ref a))) H) ∧ (k = false → Wo cls d σ H)
section
variable {X : Cx} {x n : Str} {c : Value} {i : Nat} {body suite : List Stmt} {s0 : Stmt} {np pos pos' : Pos} {tb : WX → TS} {ts : Addr → Value → Option Addr → TS} {Wo : WX}
theorem ps_tryT (hs : X.stack = X.env :: X.outer) (hf : X.env.frame = some X.env.locals) (hex : X.ex = []) (hN : X.N.Nodup) (hi : X.N[i]? = some n) (hln : X.env.kindOf n = some .local) (hc : Names X x c) (tk : Takes X Wo)
    (hb : ∀ (W : WX) (pn : List (Addr × Obj)) (xe : Value → Shared → Prop), Takes (X.tr pn xe) W → PassesOwn (model X.prog X.w) X.A X.env xe → PSs (X.tr pn xe) body (tb W))
    (hsu : ∀ (a : Addr) (oe : Obj) (cls : Value) (d : Option Addr) (pn : List (Addr × Obj)), PSs (X.suite a ((a, oe) :: pn)) (s0 :: suite) (ts a cls d)) :
    PS X (.Try body [.ExceptHandler (some (.Name x np)) (some n) (s0 :: suite) pos'] [] [] pos) (fun D σ H => tb (wAsT X.K c i ts Wo D) D σ H) := by
  refine ⟨fun pins s σ H D J0 h => ?_⟩
  have okX := J0.ok
  have frm : X.A.frames = some (X.env :: X.outer) := by rw [okX.frames, hs]
  refine wpAny_Try_except ?_
  refine wpAny_mono ((hb (wAsT X.K c i ts Wo D) (X.pn ++ pins) _ (fun u s1 xx => ?_) PassesOwn.looking).run [] s σ H D (J0.toTry _) h) (fun fl s1 sp => ?_) (fun e s1 he => he)
  · obtain ⟨a, B, sI, pin2, σ1, H1, cls, d, rfl, Jx, nb, up, sky, na, os, ag, k, hk, yes, no⟩ := xx
    have JI : Inv X pins σ1 H1 sI := Jx.ofTry okX
    have sky2 : Sky B (X.env :: X.outer) a (Zc cls d) X.env.locals s1.heap := by rw [← hs]; exact sky
    show wpAny (model X.prog X.w) X.A (noteFrame (.ref a) X.env) _ _ _
    refine Sky.land Zc.steady frm hf sky2 fun h2 fl2 up2 => ?_
    have J2 : Inv X pins σ1 H1 { s1 with heap := h2 } := JI.landed nb fl2.1 (up.trans up2) os ag
    obtain ⟨o2, v2, g2, z2, d2⟩ := fl2.there
    have away : a ∉ frs (X.env :: X.outer) := fun hm => by
      obtain ⟨_, o', e', nf⟩ := (fl2.2.2.1).mem hm
      rw [g2] at e'
      cases e'
      exact nf _ d2
    have nL : a ≠ X.env.locals := fun z => away (List.mem_filterMap.mpr ⟨X.env, List.mem_cons_self, by rw [hf, z]⟩)
    have nF : a ∉ X.fs := fun hm => by
      obtain ⟨e, he, q⟩ := List.mem_filterMap.mp hm
      exact away (List.mem_filterMap.mpr ⟨e, List.mem_cons_of_mem _ he, q⟩)
    have nI : sI.heap.get? a = none := by
      cases z : sI.heap.get? a with
      | none => rfl
      | some o =>
        have y := nb a o z (by rw [hs]; exact away)
        rw [fl2.2.1] at y
        cases y
    have n0 : X.s_0.heap.get? a = none := by
      cases z : X.s_0.heap.get? a with
      | none => rfl
      | some o =>
        obtain ⟨o', y⟩ := JI.base.there a o z (by rw [hex]; exact List.not_mem_nil)
        rw [nI] at y
        cases y
    have npin : ∀ p ∈ X.pn ++ pins, p.1 ≠ a := fun p hp z => by
      have y := (JI.pin p hp).1
      rw [z, nI] at y
      cases y
    have T2 := J2.suite g2 d2 na nL nF
    refine wpAny_handleBy_cons (codeAny_handlers_test ?_) (by intro q; cases q)
    have lty : PySem.W.Looks (model X.prog X.w) h2 (typeOf (.ref a)) cls := fun A Q E t kk q => wpAny_typeOf_ref (kk _ _ g2) (by rw [z2.1]; exact q)
    have lm := PySem.W.exm_one (M := model X.prog X.w) (J2.kIn) lty hk
    have named : ∀ {Q : Value → Shared → Prop} {E : Value → Shared → Prop}, Q c { s1 with heap := h2 } → wpAny (model X.prog X.w) (X.A.mark (some (.ref a))) (eval (.Name x np) X.env) Q E { s1 with heap := h2 } := fun {Q E} q => by
      obtain ⟨hg, hdbg, hm | ⟨hm, hv, hnn⟩⟩ := hc
      · exact ld_glob (X := X.suite a ((a, o2) :: (X.pn ++ pins))) T2 hg hm q hdbg
      · exact ld_blt (X := X.suite a ((a, o2) :: (X.pn ++ pins))) T2 hg hm hv q hnn hdbg
    refine named (lm.here ?_)
    cases k with
    | true =>
      refine codeAny_handlers_suite_as ?_
      refine HandSPX.lands_againZ fl2 fun h3 fl3 up3 => ?_
      have J3 : Inv X pins σ1 H1 { s1 with heap := h3 } := JI.landed nb fl3.1 ((up.trans up2).trans up3) os ag
      obtain ⟨o3, v3, g3, z3, d3⟩ := fl3.there
      have T3 := J3.suite g3 d3 na nL nF
      refine store_ok (X := X.suite a ((a, o3) :: (X.pn ++ pins))) (v := .ref a) T3 hN hi (.inl hln) rfl (fun s5 T5 => ?_) (.inr hln)
      refine wpAny_mono ((hsu a o3 cls d (X.pn ++ pins)).run [] s5 _ H1 _ T5 (yes rfl a na)) (fun fl s6 sp => ?_) (fun _ _ z => False.elim z)
      cases fl with
      | next =>
        obtain ⟨σ6, H6, T6, q6⟩ := sp
        obtain ⟨p1, p2, _⟩ := T6.pin (a, o3) (List.mem_append_left _ List.mem_cons_self)
        have J6 := inv_track (T6.unsuite okX) p1 z3 d3 p2 nL n0 npin
        exact gone_ok J6 hN hi hln fun s7 J7 => ⟨_, _, J7, q6 p2⟩
      | brk =>
        obtain ⟨_, _, _, q6⟩ := sp
        exact False.elim q6
      | cont =>
        obtain ⟨_, _, _, q6⟩ := sp
        exact False.elim q6
      | ret u =>
        obtain ⟨_, _, _, _, _, q6⟩ := sp
        exact False.elim q6
    | false =>
      show wpAny _ X.A (handleBy (.ref a) X.env []) _ _ _
      refine wpAny_handleBy_nil ?_
      obtain ⟨w1, w2, w3, oe, vs, T, oT, tl, he, hz, hd, h1, hr⟩ := id fl2
      unfold PySem.passOn
      refine wpAny_bind (wpAny_field he hd h1 ?_)
      rw [if_neg (show ¬ ((Value.ref T == Value.none) = true) from by simp)]
      have fin : wpAny (model X.prog X.w) X.A (setFlight (.ref a) X.env.frame) (fun _ s4 => wpAny (model X.prog X.w) X.A (throw (.ref a) : Sem Flow) (SP X pins D) X.xe s4) X.xe { s1 with heap := h2 } := by
        rw [hf]
        refine HandSPX.setFlight_upZ fl2 fun h4 hh4 up4 => wpAny_throw (tk _ _ ?_)
        exact ⟨a, B, sI, pins, σ1, H1, cls, d, rfl, JI, nb, (up.trans up2).trans up4, .inr (.inr (by rw [hs]; exact hh4)), na, os, ag, no rfl⟩
      first
        | exact wpAny_bind (wpAny_pure (wpAny_bind fin))
        | exact wpAny_bind fin
  · cases fl with
    | next =>
      obtain ⟨σ1, H1, J1, q⟩ := sp
      exact wpAny_execs_nil ⟨σ1, H1, J1.ofTry okX, q⟩
    | brk =>
      obtain ⟨σ1, H1, J1, q⟩ := sp
      exact ⟨σ1, H1, J1.ofTry okX, q⟩
    | cont =>
      obtain ⟨σ1, H1, J1, q⟩ := sp
      exact ⟨σ1, H1, J1.ofTry okX, q⟩
    | ret u =>
      obtain ⟨v, σ1, H1, J1, r, q⟩ := sp
      exact ⟨v, σ1, H1, J1.ofTry okX, r, q⟩
end
/-- the classes: which are caught -/
structure Exs (b : Bs) (c : Value) (g : Nat → Bool) : Prop where
  is : ∀ k, PySem.W.exmOne b.K (.ref (b.C k)) c = some (g k)
/-- try: body / except X as e: y = e -/
def tryM (g : Nat → Bool) (i j : Nat) (f : M Fl) : M Fl := fun ρ => match f ρ with
  | .err k ρ' => if g k then (if ownAt ρ'[i]? || refAt ρ'[j]? then .bad else if i = j ∨ ρ'.length ≤ i then .bad else .ok .nx ((ρ'.set i none).set j (some (.ex k)))) else .err k ρ'
  | o => o
section
variable {X : Cx} {b : Bs} {W : WX} {x n y : Str} {c : Value} {i j : Nat} {body : List Stmt} {np pos pos' p1 p2 p3 : Pos} {g : Nat → Bool} {f : M Fl}
theorem s_try (hK : X.K = b.K) (hs : X.stack = X.env :: X.outer) (hf : X.env.frame = some X.env.locals) (hex : X.ex = []) (hN : X.N.Nodup) (hi : X.N[i]? = some n) (hln : X.env.kindOf n = some .local) (hc : Names X x c) (tk : Takes X W) (E : Exs b c g)
    (hj : X.N[j]? = some y) (hjl : X.env.kindOf y = some .local)
    (hb : ∀ (W' : WX) (pn : List (Addr × Obj)) (xe : Value → Shared → Prop), Takes (X.tr pn xe) W' → PassesOwn (model X.prog X.w) X.A X.env xe → PSs (X.tr pn xe) body (tS b W' f))
    (hsu : ∀ (a : Addr) (oe : Obj) (pn : List (Addr × Obj)), PS (X.suite a ((a, oe) :: pn)) (.Assign [.Name y p1] (.Name n p2) p3) (tAsg (tVar i) (gName j))) :
    PS X (.Try body [.ExceptHandler (some (.Name x np)) (some n) [.Assign [.Name y p1] (.Name n p2) p3] pos'] [] [] pos) (tS b W (tryM g i j f)) := by
  refine weakS (ps_tryT (tb := fun W' => tS b W' f) (ts := fun _ _ _ => tAsg (tVar i) (gName j)) hs hf hex hN hi hln hc tk hb (fun a oe _ _ pn => pss_one (hsu a oe pn))) fun D σ H ⟨cc, G, ρ, hfn, S, q⟩ => ?_
  refine ⟨cc, G, ρ, hfn, S, ?_⟩
  unfold tryM at q
  cases e : f ρ with
  | bad => rw [e] at q; exact q
  | ok fl ρ1 =>
    rw [e] at q
    cases fl <;> exact q
  | err k ρ1 =>
    rw [e] at q
    have q : PostS b cc W G D (if g k = true then (if (ownAt ρ1[i]? || refAt ρ1[j]?) = true then .bad else if i = j ∨ ρ1.length ≤ i then .bad else .ok .nx ((ρ1.set i none).set j (some (.ex k)))) else .err k ρ1) := q
    intro σ1 H1 G1 e1 S1
    refine ⟨g k, by rw [hK]; exact E.is k, fun hg a ha => ?_, fun hg => ?_⟩
    · rw [if_pos hg] at q
      split at q
      · exact q.elim
      · rename_i ho
        split at q
        · exact q.elim
        · rename_i hij
          rw [Bool.or_eq_true, not_or] at ho
          rw [not_or] at hij
          have hlt := hij.2
          have hij := hij.1
          refine ⟨.ref a, ?_, fun hna => ?_⟩
          · rw [getElem?_set_eq', if_pos rfl, if_pos (by rw [← S1.len]; omega)]
          · obtain ⟨e2, S2⟩ := S1.lay (o := exT (.ref (b.C k)) none a) ha
            have S3 := S2.drop (i := i) (ownAt_of ho.1) none
            have hop : Open cc (ρ1.set i none) j := fun s hsj => by
              rw [List.getElem?_set_ne hij] at hsj
              exact refAt_of hfn ho.2 s hsj
            have S4 := S3.set (i := j) (v := .ref a) (sv := .ex k) ⟨a, rfl, upd_same⟩ hop (fun _ _ z => by cases z)
            have eσ : ((σ1.set i (some (.ref a))).set j (some (.ref a))).set i none = (σ1.set i none).set j (some (.ref a)) := by
              rw [List.set_comm _ _ (Ne.symm hij), List.set_set]
            show D.nx (((σ1.set i (some (.ref a))).set j (some (.ref a))).set i none) (upd H1 a _)
            rw [eσ]
            exact q _ _ _ (e1.trans e2) S4
    · rw [if_neg (by rw [hg]; exact Bool.false_ne_true)] at q
      exact q σ1 H1 G1 e1 S1
end
/-! try: .. except X: y = constant -/
def tryO (g : Nat → Bool) (h f : M Fl) : M Fl := fun ρ => match f ρ with
  | .err k ρ' => if g k then h ρ' else .err k ρ'
  | o => o
section
variable {X : Cx} {b : Bs} {W : WX} {x : Str} {c : Value} {body suite : List Stmt} {s0 : Stmt} {np pos pos' : Pos} {g : Nat → Bool} {f h : M Fl}
theorem s_tryO (hK : X.K = b.K) (hs : X.stack = X.env :: X.outer) (hf : X.env.frame = some X.env.locals) (hc : Names X x c) (tk : Takes X W) (E : Exs b c g) (hn : ∀ ρ k ρ', h ρ ≠ .err k ρ')
    (hb : ∀ (W' : WX) (pn : List (Addr × Obj)) (xe : Value → Shared → Prop), Takes (X.tr pn xe) W' → PassesOwn (model X.prog X.w) X.A X.env xe → PSs (X.tr pn xe) body (tS b W' f))
    (hsu : ∀ (a : Addr) (oe : Obj) (pn : List (Addr × Obj)), PSs (X.suite a ((a, oe) :: pn)) (s0 :: suite) (tS b W0 h)) :
    PS X (.Try body [.ExceptHandler (some (.Name x np)) none (s0 :: suite) pos'] [] [] pos) (tS b W (tryO g h f)) := by
  refine weakS (ps_try_only (tb := fun W' => tS b W' f) (ts := fun _ _ _ => tS b W0 h) hs hf hc tk hb (fun a oe _ _ pn _ _ => hsu a oe pn)) fun D σ H ⟨cc, G, ρ, hfn, S, q⟩ => ?_
  refine ⟨cc, G, ρ, hfn, S, ?_⟩
  unfold tryO at q
  cases e : f ρ with
  | bad => rw [e] at q; exact q
  | ok fl ρ1 =>
    rw [e] at q
    cases fl <;> exact q
  | err k ρ1 =>
    rw [e] at q
    have q : PostS b cc W G D (if g k = true then h ρ1 else .err k ρ1) := q
    intro σ1 H1 G1 e1 S1
    refine ⟨g k, by rw [hK]; exact E.is k, fun hg a ha => ?_, fun hg => ?_⟩
    · rw [if_pos hg] at q
      refine ⟨cc, G1, ρ1, hfn, S1, ?_⟩
      have q := PostS.mono e1 q
      cases e2 : h ρ1 with
      | bad => rw [e2] at q; exact q.elim
      | err k2 ρ2 => exact absurd e2 (hn _ _ _)
      | ok fl ρ2 =>
        rw [e2] at q
        cases fl <;> exact q
    · rw [if_neg (by rw [hg]; exact Bool.false_ne_true)] at q
      exact q σ1 H1 G1 e1 S1
end
/-! isinstance(e, C), e a slot that holds an exception -/
def rIsX (K : Fg) (cv : Value) (D : Addr) : List V → Hp → VK → Prop := fun xs H Q => ∃ (a : Addr) (t : V) (k : Bool), xs = [.ref a, t] ∧ (∀ u, RelV t u → u = cv) ∧ H a = some (exO D a) ∧ ExcC K D ∧ PySem.W.kitOne K (.ref D) cv = some k ∧ Q (.bl k) H
theorem c_isX {X : Cx} (cv : Value) : CallR X (.builtin "isinstance") (fun xs H Q => ∃ D, rIsX X.K cv D xs H Q) := by
  intro pins s σ H xs us Q I r h
  obtain ⟨D, a, t, k, rfl, hcv, hH, C, e, q⟩ := h
  obtain ⟨u1, u2, rfl, r1, r2⟩ := vals2 r
  cases r1
  have := hcv _ r2
  subst this
  obtain ⟨⟨oe, vs, h1, h2, h3⟩, _⟩ := (show ObjOk X.prog X.w H s.heap a (exO D a) from I.hok a _ hH)
  have J : PySem.W.InstAt s.heap a oe D none := by
    obtain ⟨oc, od, oda, osl⟩ := oe
    obtain ⟨h4, h5⟩ := h2
    dsimp only at h4 h5 h3
    subst h4 h5 h3
    exact ⟨h1, rfl, rfl, trivial⟩
  exact PySem.W.kia_one (PySem.W.handS_kitx_exc C.hg C.hk C.hs C.hd C.ha C.hn C.ht C.hm) I.kIn J e (fun z => nomatch z) fun tk => ⟨.bl k, H, I.kept (t' := tk) fun _ _ z => z, rfl, q⟩
structure Isi (b : Bs) (cv : Value) (g : Nat → Bool) : Prop where
  ex : ∀ k, ExcC b.K (b.C k)
  is : ∀ k, PySem.W.kitOne b.K (.ref (b.C k)) cv = some (g k)
def isiM (i : Nat) (g : Nat → Bool) : M Av := fun ρ => match ρ[i]? with
  | some (some (.ex k)) => .ok (.d (.bool (g k))) ρ
  | _ => .bad
section
variable {X : Cx} {b : Bs} {W : WX} {p1 p2 p3 pos : Pos} {x : Str} {e2 : Expr} {cv : Value} {v : V} {g : Nat → Bool}
theorem m_isi (hK : X.K = b.K) (i : Nat) (I : Isi b cv g) (ha : PE X (.Name x p2) (tVar i)) (hb : PE X e2 (tC v)) (hv : ∀ u, RelV v u → u = cv) (hg : Gl X "isinstance") (hm : X.mg "isinstance" = none)
    (hs : starEach [.Name x p2, e2] X.env = (false, eval (.Name x p2) X.env) :: starEach [e2] X.env := by rfl) (hs2 : starEach [e2] X.env = (false, eval e2 X.env) :: starEach [] X.env := by rfl) (hpl : (backTo pos (starEach [e2] X.env)).any (·.1) = false := by rfl) :
    PE X (.Call (.Name "isinstance" p1) [.Name x p2, e2] [] pos) (tE b W (isiM i g)) :=
  weakE (pe_callB (c_isX cv) hg hm (by decide +kernel) (pa_cons ha (pa_cons hb pa_nil hs2) hs) (by decide) (by decide) hs hpl) fun σ H Q ⟨c, G, ρ, S, q⟩ => by
    unfold isiM at q
    split at q
    · rename_i k hk
      obtain ⟨u, hu, a, rfl, r⟩ := S.sl i _ hk
      exact ⟨.ref a, hu, b.C k, a, v, g k, rfl, hv, S.gh _ _ r rfl, by rw [hK]; exact I.ex k, by rw [hK]; exact I.is k, q H G (Same.refl G) S _ (.bl _)⟩
    · exact q.elim
end
end G8
namespace G8
open PySem L2
/-! what the top leaves, by facts -/
def obsM (fa : List (Fg → Bool)) (fn : List He.DefD) (K : Fg) : He.AlD := ((fa.all fun f => f K) && fn.all fun d => d.ok K, fn.map fun d => He.fnW K d.at_)
def SaysM (fa : List (Fg → Bool)) (fn : List He.DefD) (K : Fg) : Prop := obsM fa fn K = He.valD fn
def obsMG (n : Nat) (fa : List (Fg → Bool)) (fn : List He.DefD) (g : Addr → Option Obj) : He.AlD := obsM fa fn (He.frG g (He.asD g n))
def hookM (n : Nat) (fa : List (Fg → Bool)) (fn : List He.DefD) : PySem.W.Hook where
  α := He.AlD
  obs := fun s => obsMG n fa fn s.heap.get?
  val := fun _ => He.valD fn
  says := fun _ h => ∃ K : Fg, K.In h ∧ SaysM fa fn K
  of := fun _ _ e => ⟨_, He.frG_in, e⟩
  keeps := fun _ _ _ ⟨K, h1, h2⟩ k => ⟨K, PySem.W.Frag.In.keeps h1 k, h2⟩
theorem obsMG_eq {n : Nat} {fa : List (Fg → Bool)} {fn : List He.DefD} {g : Addr → Option Obj} {s : Shared} (h : ∀ a, g a = s.heap.get? a) : obsMG n fa fn g = (hookM n fa fn).obs s := by
  rw [show g = s.heap.get? from funext h]
  rfl
section
variable {fa : List (Fg → Bool)} {fn : List He.DefD} {K : Fg}
theorem SaysM.fact (c : SaysM fa fn K) (i : Nat) {f : Fg → Bool} (h : fa[i]? = some f := by rfl) : f K = true := by
  have c1 : ((fa.all fun f => f K) && fn.all fun d => d.ok K) = true := congrArg Prod.fst c
  rw [Bool.and_eq_true, List.all_eq_true] at c1
  exact c1.1 f (List.mem_of_getElem? h)
theorem SaysM.def_ (c : SaysM fa fn K) (i : Nat) {d : He.DefD} (h : fn[i]? = some d := by rfl) : ∃ fd, FunD K d.name d.qual d.params d.body d.scope (d.dvs K) (d.kws K) (He.fAd K d.at_) fd := by
  have c1 : ((fa.all fun f => f K) && fn.all fun d => d.ok K) = true := congrArg Prod.fst c
  rw [Bool.and_eq_true, List.all_eq_true, List.all_eq_true] at c1
  have e : fn.map (fun d => He.fnW K d.at_) = fn.map He.DefD.val := congrArg Prod.snd c
  have e2 : (fn.map fun d => He.fnW K d.at_)[i]? = (fn.map He.DefD.val)[i]? := by rw [e]
  rw [List.getElem?_map, List.getElem?_map, h] at e2
  exact He.DefD.funD (Option.some.inj e2) (c1.2 d (List.mem_of_getElem? h))
end
/-! the eight refusals -/
def exName : Nat → Str
  | 0 => "BadRow"
  | 1 => "BadRoom"
  | 2 => "BadRule"
  | 3 => "BadPlan"
  | 4 => "BadDepths"
  | 5 => "BadTurns"
  | 6 => "BadAsk"
  | _ => "BadText"
def exC (K : Fg) (k : Nat) : Addr := He.ga K (exName k)
/-- the tables of code objects that the program's defs fill: that of most_held, where it is there -/
def lamAt : Fg → Addr × Addr := fun K => He.cT K ("most_held", none)
def tbs (K : Fg) : List (Addr × Str) := if He.Fa.ok K (.glo "most_held") then [((lamAt K).2, "most_held.<locals>.<lambda>")] else []
abbrev bs (K : Fg) : Bs := ⟨K, exC K, tbs K, He.ga K "Meter"⟩
def eqOV (a b : Option (Option Value)) : Bool := He.eqO a b
/-- what is looked at of one of them -/
def fExc (k : Nat) (K : Fg) : Bool := He.Fa.ok K (.exc (exName k)) && (He.Fa.ok K (.glo (exName k)) && (PySem.W.hasDictIn K (exC K k) && (He.eqO (PySem.W.findIn K (.ref (exC K k)) "__getattribute__") (some (some (.builtin "BaseException.__getattribute__"))) &&
  (He.eqO (PySem.W.findIn K (.ref (exC K k)) "__getattr__") (some none) && (He.eqO (PySem.W.findIn K (.ref (exC K k)) "__class__") (some (some (.builtin "object.__class__"))) && (He.eqO (PySem.W.specialIn K (.builtin "object.__class__") "__get__") (some (some (.builtin "getset_descriptor.__get__"))) &&
  (decide (PySem.W.takesIn K (.builtin "object.__class__") = some true) && decide (PySem.W.mroIn K (exC K k) (.type "object") = some true))))))))
theorem fExc_c {k : Nat} {K : Fg} (h : fExc k K = true) : ExcC K (exC K k) := by
  obtain ⟨h1, h⟩ := He.ba h
  obtain ⟨h2, h⟩ := He.ba h
  obtain ⟨h3, h⟩ := He.ba h
  obtain ⟨h4, h⟩ := He.ba h
  obtain ⟨h5, h⟩ := He.ba h
  obtain ⟨h6, h⟩ := He.ba h
  obtain ⟨h7, h⟩ := He.ba h
  obtain ⟨h8, h9⟩ := He.ba h
  exact ⟨He.eqO_ok h4, He.eqO_ok h5, (He.exc_ok h1).2.2.1, h3, He.eqO_ok h6, He.eqO_ok h7, of_decide_eq_true h8, of_decide_eq_true h9⟩
structure ExFact (K : Fg) (mg : Str → Option Value) (k : Nat) : Prop where
  exc : PySem.W.excIn K (exC K k) He.veBase "ValueError.__new__" = true
  kp : PySem.W.keepIn K (.ref (exC K k)) = true
  sub : PySem.W.subIn K (.ref (exC K k)) (.type "BaseException") = some true
  ty : PySem.W.typeIn K (.ref (exC K k)) = some (.type "type")
  g : mg (exName k) = some (.ref (exC K k))
  c : ExcC K (exC K k)
theorem exFact {K : Fg} {h : Heap} {mg : Str → Option Value} (X : K.In h) (G : h.Ns mainGlobals mg) {k : Nat} (f : fExc k K = true) : ExFact K mg k := by
  obtain ⟨h1, h2⟩ := He.ba f
  obtain ⟨h3, _⟩ := He.ba h2
  obtain ⟨e1, e2, e3, e4⟩ := He.exc_ok h1
  exact ⟨e1, e2, e3, e4, He.glo_ok X G h3, fExc_c f⟩
/-- all eight -/
def fAll (K : Fg) : Bool := (List.range 8).all fun k => fExc k K
theorem exC_ge {K : Fg} {k : Nat} (h : 7 ≤ k) : exC K k = exC K 7 := by
  unfold exC
  match k, h with
  | 7, _ => rfl
  | n + 8, _ => rfl
theorem exName_ge {k : Nat} (h : 7 ≤ k) : exName k = exName 7 := by
  match k, h with
  | 7, _ => rfl
  | n + 8, _ => rfl
theorem fAll_of {K : Fg} (h : fAll K = true) (k : Nat) : fExc k K = true := by
  unfold fAll at h
  rw [List.all_eq_true] at h
  by_cases hk : k < 8
  · exact h k (List.mem_range.mpr hk)
  · have := h 7 (List.mem_range.mpr (by decide))
    unfold fExc at this ⊢
    rw [exC_ge (K := K) (k := k) (by omega), exName_ge (k := k) (by omega)]
    exact this
/-- isinstance and except against one of them, or ValueError, RoomError -/
def fKit (cv : Fg → Value) (g : Nat → Bool) (K : Fg) : Bool := (List.range 8).all fun k => decide (PySem.W.kitOne K (.ref (exC K k)) (cv K) = some (g k))
def fExm (cv : Fg → Value) (g : Nat → Bool) (K : Fg) : Bool := (List.range 8).all fun k => decide (PySem.W.exmOne K (.ref (exC K k)) (cv K) = some (g k))
def is8 (j k : Nat) : Bool := decide (min k 7 = j)
theorem all8 {p : Nat → Bool} (h : ((List.range 8).all p) = true) (hs : ∀ k, 7 ≤ k → p k = p 7) (k : Nat) : p k = true := by
  rw [List.all_eq_true] at h
  by_cases hk : k < 8
  · exact h k (List.mem_range.mpr hk)
  · rw [hs k (by omega)]
    exact h 7 (List.mem_range.mpr (by decide))
theorem fKit_of {K : Fg} {cv : Fg → Value} {g : Nat → Bool} (hg : ∀ k, 7 ≤ k → g k = g 7) (ha : fAll K = true) (h : fKit cv g K = true) : Isi (bs K) (cv K) g :=
  ⟨fun k => fExc_c (fAll_of ha k), fun k => of_decide_eq_true (all8 h (fun k hk => by rw [exC_ge hk, hg k hk]) k)⟩
theorem fExm_of {K : Fg} {cv : Fg → Value} {g : Nat → Bool} (hg : ∀ k, 7 ≤ k → g k = g 7) (h : fExm cv g K = true) : Exs (bs K) (cv K) g :=
  ⟨fun k => of_decide_eq_true (all8 h (fun k hk => by rw [exC_ge hk, hg k hk]) k)⟩
theorem is8_ge (j : Nat) : ∀ k, 7 ≤ k → is8 j k = is8 j 7 := fun k hk => by
  unfold is8
  rw [Nat.min_eq_right hk]
  rfl
/-! constants of the top -/
section
variable {X : Cx} {b : Bs} {W : WX} {x : Str} {pos : Pos}
theorem m_gint {i : Int} (hg : Gl X x) (hm : ∃ t, X.mg x = some (.int i t)) (hd : (x == ("__debug__" : Str)) = false := by decide) : PE X (.Name x pos) (tE b W (retM (.d (.int i)))) := by
  obtain ⟨t, ht⟩ := hm
  exact m_const (pe_glob (v := .int i) hg ht ⟨_, rfl⟩ hd) fun _ _ => .int i
theorem m_gstr {i : Str} (hg : Gl X x) (hm : ∃ t, X.mg x = some (.str i t)) (hd : (x == ("__debug__" : Str)) = false := by decide) : PE X (.Name x pos) (tE b W (retM (.d (.str i)))) := by
  obtain ⟨t, ht⟩ := hm
  exact m_const (pe_glob (v := .str i) hg ht ⟨_, rfl⟩ hd) fun _ _ => .str i
/-- a tuple of texts of the top -/
theorem m_gtup {ss : List Str} {a : Addr} (hg : Gl X x) (hm : X.mg x = some (.ref a)) (ht : ∀ H, SqT b.K H a (ss.map V.str)) (hd : (x == ("__debug__" : Str)) = false := by decide) (hn : ss.isEmpty = false := by rfl) : PE X (.Name x pos) (tE b W (retM (.d (.tuple (ss.map PyData.str))))) := by
  refine weakE (pe_glob (v := .ref a) hg hm rfl hd) fun σ H Q ⟨c, G, ρ, S, q⟩ => q.ret S (.ref a) (.tup (.inr ⟨ht _, by cases ss with | nil => cases hn | cons y ys => exact ⟨y, _, rfl⟩⟩) ?_)
  induction ss with
  | nil => exact .nil
  | cons s ss ih => exact .cons (.str s) (ih' ss)
where ih' {K : Fg} {G : Hp} : ∀ ss : List Str, Rps K G (ss.map V.str) (ss.map PyData.str)
  | [] => .nil
  | s :: ss => .cons (.str s) (ih' ss)
theorem s_raiseX {m : Str} {j k : Nat} {K : Fg} {p1 p2 p3 : Pos} (hK : X.K = K) (f : ExFact K X.mg k) (hx : exName k = x) (hg : Gl X x) (hc : X.calm = true) (tk : Takes X W) (hd : (x == ("__debug__" : Str)) = false := by decide) :
    PS X (.Raise (some (.Call (.Name x p1) [.Constant (.str m) j p2] [] p3)) none pos) (tS (bs K) W (raiseM k)) := by
  subst hx
  subst hK
  exact s_raise k hc tk (pmk_own PySem.F.excBase_ValueError f.exc f.g f.kp (raises_own f.sub f.ty) hg hd)
end
end G8
namespace G8
open PySem L2
/-! the end of a law -/
def spLaw (K : Fg) : Sp := fun vs H Q _ => ∃ (a : Addr) (ns : List Int), vs = [.ref a] ∧ ns.length ≤ 63 ∧ SqL K H a (ns.map V.int) ∧ (∀ p ∈ tbs K, H p.1 = some (.tbl #[])) ∧ ∀ H', Q (.bl true) H'
def Keeps (F : Fn) : Prop := ∀ ns : List Int, ns.length ≤ 63 → ∃ ρ, F [.scr ns] = .ok (.d (.bool true)) ρ
def noTab (H : Hp) : Hp := fun b => match H b with
  | some (.tbl _) => none
  | some (.rng _ _) => none
  | x => x
theorem noTab_same (H : Hp) : Same (noTab H) H := fun b o e => by
  unfold noTab at e
  split at e
  · cases e
  · cases e
  · exact e
theorem noTab_mk {H : Hp} {b : Addr} (h : Mk (noTab H) b) : False := by
  obtain ⟨o, h1, h2⟩ := h
  unfold noTab at h1
  split at h1
  · cases h1
  · cases h1
  · rename_i n1 n2
    cases o <;> first | exact n2 _ _ h1 | cases h2
theorem noTab_keep {H : Hp} {b : Addr} {o : HO} (e : H b = some o) (n : ∀ ps, o ≠ .tbl ps) (n2 : isMk o = false := by rfl) : noTab H b = some o := by
  unfold noTab
  split
  · rename_i ps h
    rw [e] at h
    exact absurd (Option.some.inj h) (n ps)
  · rename_i lo hi h
    rw [e] at h
    cases h
    cases n2
  · exact e
theorem sqL_noTab {K : Fg} {H : Hp} {a : Addr} {xs : List V} (h : SqL K H a xs) : SqL K (noTab H) a xs := by
  rcases h with (h | ⟨o, h⟩) | h
  · exact .inl (.inl (noTab_keep h fun _ z => by cases z))
  · exact .inl (.inr ⟨o, noTab_keep h fun _ z => by cases z⟩)
  · exact .inr h
theorem sig_scr {b : Bs} {H : Hp} {a : Addr} {ns : List Int} (h : SqL b.K H a (ns.map V.int)) (hT : ∀ p ∈ b.T, H p.1 = some (.tbl #[])) : SIG b (ctx0 (noTab H) H [.scr ns] [.ref a]) (noTab H) (svsE [.scr ns]) (vsE [.ref a]) H := by
  have one : ∀ {i : Nat} {sv : Sv}, (svsE [.scr ns])[i]? = some (some sv) → i = 0 ∧ sv = .scr ns := fun {i sv} e => by
    cases i with
    | zero => simp [svsE] at e; exact ⟨rfl, e.symm⟩
    | succ i => simp [svsE] at e
  have nr : ∀ i p f, (i, p, f) ∉ (ctx0 (noTab H) H [.scr ns] [.ref a]).refs := fun i p f m => by
    revert m
    simp [ctx0, inner, svsE, vsE, refsOf, Sv.own]
  refine ⟨rfl, Same.refl _, sg (noTab_same H), fun a m => (noTab_mk m).elim, fun a o e _ _ _ => e, fun a o e => .inl e, fun i sv e => ?_, fun i j si sj p e1 _ o1 => ?_, fun i si p e1 o1 => ?_, fun i p f m => (nr i p f m).elim, fun p hp => LamX.TabS.nil (hT p hp), fun p hp => ⟨?_, _, hT p hp⟩, fun i r m p h1 _ => ?_, fun i j si sj h1 _ g1 _ => ?_, fun a z => ?_, fun i p f s m => (nr i p f m).elim⟩
  case refine_5 =>
    cases (one h1).2
  case refine_6 =>
    rw [(one h1).2] at g1
    cases g1
  case refine_7 =>
    obtain ⟨i, r, m, p, C, m', Z, h1, _⟩ := z
    cases (one h1).2
  · obtain ⟨rfl, rfl⟩ := one e
    exact ⟨.ref a, rfl, a, rfl, sqL_noTab h⟩
  · obtain ⟨rfl, rfl⟩ := one e1
    cases o1
  · obtain ⟨rfl, rfl⟩ := one e1
    cases o1
  · show noTab H p.1 = none
    unfold noTab
    rw [hT p hp]
theorem law_end {P : Program} {w : World} {K : Fg} {mg : Str → Option Value} {base : Heap} {k : Nat} {f : Addr} {fd : FuncData} {F : Fn} (hF : Keeps F)
    (FN : FnOk P w K mg base (L2.CX P w) k f fd ["script"] (spF (bs K) 1 F)) : FnOk P w K mg base CX0 k f fd ["script"] (spLaw K) := by
  refine ⟨fun vs H Q E ⟨a, ns, e, _⟩ => by rw [e]; rfl, fun A outer s H args us vs Q E hr he hb hv ⟨a, ns, e, hl, hs, hT, hq⟩ => ?_⟩
  subst e
  obtain ⟨ρ, hρ⟩ := hF ns hl
  refine PySem.codeAny_mono (FN.run A outer s H args us [.ref a] Q (fun _ _ _ => False) hr he hb hv ⟨noTab H, [.scr ns], rfl, sig_scr hs hT, fun s m o => ?_, ?_⟩) fun r s' h => ?_
  · rcases List.mem_singleton.mp m with rfl
    cases o
  · rw [hρ]
    intro v H' G' S r
    have r : Rp K G' v (.bool true) := r
    cases r
    exact hq H'
  · cases r with
    | ok u => cases u <;> exact h
    | error e =>
      obtain ⟨_, _, _, _, _, _, _, _, _, _, _, _, z⟩ := h
      exact z
theorem tbs_nil {K : Fg} (h : (!He.Fa.ok K (.glo "most_held")) = true) : tbs K = [] := by
  unfold tbs
  rw [if_neg (by simpa using h)]
theorem tbs_one {K : Fg} (h : He.Fa.ok K (.glo "most_held") = true) : tbs K = [((lamAt K).2, ("most_held.<locals>.<lambda>" : Str))] := by
  unfold tbs
  rw [if_pos h]
/-! the top with the table of most_held, empty and left out -/
def lamTf : List He.Defn := [("most_held", none)]
def SaysL (fa : List (Fg → Bool)) (fn : List He.DefD) (h : Heap) (K : Fg) : Prop := SaysM fa fn K ∧ PySem.W.codeHdIn K (lamAt K).1 (lamAt K).2 = true ∧ K.lookup (lamAt K).2 = none ∧ h.get? (lamAt K).2 = some { cls := .none, data := .fields #[] }
def obsL (n : Nat) (fa : List (Fg → Bool)) (fn : List He.DefD) (g : Addr → Option Obj) : He.AlD × Bool := (obsM fa fn (He.frT g (He.asD g n)), He.tabsB g lamTf (He.frT g (He.asD g n)))
theorem saysL_of {n : Nat} {fa : List (Fg → Bool)} {fn : List He.DefD} {h : Heap} (e : obsL n fa fn h.get? = (He.valD fn, true)) : SaysL fa fn h (He.frT h.get? (He.asD h.get? n)) := by
  have e1 : obsM fa fn (He.frT h.get? (He.asD h.get? n)) = He.valD fn := congrArg Prod.fst e
  have e2 : He.tabsB h.get? lamTf (He.frT h.get? (He.asD h.get? n)) = true := congrArg Prod.snd e
  obtain ⟨h3, h4⟩ := He.ba (List.all_eq_true.mp e2 ("most_held", none) (List.mem_singleton.mpr rfl))
  refine ⟨e1, h3, ?_⟩
  cases q : h.get? (He.cT (He.frT h.get? (He.asD h.get? n)) ("most_held", none)).2 with
  | none =>
    rw [q] at h4
    cases h4
  | some o =>
    rw [q] at h4
    refine ⟨He.frT_none q h4, ?_⟩
    show h.get? (He.cT (He.frT h.get? (He.asD h.get? n)) ("most_held", none)).2 = _
    rw [q, He.emptyTab_eq h4]
def hookL (n : Nat) (fa : List (Fg → Bool)) (fn : List He.DefD) : PySem.W.Hook where
  α := He.AlD × Bool
  obs := fun s => obsL n fa fn s.heap.get?
  val := fun _ => (He.valD fn, true)
  says := fun _ h => ∃ K : Fg, K.In h ∧ SaysL fa fn h K
  of := fun _ _ e => ⟨_, He.frT_in, saysL_of e⟩
  keeps := fun _ _ _ ⟨K, h1, h2, h3, h4, h5⟩ k => ⟨K, PySem.W.Frag.In.keeps h1 k, h2, h3, h4, k _ _ h5⟩
theorem obsL_eq {n : Nat} {fa : List (Fg → Bool)} {fn : List He.DefD} {g : Addr → Option Obj} {s : Shared} (h : ∀ a, g a = s.heap.get? a) : obsL n fa fn g = (hookL n fa fn).obs s := by
  rw [show g = s.heap.get? from funext h]
  rfl
/-! the draws: one number of a script, from 0 to less than many -/
def cellI (ns : List Int) (k : Nat) : Int := if ns.isEmpty then 0 else ns.getD (k % ns.length) 0
def mixI (ns : List Int) (k : Nat) : Int :=
  let a := (cellI ns k + 104729 * ((k : Int) + 1)) % 4294967291
  let b := a ^ 5 % 4294967279
  (b / 64 * 69621 + b) % 4294967231
def drw (ns : List Int) (k : Nat) (m : Int) : Int := mixI ns k / 8 % m
theorem drw_lo (ns : List Int) (k : Nat) {m : Int} (h : 0 < m) : 0 ≤ drw ns k m := Int.emod_nonneg _ (by omega)
theorem drw_hi (ns : List Int) (k : Nat) {m : Int} (h : 0 < m) : drw ns k m < m := Int.emod_lt_of_pos _ h
def fcell : M Fl :=
    (seqM (ifM (testM (varM 0)) (retS (dataM (ixS 0 (frzM (bin2 modD (varM 1) (lenM (varM 0))))))) (retM .nx))
    (retS (dataM (retM (.d (.int 0))))))
def Fcell : Fn := bodyF 2 fcell
def fmix : M Fl :=
    (seqM (setM 2 (bin2 modD (frzM (bin2 addD (frzM (callM 2 Fcell (consM (varM 0) (consM (varM 1) (retM []))))) (frzM (bin2 mulD (retM (.d (.int 104729))) (frzM (bin2 addD (varM 1) (retM (.d (.int 1))))))))) (retM (.d (.int 4294967291)))))
    (seqM (setM 2 (bin2 modD (frzM (bin2 powD (varM 2) (retM (.d (.int 5))))) (retM (.d (.int 4294967279)))))
    (retS (bin2 modD (frzM (bin2 addD (frzM (bin2 mulD (frzM (bin2 fdivD (varM 2) (retM (.d (.int 64))))) (retM (.d (.int 69621))))) (varM 2))) (retM (.d (.int 4294967231)))))))
def Fmix : Fn := bodyF 3 fmix
def fdraw : M Fl :=
    (seqM (exprS (mutM 1 appD (consM (retM (.d (.int 0))) (retM []))))
    (retS (bin2 modD (frzM (bin2 fdivD (frzM (callM 2 Fmix (consM (varM 0) (consM (lenM (varM 1)) (retM []))))) (retM (.d (.int 8))))) (varM 2))))
def Fdraw : Fn := bodyF 3 fdraw
/-! what the parts do, one by one -/
@[simp] theorem bindM_ap {α β : Type} (f : M α) (g : α → M β) (ρ : Ev) : bindM f g ρ = (match f ρ with
  | .ok a ρ' => g a ρ'
  | .err k ρ' => .err k ρ'
  | .bad => .bad) := rfl
@[simp] theorem retM_ap {α : Type} (a : α) (ρ : Ev) : retM a ρ = .ok a ρ := rfl
@[simp] theorem badM_ap {α : Type} (ρ : Ev) : (badM : M α) ρ = .bad := rfl
@[simp] theorem optM_ap {α : Type} (g : Ev → Option α) (ρ : Ev) : optM g ρ = (match g ρ with
  | some a => .ok a ρ
  | none => .bad) := rfl
@[simp] theorem varM_ap (i : Nat) (ρ : Ev) : varM i ρ = (match ρ[i]? with
  | some (some _) => .ok (.s i) ρ
  | _ => .bad) := rfl
@[simp] theorem frzM_ap (f : M Rv) (ρ : Ev) : frzM f ρ = (match f ρ with
  | .ok (.d x) ρ' => .ok (.d x) ρ'
  | .ok (.l xs) ρ' => .ok (.d (.list xs)) ρ'
  | .ok _ _ => .bad
  | .err k ρ' => .err k ρ'
  | .bad => .bad) := by
  unfold frzM bindM
  cases f ρ with
  | ok r ρ' => cases r <;> rfl
  | err k ρ' => rfl
  | bad => rfl
@[simp] theorem dataM_ap (f : M Av) (ρ : Ev) : dataM f ρ = bindM f (fun a => optM fun ρ => (fzv ρ a).map Rv.d) ρ := rfl
@[simp] theorem bin2_ap (g : Dt → Dt → Option Rv) (fa fb : M Av) (ρ : Ev) : bin2 g fa fb ρ = bindM fa (fun a => bindM fb fun b => optM fun ρ => (res ρ a).bind fun x => (res ρ b).bind fun y => g x y) ρ := rfl
@[simp] theorem un1_ap (g : Dt → Option Rv) (fa : M Av) (ρ : Ev) : un1 g fa ρ = bindM fa (fun a => optM fun ρ => (res ρ a).bind g) ρ := rfl
@[simp] theorem testM_ap (fa : M Av) (ρ : Ev) : testM fa ρ = bindM fa (fun a => optM fun ρ => tru ρ a) ρ := rfl
@[simp] theorem notM_ap (fa : M Bool) (ρ : Ev) : notM fa ρ = bindM fa (fun b => retM (!b)) ρ := rfl
@[simp] theorem notV_ap (fa : M Av) (ρ : Ev) : notV fa ρ = bindM (testM fa) (fun b => retM (.d (.bool (!b)))) ρ := rfl
@[simp] theorem consM_ap (fe : M Av) (fs : M (List Av)) (ρ : Ev) : consM fe fs ρ = bindM fe (fun a => bindM fs fun as => retM (a :: as)) ρ := rfl
@[simp] theorem lstM_ap (fl : M (List Av)) (ρ : Ev) : lstM fl ρ = bindM fl (fun as => optM fun ρ => if as.length ≤ 1000 then (fzs ρ as).map Rv.l else none) ρ := rfl
@[simp] theorem tupM_ap (fl : M (List Av)) (ρ : Ev) : tupM fl ρ = bindM fl (fun as => bindM (optM fun ρ => if as.length ≤ 1000 then fzs ρ as else none) fun xs => retM (.d (.tuple xs))) ρ := rfl
@[simp] theorem putM_ap (i : Nat) (s : Option Sv) (ρ : Ev) : putM i s ρ = if refAt ρ[i]? then .bad else .ok () (ρ.set i s) := rfl
@[simp] theorem setM_ap (i : Nat) (f : M Rv) (ρ : Ev) : setM i f ρ = bindM f (fun r => bindM (putM i (some r.sv)) fun _ => retM .nx) ρ := rfl
@[simp] theorem retS_ap (f : M Rv) (ρ : Ev) : retS f ρ = bindM f (fun r => retM (.rt r)) ρ := rfl
@[simp] theorem retO_ap (i : Nat) (ρ : Ev) : retO i ρ = bindM (optM fun ρ => slotR ρ[i]?) (fun r => retM (.rt r)) ρ := rfl
@[simp] theorem withS_ap {α : Type} (i : Nat) (f : M α) (ρ : Ev) : withS i f ρ = bindM (shareM i) (fun _ => f) ρ := rfl
@[simp] theorem putD_ap (i : Nat) (d : Dt) (ρ : Ev) : putD i d ρ = if ownAt ρ[i]? then .bad else .ok () (ρ.set i (some (.d d))) := rfl
@[simp] theorem asgM_ap (fe : M Av) (t : Tgt) (ρ : Ev) : asgM fe t ρ = bindM fe (fun a => bindM (optM fun ρ => fzv ρ a) fun d => bindM (putT t d) fun _ => retM .nx) ρ := rfl
@[simp] theorem itM_ap (fa : M Av) (ρ : Ev) : itM fa ρ = bindM fa (fun a => optM fun ρ => (fzv ρ a).bind seqOf) ρ := rfl
@[simp] theorem itT_ap (fa : M Av) (ρ : Ev) : itT fa ρ = bindM fa (fun a => optM fun ρ => (fzv ρ a).bind tupOf) ρ := rfl
@[simp] theorem rg1_ap (fl : M (List Av)) (ρ : Ev) : rg1 fl ρ = bindM fl (fun as => optM fun ρ => (fzs ρ as).bind fun xs => (int1 xs).bind fun j => if mid j then some (rangeD 0 j.toNat) else none) ρ := rfl
@[simp] theorem rg2_ap (fl : M (List Av)) (ρ : Ev) : rg2 fl ρ = bindM fl (fun as => optM fun ρ => (fzs ρ as).bind fun xs => (int2 xs).bind fun q => if mid q.1 && mid q.2 then some (rangeD q.1 (q.2 - q.1).toNat) else none) ρ := rfl
@[simp] theorem rg3_ap (fl : M (List Av)) (ρ : Ev) : rg3 fl ρ = bindM fl (fun as => optM fun ρ => (fzs ρ as).bind fun xs => (int3 xs).bind fun q => if mid q.1 && mid q.2.1 && decide (q.2.2 = -1) then some (rangeC q.1 (-1) (q.1 - q.2.1).toNat) else none) ρ := rfl
@[simp] theorem forM_ap (fi : M (List Dt)) (t : Tgt) (body : M Fl) (ρ : Ev) : forM fi t body ρ = bindM fi (fun ds => forL t body ds) ρ := rfl
@[simp] theorem lcM_ap (fi : M (List Dt)) (t : Tgt) (ft : M Bool) (fe : M Av) (ρ : Ev) : lcM fi t ft fe ρ = bindM fi (fun ds => bindM (compL t ft fe ds []) fun xs => retM (.l xs)) ρ := rfl
@[simp] theorem callM_ap (n : Nat) (F : Fn) (fl : M (List Av)) (ρ : Ev) : callM n F fl ρ = bindM fl (fun as => callF n F as) ρ := rfl
@[simp] theorem cmpM_ap (g : Dt → Dt → Option Bool) (fa fb : M Av) (ρ : Ev) : cmpM g fa fb ρ = bindM fa (fun a => bindM fb fun b => optM fun ρ => (res ρ a).bind fun x => (res ρ b).bind fun y => (g x y).map fun z => .d (.bool z)) ρ := rfl
@[simp] theorem cmpT_ap (g : Dt → Dt → Option Bool) (fa fb : M Av) (ρ : Ev) : cmpT g fa fb ρ = bindM fa (fun a => bindM fb fun b => optM fun ρ => (res ρ a).bind fun x => (res ρ b).bind fun y => g x y) ρ := rfl
@[simp] theorem isN_ap (n : Bool) (fa : M Av) (ρ : Ev) : isN n fa ρ = bindM fa (fun a => optM fun ρ => (nonA ρ a).map fun k => .d (.bool (if n then !k else k))) ρ := rfl
@[simp] theorem isNT_ap (n : Bool) (fa : M Av) (ρ : Ev) : isNT n fa ρ = bindM fa (fun a => optM fun ρ => (nonA ρ a).map fun k => if n then !k else k) ρ := rfl
@[simp] theorem partN_ap  (ρ : Ev) : partN ρ = .ok none ρ := rfl
@[simp] theorem partS_ap (f : M Av) (ρ : Ev) : partS f ρ = bindM f (fun a => optM fun ρ => match res ρ a with
  | some (.int i) => some (some i)
  | _ => none) ρ := rfl
@[simp] theorem sliceM_ap (fa : M Av) (fl fh : M (Option Int)) (ρ : Ev) : sliceM fa fl fh ρ = bindM fa (fun a => bindM fl fun lo => bindM fh fun hi => optM fun ρ => (res ρ a).bind fun x => slD x lo hi) ρ := rfl
@[simp] theorem biM_ap (g : List Dt → Option Rv) (fl : M (List Av)) (ρ : Ev) : biM g fl ρ = bindM fl (fun as => optM fun ρ => (ress ρ as).bind g) ρ := rfl
@[simp] theorem lenM_ap (fa : M Av) (ρ : Ev) : lenM fa ρ = bindM fa (fun a => optM fun ρ => (lenA ρ a).map fun (n : Nat) => Av.d (.int (n : Int))) ρ := rfl
@[simp] theorem meM_ap (g : Dt → List Dt → Option Dt) (fo : M Av) (fl : M (List Av)) (ρ : Ev) : meM g fo fl ρ = bindM fo (fun o => bindM (optM fun ρ => (res ρ o).bind isL) fun _ => bindM fl fun as => optM fun ρ => (res ρ o).bind fun x => (ress ρ as).bind fun ds => (g x ds).map Av.d) ρ := rfl
@[simp] theorem exprS_ap (f : M Rv) (ρ : Ev) : exprS f ρ = bindM f (fun _ => retM .nx) ρ := rfl
@[simp] theorem raiseM_ap {α : Type} (k : Nat) (ρ : Ev) : (raiseM k : M α) ρ = .err k ρ := rfl
@[simp] theorem andM_ap (fa fb : M Bool) (ρ : Ev) : andM fa fb ρ = (match fa ρ with
  | .ok true ρ' => fb ρ'
  | .ok false ρ' => .ok false ρ'
  | .err k ρ' => .err k ρ'
  | .bad => .bad) := by
  unfold andM bindM
  cases fa ρ with
  | ok b ρ' => cases b <;> rfl
  | err k ρ' => rfl
  | bad => rfl
@[simp] theorem orM_ap (fa fb : M Bool) (ρ : Ev) : orM fa fb ρ = (match fa ρ with
  | .ok true ρ' => .ok true ρ'
  | .ok false ρ' => fb ρ'
  | .err k ρ' => .err k ρ'
  | .bad => .bad) := by
  unfold orM bindM
  cases fa ρ with
  | ok b ρ' => cases b <;> rfl
  | err k ρ' => rfl
  | bad => rfl
@[simp] theorem ifM_ap {α : Type} (ft : M Bool) (fa fb : M α) (ρ : Ev) : ifM ft fa fb ρ = (match ft ρ with
  | .ok true ρ' => fa ρ'
  | .ok false ρ' => fb ρ'
  | .err k ρ' => .err k ρ'
  | .bad => .bad) := by
  unfold ifM bindM
  cases ft ρ with
  | ok b ρ' => cases b <;> rfl
  | err k ρ' => rfl
  | bad => rfl
@[simp] theorem andV_ap (fa fb : M Av) (ρ : Ev) : andV fa fb ρ = (match fa ρ with
  | .ok a ρ' => (match tru ρ' a with
    | some true => fb ρ'
    | some false => .ok a ρ'
    | none => .bad)
  | .err k ρ' => .err k ρ'
  | .bad => .bad) := by
  unfold andV
  simp only [bindM_ap, optM_ap]
  cases fa ρ with
  | ok b ρ' =>
    dsimp only
    cases tru ρ' b with
    | none => rfl
    | some k => cases k <;> rfl
  | err k ρ' => rfl
  | bad => rfl
@[simp] theorem orV_ap (fa fb : M Av) (ρ : Ev) : orV fa fb ρ = (match fa ρ with
  | .ok a ρ' => (match tru ρ' a with
    | some true => .ok a ρ'
    | some false => fb ρ'
    | none => .bad)
  | .err k ρ' => .err k ρ'
  | .bad => .bad) := by
  unfold orV
  simp only [bindM_ap, optM_ap]
  cases fa ρ with
  | ok b ρ' =>
    dsimp only
    cases tru ρ' b with
    | none => rfl
    | some k => cases k <;> rfl
  | err k ρ' => rfl
  | bad => rfl
@[simp] theorem seqM_ap (f g : M Fl) (ρ : Ev) : seqM f g ρ = (match f ρ with
  | .ok .nx ρ' => g ρ'
  | o => o) := rfl
@[simp] theorem shareM_ap (i : Nat) (ρ : Ev) : shareM i ρ = (match ρ[i]? with
  | some (some (.ls false xs)) => .ok () (ρ.set i (some (.d (.list xs))))
  | some (some (.d _)) => .ok () ρ
  | _ => .bad) := rfl
@[simp] theorem putT_one (i : Nat) (d : Dt) : putT (.one i) d = putD i d := rfl
@[simp] theorem putT_tup (is : List Nat) (ds : List Dt) : putT (.tup is) (.tuple ds) = putDs is ds := rfl
@[simp] theorem putDs_nil (ρ : Ev) : putDs [] [] ρ = .ok () ρ := rfl
@[simp] theorem putDs_cons (i : Nat) (is : List Nat) (d : Dt) (ds : List Dt) (ρ : Ev) : putDs (i :: is) (d :: ds) ρ = bindM (putD i d) (fun _ => putDs is ds) ρ := rfl
@[simp] theorem chainT_ap (g g' : Dt → Dt → Option Bool) (fa fb fc : M Av) (ρ : Ev) : chainT g g' fa fb fc ρ = bindM fa (fun a => bindM fb fun b => bindM (optM fun ρ => (res ρ a).bind fun x => (res ρ b).bind fun y => g x y) fun k =>
    if k then bindM fc (fun z => optM fun ρ => (res ρ b).bind fun y => (res ρ z).bind fun w => g' y w) else retM false) ρ := by
  unfold chainT chainM
  simp only [bindM_ap]
  cases fa ρ with
  | err k ρ' => rfl
  | bad => rfl
  | ok a ρ1 =>
    dsimp only
    cases fb ρ1 with
    | err k ρ' => rfl
    | bad => rfl
    | ok b ρ2 =>
      simp only [optM_ap]
      cases ((res ρ2 a).bind fun x => (res ρ2 b).bind fun y => g x y) with
      | none => rfl
      | some k =>
        cases k with
        | false => rfl
        | true =>
          simp only [bindM_ap, optM_ap, if_true]
          cases fc ρ2 with
          | err k ρ' => rfl
          | bad => rfl
          | ok c ρ3 =>
            dsimp only
            cases res ρ3 b with
            | none => rfl
            | some y =>
              cases res ρ3 c with
              | none => rfl
              | some w =>
                simp only [Option.bind_some]
                cases g' y w <;> rfl
@[simp] theorem chainM_ap (g g' : Dt → Dt → Option Bool) (fa fb fc : M Av) (ρ : Ev) : chainM g g' fa fb fc ρ = bindM fa (fun a => bindM fb fun b => bindM (optM fun ρ => (res ρ a).bind fun x => (res ρ b).bind fun y => g x y) fun k =>
    if k then bindM fc (fun z => optM fun ρ => (res ρ b).bind fun y => (res ρ z).bind fun w => (g' y w).map fun t => .d (.bool t)) else retM (.d (.bool false))) ρ := by
  unfold chainM
  simp only [bindM_ap]
  cases fa ρ with
  | err k ρ' => rfl
  | bad => rfl
  | ok a ρ1 =>
    dsimp only
    cases fb ρ1 with
    | err k ρ' => rfl
    | bad => rfl
    | ok b ρ2 =>
      simp only [optM_ap]
      cases ((res ρ2 a).bind fun x => (res ρ2 b).bind fun y => g x y) with
      | none => rfl
      | some k => cases k <;> rfl
@[simp] theorem ixS_ap (i : Nat) (fb : M Av) (ρ : Ev) : ixS i fb ρ = bindM (varM i) (fun _ => bindM fb fun a => optM fun ρ => match ρ[i]?, res ρ a with
  | some (some (.scr ns)), some (.int k) => (atI ns k).map fun z => .d (.int z)
  | _, _ => none) ρ := rfl
@[simp] theorem mutM_ap (i : Nat) (g : List Dt → List Dt → Option (Dt × List Dt)) (fl : M (List Av)) (ρ : Ev) : mutM i g fl ρ = bindM (optM fun ρ => slotL ρ[i]?) (fun _ => bindM fl fun as ρ => match slotL ρ[i]?, fzs ρ as with
  | some (r, xs), some ds => (match g xs ds with
    | some (y, ys) => .ok (.d y) (ρ.set i (some (.ls r ys)))
    | none => .bad)
  | _, _ => .bad) ρ := rfl
@[simp] theorem setIt_ap (i : Nat) (fe fk : M Av) (ρ : Ev) : setIt i fe fk ρ = bindM fe (fun a => bindM (optM fun ρ => slotL ρ[i]?) fun _ => bindM fk fun k ρ => match slotL ρ[i]?, fzv ρ a, res ρ k with
  | some (r, xs), some d, some (.int n) => (match ixN xs.length n with
    | some j => .ok .nx (ρ.set i (some (.ls r (xs.set j d))))
    | none => .bad)
  | _, _, _ => .bad) ρ := rfl
@[simp] theorem isiM_ap (i : Nat) (g : Nat → Bool) (ρ : Ev) : isiM i g ρ = (match ρ[i]? with
  | some (some (.ex k)) => .ok (.d (.bool (g k))) ρ
  | _ => .bad) := rfl
@[simp] theorem tryM_ap (g : Nat → Bool) (i j : Nat) (f : M Fl) (ρ : Ev) : tryM g i j f ρ = (match f ρ with
  | .err k ρ' => if g k then (if ownAt ρ'[i]? || refAt ρ'[j]? then .bad else if i = j ∨ ρ'.length ≤ i then .bad else .ok .nx ((ρ'.set i none).set j (some (.ex k)))) else .err k ρ'
  | o => o) := rfl
@[simp] theorem tryO_ap (g : Nat → Bool) (h f : M Fl) (ρ : Ev) : tryO g h f ρ = (match f ρ with
  | .err k ρ' => if g k then h ρ' else .err k ρ'
  | o => o) := rfl
@[simp] theorem callF_ap (n : Nat) (F : Fn) (as : List Av) (ρ : Ev) : callF n F as ρ = if as.length = n ∧ okArgs ρ as = true then (match resolve ρ as with
  | none => .bad
  | some svs => (match F svs with
    | .ok r outs => .ok r (writeBack ρ as outs)
    | .err k outs => .err k (writeBack ρ as outs)
    | .bad => .bad)) else .bad := rfl
@[simp] theorem resolve_nil (ρ : Ev) : resolve ρ [] = some [] := rfl
@[simp] theorem resolve_d (ρ : Ev) (x : Dt) (as : List Av) : resolve ρ (.d x :: as) = (resolve ρ as).map fun r => .d x :: r := rfl
@[simp] theorem resolve_s (ρ : Ev) (i : Nat) (as : List Av) : resolve ρ (.s i :: as) = (match ρ[i]? with
    | some (some s) => (resolve ρ as).map fun r => s.mark true :: r
    | _ => none) := rfl
@[simp] theorem res_d (ρ : Ev) (x : Dt) : res ρ (.d x) = some x := rfl
@[simp] theorem res_s (ρ : Ev) (i : Nat) : res ρ (.s i) = slotD ρ[i]? := rfl
@[simp] theorem fzv_d (ρ : Ev) (x : Dt) : fzv ρ (.d x) = some x := rfl
@[simp] theorem fzv_s (ρ : Ev) (i : Nat) : fzv ρ (.s i) = slotZ ρ[i]? := rfl
@[simp] theorem tru_d (ρ : Ev) (x : Dt) : tru ρ (.d x) = truth x := rfl
@[simp] theorem tru_s (ρ : Ev) (i : Nat) : tru ρ (.s i) = slotT ρ[i]? := rfl
@[simp] theorem slotD_d (x : Dt) : slotD (some (some (.d x))) = some x := rfl
@[simp] theorem slotD_l (r : Bool) (xs : List Dt) : slotD (some (some (.ls r xs))) = some (.list xs) := rfl
@[simp] theorem slotZ_d (x : Dt) : slotZ (some (some (.d x))) = some x := rfl
@[simp] theorem slotL_l (r : Bool) (xs : List Dt) : slotL (some (some (.ls r xs))) = some (r, xs) := rfl
@[simp] theorem slotR_d (x : Dt) : slotR (some (some (.d x))) = some (.d x) := rfl
@[simp] theorem slotR_l (xs : List Dt) : slotR (some (some (.ls false xs))) = some (.l xs) := rfl
@[simp] theorem fzs_nil (ρ : Ev) : fzs ρ [] = some [] := rfl
@[simp] theorem fzs_cons (ρ : Ev) (a : Av) (as : List Av) : fzs ρ (a :: as) = (fzv ρ a).bind fun x => (fzs ρ as).map fun xs => x :: xs := rfl
@[simp] theorem ress_nil (ρ : Ev) : ress ρ [] = some [] := rfl
@[simp] theorem ress_cons (ρ : Ev) (a : Av) (as : List Av) : ress ρ (a :: as) = (res ρ a).bind fun x => (ress ρ as).map fun xs => x :: xs := rfl
@[simp] theorem sv_d (x : Dt) : (Rv.d x).sv = .d x := rfl
@[simp] theorem sv_l (x : List Dt) : (Rv.l x).sv = .ls false x := rfl
@[simp] theorem addD_i (i j : Int) : addD (.int i) (.int j) = some (.d (.int (i + j))) := rfl
@[simp] theorem addD_l (i j : List Dt) : addD (.list i) (.list j) = if i.length + j.length ≤ 1000000 then some (.l (i ++ j)) else none := rfl
@[simp] theorem subD_i (i j : Int) : subD (.int i) (.int j) = some (.d (.int (i - j))) := rfl
@[simp] theorem mulD_i (i j : Int) : mulD (.int i) (.int j) = if small64 i || small64 j then some (.d (.int (i * j))) else none := rfl
@[simp] theorem fdivD_i (i j : Int) : fdivD (.int i) (.int j) = if 0 < j ∧ j.natAbs < 1073741824 then some (.d (.int (i / j))) else none := rfl
@[simp] theorem modD_i (i j : Int) : modD (.int i) (.int j) = if 0 < j then some (.d (.int (i % j))) else none := rfl
@[simp] theorem powD_i (i j : Int) : powD (.int i) (.int j) = if 0 ≤ j ∧ j ≤ 1000000 ∧ i.natAbs < 2 ^ 64 then some (.d (.int (i ^ j.toNat))) else none := rfl
@[simp] theorem negD_i (i : Int) : negD (.int i) = some (.d (.int (-i))) := rfl
@[simp] theorem ltI_i (i j : Int) : ltI (.int i) (.int j) = some (decide (i < j)) := rfl
@[simp] theorem leI_i (i j : Int) : leI (.int i) (.int j) = some (decide (i ≤ j)) := rfl
@[simp] theorem gtI_i (i j : Int) : gtI (.int i) (.int j) = some (decide (j < i)) := rfl
@[simp] theorem geI_i (i j : Int) : geI (.int i) (.int j) = some (decide (j ≤ i)) := rfl
@[simp] theorem ixD_l (xs : List Dt) (i : Int) : ixD (.list xs) (.int i) = (atI xs i).map Rv.d := rfl
@[simp] theorem ixD_t (xs : List Dt) (i : Int) : ixD (.tuple xs) (.int i) = (atI xs i).map Rv.d := rfl
@[simp] theorem forL_nil (t : Tgt) (body : M Fl) (ρ : Ev) : forL t body [] ρ = .ok .nx ρ := rfl
@[simp] theorem compL_nil (t : Tgt) (ft : M Bool) (fe : M Av) (acc : List Dt) (ρ : Ev) : compL t ft fe [] acc ρ = .ok acc ρ := rfl
@[simp] theorem refAt_n : refAt (some none) = false := rfl
@[simp] theorem refAt_s (s : Sv) : refAt (some (some s)) = s.isRef := rfl
@[simp] theorem ownAt_n : ownAt (some none) = false := rfl
@[simp] theorem ownAt_s (s : Sv) : ownAt (some (some s)) = s.own := rfl
@[simp] theorem isRef_d (x : Dt) : (Sv.d x).isRef = false := rfl
@[simp] theorem isRef_l (r : Bool) (x : List Dt) : (Sv.ls r x).isRef = r := rfl
@[simp] theorem isRef_x (k : Nat) : (Sv.ex k).isRef = false := rfl
@[simp] theorem isRef_s (k : List Int) : (Sv.scr k).isRef = false := rfl
@[simp] theorem own_d (x : Dt) : (Sv.d x).own = false := rfl
@[simp] theorem own_l (r : Bool) (x : List Dt) : (Sv.ls r x).own = true := rfl
@[simp] theorem own_x (k : Nat) : (Sv.ex k).own = false := rfl
@[simp] theorem own_s (k : List Int) : (Sv.scr k).own = false := rfl
@[simp] theorem mark_d (b : Bool) (x : Dt) : (Sv.d x).mark b = .d x := rfl
@[simp] theorem mark_l (b r : Bool) (x : List Dt) : (Sv.ls r x).mark b = .ls b x := rfl
@[simp] theorem mark_x (b : Bool) (k : Nat) : (Sv.ex k).mark b = .ex k := rfl
@[simp] theorem mark_s (b : Bool) (k : List Int) : (Sv.scr k).mark b = .scr k := rfl
theorem atI_nat {α : Type} (xs : List α) (i : Nat) : atI xs (i : Int) = xs[i]? := by
  unfold atI ixN
  by_cases h : i < xs.length
  · rw [if_pos (by omega), if_pos (by omega)]
    simp
  · rw [if_pos (by omega), if_neg (by omega), List.getElem?_eq_none (by omega)]
    rfl
def wbAt (o : Option Sv) (q : Option (Option Sv)) : Option Sv := match o with
  | none => none
  | some s => if s.own then (match q with
    | some (some s') => some (s'.mark s.isRef)
    | _ => some s) else some s
theorem wb1_eq (as : List Av) (outs : Ev) (i : Nat) (o : Option Sv) : wb1 as outs i o = (match posOf i as with
    | none => o
    | some j => wbAt o outs[j]?) := by
  unfold wb1 wbAt
  cases o with
  | none => cases posOf i as <;> rfl
  | some s =>
    cases posOf i as with
    | none => dsimp only; split <;> rfl
    | some j => rfl
@[simp] theorem writeBack_nil (as : List Av) (outs : Ev) : writeBack [] as outs = [] := rfl
@[simp] theorem writeBack_eq (ρ : Ev) (as : List Av) (outs : Ev) : writeBack ρ as outs = ρ.mapIdx fun i o => (match posOf i as with
    | none => o
    | some j => wbAt o outs[j]?) := by
  unfold writeBack
  congr 1
  funext i o
  exact wb1_eq as outs i o
@[simp] theorem posOf_nil (i : Nat) : posOf i [] = none := rfl
@[simp] theorem posOf_d (i : Nat) (x : Dt) (as : List Av) : posOf i (.d x :: as) = (posOf i as).map (· + 1) := rfl
@[simp] theorem posOf_s (i k : Nat) (as : List Av) : posOf i (.s k :: as) = if k = i then some 0 else (posOf i as).map (· + 1) := rfl
@[simp] theorem wbAt_n (q : Option (Option Sv)) : wbAt none q = none := rfl
@[simp] theorem wbAt_d (x : Dt) (q : Option (Option Sv)) : wbAt (some (.d x)) q = some (.d x) := rfl
@[simp] theorem wbAt_x (x : Nat) (q : Option (Option Sv)) : wbAt (some (.ex x)) q = some (.ex x) := rfl
@[simp] theorem wbAt_s (x : List Int) (q : Option (Option Sv)) : wbAt (some (.scr x)) q = some (.scr x) := rfl
@[simp] theorem wbAt_l (r : Bool) (x : List Dt) (s : Sv) : wbAt (some (.ls r x)) (some (some s)) = some (s.mark r) := rfl
@[simp] theorem okArgs_nil (ρ : Ev) : okArgs ρ [] = true := rfl
@[simp] theorem okArgs_d (ρ : Ev) (x : Dt) (as : List Av) : okArgs ρ (.d x :: as) = okArgs ρ as := rfl
@[simp] theorem okArgs_s (ρ : Ev) (i : Nat) (as : List Av) : okArgs ρ (.s i :: as) = ((!ownAt ρ[i]? || !hasS i as) && okArgs ρ as) := rfl
@[simp] theorem hasS_nil (i : Nat) : hasS i [] = false := rfl
@[simp] theorem hasS_d (i : Nat) (x : Dt) (as : List Av) : hasS i (.d x :: as) = hasS i as := rfl
@[simp] theorem hasS_s (i k : Nat) (as : List Av) : hasS i (.s k :: as) = (decide (k = i) || hasS i as) := rfl
@[simp] theorem finE_nil (ρ : Ev) : finE [] ρ = [] := rfl
@[simp] theorem finE_cons (s : Sv) (ss : List Sv) (ρ : Ev) : finE (s :: ss) ρ = (if s.isRef then (ρ.head?).getD none else none) :: finE ss ρ.tail := rfl
@[simp] theorem svsE_nil : svsE [] = [] := rfl
@[simp] theorem svsE_cons (s : Sv) (ss : List Sv) : svsE (s :: ss) = some s :: svsE ss := rfl
theorem bodyF_ap (n : Nat) (f : M Fl) (svs : List Sv) : bodyF n f svs = (match f (svsE svs ++ List.replicate (n - svs.length) none) with
  | .ok (.rt r) ρ => .ok r (finE svs ρ)
  | .ok .nx ρ => .ok (.d .none) (finE svs ρ)
  | .ok _ _ => .bad
  | .err k ρ => .err k (finE svs ρ)
  | .bad => .bad) := rfl
theorem Fcell_eq (ns : List Int) (k : Nat) : Fcell [.scr ns, .d (.int k)] = .ok (.d (.int (cellI ns k))) [none, none] := by
  by_cases hn : ns = []
  · subst hn
    rfl
  · have h1 : 0 < ns.length := List.length_pos_iff.mpr hn
    have e : ((k : Int) % (ns.length : Int)) = (((k % ns.length : Nat)) : Int) := by omega
    have hl : k % ns.length < ns.length := Nat.mod_lt _ h1
    have h0 : ns.isEmpty = false := by cases ns <;> simp at hn ⊢
    have q : atI ns ((k : Int) % (ns.length : Int)) = some (cellI ns k) := by
      rw [e, atI_nat, List.getElem?_eq_getElem hl]
      unfold cellI
      rw [if_neg (by simp [h0]), List.getD_eq_getElem?_getD, List.getElem?_eq_getElem hl]
      rfl
    simp [Fcell, fcell, bodyF_ap, lenA, slotT, h0, h1, q]
theorem Fmix_eq (ns : List Int) (k : Nat) : Fmix [.scr ns, .d (.int k)] = .ok (.d (.int (mixI ns k))) [none, none] := by
  have a0 : (0 : Int) ≤ (cellI ns k + 104729 * ((k : Int) + 1)) % 4294967291 := Int.emod_nonneg _ (by decide)
  have a1 : (cellI ns k + 104729 * ((k : Int) + 1)) % 4294967291 < 4294967291 := Int.emod_lt_of_pos _ (by decide)
  have s1 : small64 104729 = true := rfl
  have s2 : small64 69621 = true := rfl
  have nb : ((cellI ns k + 104729 * ((k : Int) + 1)) % 4294967291).natAbs < 2 ^ 64 := by omega
  simp at nb
  simp [Fmix, fmix, bodyF_ap, Fcell_eq, s1, s2, nb, mixI]
theorem Fdraw_eq (ns : List Int) (xs : List Dt) (m : Int) (hm : 0 < m) (hk : xs.length < 999999) : Fdraw [.scr ns, .ls true xs, .d (.int m)] = .ok (.d (.int (drw ns (xs.length + 1) m))) [none, some (.ls true (xs ++ [.int 0])), none] := by
  have hk' : xs.length < 1000000 := by omega
  have q := Fmix_eq ns (xs.length + 1)
  simp at q
  simp [Fdraw, fdraw, bodyF_ap, appD, lenA, q, hm, hk', drw]
end G8
namespace G8
open PySem L2
/-! more of what the parts do -/
@[simp] theorem int1_i (i : Int) : int1 [.int i] = some i := rfl
@[simp] theorem int2_i (i j : Int) : int2 [.int i, .int j] = some (i, j) := rfl
@[simp] theorem int3_i (i j k : Int) : int3 [.int i, .int j, .int k] = some (i, j, k) := rfl
@[simp] theorem mulD_l (xs : List Dt) (k : Int) : mulD (.list xs) (.int k) = if mid k && decide (k ≤ 1000) && decide (xs.length ≤ 1000) then some (.l (List.replicate k.toNat xs).flatten) else none := rfl
@[simp] theorem seqOf_l (xs : List Dt) : seqOf (.list xs) = some xs := rfl
@[simp] theorem tupOf_t (xs : List Dt) : tupOf (.tuple xs) = some xs := rfl
@[simp] theorem lenA_d (ρ : Ev) (x : Dt) : lenA ρ (.d x) = lenD x := rfl
@[simp] theorem lenA_s (ρ : Ev) (i : Nat) : lenA ρ (.s i) = (match ρ[i]? with
    | some (some (.d x)) => lenD x
    | some (some (.ls _ xs)) => some xs.length
    | some (some (.dk _ xs)) => some xs.length
    | some (some (.scr ns)) => some ns.length
    | _ => none) := rfl
@[simp] theorem lenD_l (xs : List Dt) : lenD (.list xs) = some xs.length := rfl
@[simp] theorem lenD_t (xs : List Dt) : lenD (.tuple xs) = some xs.length := rfl
@[simp] theorem nonA_d (ρ : Ev) (x : Dt) : nonA ρ (.d x) = some (isNone x) := rfl
@[simp] theorem nonA_s (ρ : Ev) (i : Nat) : nonA ρ (.s i) = (match ρ[i]? with
    | some (some (.d x)) => some (isNone x)
    | some (some _) => some false
    | _ => none) := rfl
@[simp] theorem isNone_n : isNone .none = true := rfl
@[simp] theorem isNone_i (i : Int) : isNone (.int i) = false := rfl
@[simp] theorem isNone_b (i : Bool) : isNone (.bool i) = false := rfl
@[simp] theorem isNone_s (i : Str) : isNone (.str i) = false := rfl
@[simp] theorem isNone_l (i : List Dt) : isNone (.list i) = false := rfl
@[simp] theorem isNone_t (i : List Dt) : isNone (.tuple i) = false := rfl
@[simp] theorem two2_i (g : Int → Int → Int) (i j : Int) : two2 g [.int i, .int j] = some (.d (.int (g i j))) := rfl
@[simp] theorem truth_b (i : Bool) : truth (.bool i) = some i := rfl
@[simp] theorem slotT_d (x : Dt) : slotT (some (some (.d x))) = truth x := rfl
@[simp] theorem isL_l (xs : List Dt) : isL (.list xs) = some () := rfl
/-! loops -/
@[simp] theorem slots_one (i : Nat) : (Tgt.one i).slots = [i] := rfl
@[simp] theorem slots_tup (is : List Nat) : (Tgt.tup is).slots = is := rfl
@[simp] theorem anyOwn_nil (ρ : Ev) : anyOwn ρ [] = false := rfl
@[simp] theorem anyOwn_cons (ρ : Ev) (i : Nat) (is : List Nat) : anyOwn ρ (i :: is) = (ownAt ρ[i]? || anyOwn ρ is) := by simp [anyOwn]
@[simp] theorem wipeE_nil (ρ : Ev) : wipeE ρ [] = ρ := rfl
@[simp] theorem wipeE_cons (ρ : Ev) (i : Nat) (is : List Nat) : wipeE ρ (i :: is) = (wipeE ρ is).set i none := rfl
@[simp] theorem backE_nil (ρ ρ' : Ev) : backE ρ ρ' [] = ρ' := rfl
@[simp] theorem backE_cons (ρ ρ' : Ev) (i : Nat) (is : List Nat) : backE ρ ρ' (i :: is) = (backE ρ ρ' is).set i ((ρ[i]?).getD none) := rfl
theorem stepL_ap (t : Tgt) (ft : M Bool) (fe : M Av) (d : Dt) (ρ : Ev) : stepL t ft fe d ρ = if anyOwn ρ t.slots then .bad else (match putT t d (wipeE ρ t.slots) with
  | .ok _ ρ1 => (match ft ρ1 with
    | .ok true ρ2 => (match fe ρ2 with
      | .ok a ρ3 => (match fzv ρ3 a with
        | some x => .ok (some x) (backE ρ ρ3 t.slots)
        | none => .bad)
      | _ => .bad)
    | .ok false ρ2 => .ok none (backE ρ ρ2 t.slots)
    | _ => .bad)
  | _ => .bad) := rfl
theorem compL_cons (t : Tgt) (ft : M Bool) (fe : M Av) (d : Dt) (ds acc : List Dt) (ρ : Ev) : compL t ft fe (d :: ds) acc ρ = (match stepL t ft fe d ρ with
  | .ok (some x) ρ' => if acc.length < 1000000 then compL t ft fe ds (acc ++ [x]) ρ' else .bad
  | .ok none ρ' => compL t ft fe ds acc ρ'
  | .err k ρ' => .err k ρ'
  | .bad => .bad) := by
  show bindM (stepL t ft fe d) _ ρ = _
  rw [bindM_ap]
  cases stepL t ft fe d ρ with
  | err k ρ' => rfl
  | bad => rfl
  | ok o ρ' =>
    cases o with
    | none => rfl
    | some x => dsimp only; split <;> rfl
/-- the items of a comprehension, one by one, with a state -/
def collect {α : Type} (step : α → Dt → Option Dt × α) : List Dt → α → List Dt × α
  | [], a => ([], a)
  | d :: ds, a => let r := collect step ds (step a d).2
    (match (step a d).1 with
      | some x => x :: r.1
      | none => r.1, r.2)
theorem compL_st {α : Type} {t : Tgt} {ft : M Bool} {fe : M Av} (E : α → Ev) (step : α → Dt → Option Dt × α) (I : α → Prop) : ∀ (ds acc : List Dt) (a : α), I a → acc.length + ds.length ≤ 1000000 →
    (∀ a d, I a → d ∈ ds → stepL t ft fe d (E a) = .ok (step a d).1 (E (step a d).2) ∧ I (step a d).2) → compL t ft fe ds acc (E a) = .ok (acc ++ (collect step ds a).1) (E (collect step ds a).2)
  | [], acc, a, _, _, _ => by simp [collect]
  | d :: ds, acc, a, hI, hl, h => by
    obtain ⟨h1, h2⟩ := h a d hI (List.mem_cons_self ..)
    rw [compL_cons, h1]
    cases e : (step a d).1 with
    | none =>
      dsimp only
      rw [compL_st E step I ds acc _ h2 (by simp at hl; omega) fun a' d' i m => h a' d' i (List.mem_cons_of_mem _ m)]
      simp [collect, e]
    | some x =>
      dsimp only
      rw [if_pos (by simp at hl; omega), compL_st E step I ds _ _ h2 (by simp at hl ⊢; omega) fun a' d' i m => h a' d' i (List.mem_cons_of_mem _ m)]
      simp [collect, e]
/-- with no state -/
theorem compL_fm {t : Tgt} {ft : M Bool} {fe : M Av} {ρ : Ev} (g : Dt → Option Dt) : ∀ (ds acc : List Dt), acc.length + ds.length ≤ 1000000 →
    (∀ d, d ∈ ds → stepL t ft fe d ρ = .ok (g d) ρ) → compL t ft fe ds acc ρ = .ok (acc ++ ds.filterMap g) ρ
  | [], acc, _, _ => by simp
  | d :: ds, acc, hl, h => by
    rw [compL_cons, h d (List.mem_cons_self ..)]
    cases e : g d with
    | none =>
      dsimp only
      rw [compL_fm g ds acc (by simp at hl; omega) fun d' m => h d' (List.mem_cons_of_mem _ m)]
      simp [e]
    | some x =>
      dsimp only
      rw [if_pos (by simp at hl; omega), compL_fm g ds _ (by simp at hl ⊢; omega) fun d' m => h d' (List.mem_cons_of_mem _ m)]
      simp [e]
theorem compL_map {α : Type} {t : Tgt} {ft : M Bool} {fe : M Av} {ρ : Ev} (c : α → Dt) (g : α → Dt) (xs : List α) (hl : xs.length ≤ 1000000)
    (h : ∀ x, x ∈ xs → stepL t ft fe (c x) ρ = .ok (some (g x)) ρ) : compL t ft fe (xs.map c) [] ρ = .ok (xs.map g) ρ := by
  have key : ∀ (xs : List α) (acc : List Dt), acc.length + xs.length ≤ 1000000 → (∀ x, x ∈ xs → stepL t ft fe (c x) ρ = .ok (some (g x)) ρ) → compL t ft fe (xs.map c) acc ρ = .ok (acc ++ xs.map g) ρ := by
    intro xs
    induction xs with
    | nil => intro acc _ _; simp
    | cons x xs ih =>
      intro acc hl h
      rw [List.map_cons, compL_cons, h x (List.mem_cons_self ..)]
      dsimp only
      rw [if_pos (by simp at hl; omega), ih _ (by simp at hl ⊢; omega) fun y m => h y (List.mem_cons_of_mem _ m)]
      simp
  simpa using key xs [] (by simpa using hl) h
/-- a part of the items, each by its own worth -/
theorem compL_fmap {α : Type} {t : Tgt} {ft : M Bool} {fe : M Av} {ρ : Ev} (c : α → Dt) (g : α → Option Dt) (xs : List α) (hl : xs.length ≤ 1000000)
    (h : ∀ x, x ∈ xs → stepL t ft fe (c x) ρ = .ok (g x) ρ) : compL t ft fe (xs.map c) [] ρ = .ok (xs.filterMap g) ρ := by
  have key : ∀ (xs : List α) (acc : List Dt), acc.length + xs.length ≤ 1000000 → (∀ x, x ∈ xs → stepL t ft fe (c x) ρ = .ok (g x) ρ) → compL t ft fe (xs.map c) acc ρ = .ok (acc ++ xs.filterMap g) ρ := by
    intro xs
    induction xs with
    | nil => intro acc _ _; simp
    | cons x xs ih =>
      intro acc hl h
      rw [List.map_cons, compL_cons, h x (List.mem_cons_self ..)]
      cases e : g x with
      | none =>
        dsimp only
        rw [ih _ (by simp at hl ⊢; omega) fun y m => h y (List.mem_cons_of_mem _ m)]
        simp [e]
      | some z =>
        dsimp only
        rw [if_pos (by simp at hl; omega), ih _ (by simp at hl ⊢; omega) fun y m => h y (List.mem_cons_of_mem _ m)]
        simp [e]
  simpa using key xs [] (by simpa using hl) h
theorem forL_cons (t : Tgt) (body : M Fl) (d : Dt) (ds : List Dt) (ρ : Ev) : forL t body (d :: ds) ρ = (match putT t d ρ with
    | .ok _ ρ1 => (match body ρ1 with
      | .ok .nx ρ2 => forL t body ds ρ2
      | .ok .ct ρ2 => forL t body ds ρ2
      | .ok .bk ρ2 => .ok .nx ρ2
      | o => o)
    | _ => .bad) := rfl
/-- one round of a loop -/
def roundM (t : Tgt) (body : M Fl) (d : Dt) : M Fl := fun ρ => match putT t d ρ with
    | .ok _ ρ1 => body ρ1
    | _ => .bad
theorem roundM_ap (t : Tgt) (body : M Fl) (d : Dt) (ρ : Ev) : roundM t body d ρ = (match putT t d ρ with
    | .ok _ ρ1 => body ρ1
    | _ => .bad) := rfl
theorem forL_round (t : Tgt) (body : M Fl) (d : Dt) (ds : List Dt) (ρ : Ev) : forL t body (d :: ds) ρ = (match roundM t body d ρ with
      | .ok .nx ρ2 => forL t body ds ρ2
      | .ok .ct ρ2 => forL t body ds ρ2
      | .ok .bk ρ2 => .ok .nx ρ2
      | o => o) := by
  rw [forL_cons, roundM_ap]
  cases putT t d ρ with
  | ok u ρ1 => rfl
  | err k ρ1 => rfl
  | bad => rfl
/-- a loop through, with a state -/
theorem forL_st {α β : Type} {t : Tgt} {body : M Fl} (c : β → Dt) (E : α → Ev) (step : α → β → α) (I : α → Prop) : ∀ (xs : List β) (a : α), I a →
    (∀ a x, I a → x ∈ xs → (roundM t body (c x) (E a) = .ok .nx (E (step a x)) ∨ roundM t body (c x) (E a) = .ok .ct (E (step a x))) ∧ I (step a x)) → forL t body (xs.map c) (E a) = .ok .nx (E (xs.foldl step a)) ∧ I (xs.foldl step a)
  | [], a, hI, _ => by simp [hI]
  | x :: xs, a, hI, h => by
    obtain ⟨h1, h2⟩ := h a x hI (List.mem_cons_self ..)
    have h3 := forL_st c E step I xs (step a x) h2 fun a' d' i m => h a' d' i (List.mem_cons_of_mem _ m)
    rcases h1 with h1 | h1 <;> (rw [List.map_cons, forL_round, h1]; exact h3)
/-- a loop through, with an invariant by the number of rounds -/
theorem forL_inv {β : Type} {t : Tgt} {body : M Fl} (c : β → Dt) (P : Nat → Ev → Prop) : ∀ (xs : List β) (n : Nat) (ρ : Ev), P n ρ →
    (∀ i x ρ, xs[i]? = some x → P (n + i) ρ → ∃ ρ', (roundM t body (c x) ρ = .ok .nx ρ' ∨ roundM t body (c x) ρ = .ok .ct ρ') ∧ P (n + i + 1) ρ') → ∃ ρ', forL t body (xs.map c) ρ = .ok .nx ρ' ∧ P (n + xs.length) ρ'
  | [], n, ρ, h, _ => ⟨ρ, rfl, h⟩
  | x :: xs, n, ρ, h, s => by
    obtain ⟨ρ1, h1, h2⟩ := s 0 x ρ rfl h
    obtain ⟨ρ2, h3, h4⟩ := forL_inv c P xs (n + 1) ρ1 h2 fun i y ρ e p => by
      have := s (i + 1) y ρ (by simpa using e) (by rw [show n + (i + 1) = n + 1 + i by omega]; exact p)
      rw [show n + (i + 1) + 1 = n + 1 + i + 1 by omega] at this
      exact this
    refine ⟨ρ2, ?_, by rw [List.length_cons, show n + (xs.length + 1) = n + 1 + xs.length by omega]; exact h4⟩
    rcases h1 with h1 | h1 <;> (rw [List.map_cons, forL_round, h1]; exact h3)
theorem rangeD_eq (lo : Int) (n : Nat) : rangeD lo n = (List.range n).map fun (i : Nat) => PyData.int (lo + (i : Int)) := rfl
theorem rangeD0 (n : Nat) : rangeD 0 n = (List.range n).map fun (i : Nat) => PyData.int (i : Int) := by
  rw [rangeD_eq]
  apply List.map_congr_left
  intro i _
  simp
theorem mid_nat {n : Nat} (h : n < 2 ^ 62) : mid (n : Int) = true := by
  unfold mid
  exact Nat.blt_eq.mpr (by omega)
theorem small_nat {n : Nat} (h : n < 2 ^ 64) : G8.small64 (n : Int) = true := by
  unfold G8.small64
  exact Nat.blt_eq.mpr (by omega)
theorem seqM_assoc (f g h : M Fl) : seqM (seqM f g) h = seqM f (seqM g h) := by
  funext ρ
  simp only [seqM_ap]
  cases f ρ with
  | ok a ρ' => cases a <;> rfl
  | err k ρ' => rfl
  | bad => rfl
theorem seqM_nx {f g : M Fl} {ρ ρ' : Ev} (h : f ρ = .ok .nx ρ') : seqM f g ρ = g ρ' := by
  rw [seqM_ap, h]
theorem bodyF_rt {n : Nat} {f : M Fl} {svs : List Sv} {r : Rv} {ρ : Ev} (h : f (svsE svs ++ List.replicate (n - svs.length) none) = .ok (.rt r) ρ) : bodyF n f svs = .ok r (finE svs ρ) := by
  rw [bodyF_ap, h]
end G8
namespace G8
open PySem L2
/-! data: equality, depth -/
@[simp] theorem eqv_ii (i j : Int) : PyData.eqv (.int i) (.int j) = decide (i = j) := by
  rw [PyData.eqv]
  by_cases h : i = j <;> simp [h]
@[simp] theorem eqv_bb (i j : Bool) : PyData.eqv (.bool i) (.bool j) = (i == j) := by rw [PyData.eqv]
@[simp] theorem eqv_ss (i j : Str) : PyData.eqv (.str i) (.str j) = (i == j) := by rw [PyData.eqv]
@[simp] theorem eqv_nn : PyData.eqv .none .none = true := by rw [PyData.eqv]
@[simp] theorem eqv_ll (i j : List Dt) : PyData.eqv (.list i) (.list j) = PyData.eqvAll i j := by rw [PyData.eqv]
@[simp] theorem eqv_tt (i j : List Dt) : PyData.eqv (.tuple i) (.tuple j) = PyData.eqvAll i j := by rw [PyData.eqv]
@[simp] theorem eqv_in (i : Int) : PyData.eqv (.int i) .none = false := by rw [PyData.eqv]
@[simp] theorem eqv_ni (i : Int) : PyData.eqv .none (.int i) = false := by rw [PyData.eqv]
@[simp] theorem eqv_it (i : Int) (x : List Dt) : PyData.eqv (.int i) (.tuple x) = false := by rw [PyData.eqv]
@[simp] theorem eqv_ti (i : Int) (x : List Dt) : PyData.eqv (.tuple x) (.int i) = false := by rw [PyData.eqv]
@[simp] theorem eqv_lt (i : List Dt) (x : List Dt) : PyData.eqv (.list i) (.tuple x) = false := by rw [PyData.eqv]
@[simp] theorem eqv_tl (i : List Dt) (x : List Dt) : PyData.eqv (.tuple x) (.list i) = false := by rw [PyData.eqv]
@[simp] theorem eqvA_nn : PyData.eqvAll [] [] = true := by rw [PyData.eqvAll]
@[simp] theorem eqvA_cc (x y : Dt) (xs ys : List Dt) : PyData.eqvAll (x :: xs) (y :: ys) = (PyData.eqv x y && PyData.eqvAll xs ys) := by rw [PyData.eqvAll]
@[simp] theorem eqvA_nc (y : Dt) (ys : List Dt) : PyData.eqvAll [] (y :: ys) = false := by rw [PyData.eqvAll]
@[simp] theorem eqvA_cn (y : Dt) (ys : List Dt) : PyData.eqvAll (y :: ys) [] = false := by rw [PyData.eqvAll]
/-- plain data, n deep at most -/
def nice (n : Nat) (x : Dt) : Prop := x.plain = true ∧ x.depth ≤ n
theorem nice_int (n : Nat) (i : Int) : nice n (.int i) := ⟨by rw [PyData.plain], by rw [PyData.depth]; omega⟩
theorem nice_bool (n : Nat) (i : Bool) : nice n (.bool i) := ⟨by rw [PyData.plain], by rw [PyData.depth]; omega⟩
theorem nice_str (n : Nat) (i : Str) : nice n (.str i) := ⟨by rw [PyData.plain], by rw [PyData.depth]; omega⟩
theorem nice_none (n : Nat) : nice n .none := ⟨by rw [PyData.plain], by rw [PyData.depth]; omega⟩
theorem nice_all {n : Nat} : ∀ {xs : List Dt}, (∀ x ∈ xs, nice n x) → PyData.plainAll xs = true ∧ PyData.depthAll xs ≤ n
  | [], _ => ⟨by rw [PyData.plainAll], by rw [PyData.depthAll]; omega⟩
  | x :: xs, h => by
    obtain ⟨h1, h2⟩ := h x (List.mem_cons_self ..)
    obtain ⟨h3, h4⟩ := nice_all fun y hy => h y (List.mem_cons_of_mem _ hy)
    rw [PyData.plainAll, PyData.depthAll, h1, h3]
    exact ⟨rfl, Nat.max_le.mpr ⟨h2, h4⟩⟩
theorem nice_list {n : Nat} {xs : List Dt} (h : ∀ x ∈ xs, nice n x) : nice (n + 1) (.list xs) := by
  obtain ⟨h1, h2⟩ := nice_all h
  exact ⟨by rw [PyData.plain]; exact h1, by rw [PyData.depth]; omega⟩
theorem nice_tuple {n : Nat} {xs : List Dt} (h : ∀ x ∈ xs, nice n x) : nice (n + 1) (.tuple xs) := by
  obtain ⟨h1, h2⟩ := nice_all h
  exact ⟨by rw [PyData.plain]; exact h1, by rw [PyData.depth]; omega⟩
theorem nice_up {n m : Nat} {x : Dt} (h : nice n x) (hm : n ≤ m) : nice m x := ⟨h.1, Nat.le_trans h.2 hm⟩
theorem nice_ints (n : Nat) (xs : List Int) : nice (n + 1) (.list (xs.map PyData.int)) := nice_list fun x hx => by
  obtain ⟨i, _, rfl⟩ := List.mem_map.mp hx
  exact nice_int n i
theorem shal_nice {x : Dt} (h : nice 60 x) : shal x = true := decide_eq_true h.2
theorem shalL_nice {xs : List Dt} (h : ∀ x ∈ xs, nice 60 x) : shalL xs = true := decide_eq_true (nice_all h).2
@[simp] theorem shal_i (i : Int) : shal (.int i) = true := shal_nice (nice_int _ _)
@[simp] theorem shal_b (i : Bool) : shal (.bool i) = true := shal_nice (nice_bool _ _)
@[simp] theorem shal_s (i : Str) : shal (.str i) = true := shal_nice (nice_str _ _)
@[simp] theorem shal_n : shal .none = true := shal_nice (nice_none _)
@[simp] theorem shalL_ints (xs : List Int) : shalL (xs.map PyData.int) = true := shalL_nice fun x hx => by
  obtain ⟨i, _, rfl⟩ := List.mem_map.mp hx
  exact nice_int _ i
theorem eqD_self {x : Dt} (h : nice 60 x) : eqD x x = some true := by
  unfold eqD
  rw [shal_nice h, PySem.SeqAt.eqv_refl_plain x h.1]
  rfl
theorem neD_self {x : Dt} (h : nice 60 x) : neD x x = some false := by
  unfold neD
  rw [shal_nice h, PySem.SeqAt.eqv_refl_plain x h.1]
  rfl
@[simp] theorem eqD_i (i j : Int) : eqD (.int i) (.int j) = some (decide (i = j)) := by simp [eqD]
@[simp] theorem neD_i (i j : Int) : neD (.int i) (.int j) = some (!decide (i = j)) := by simp [neD]
@[simp] theorem eqD_s (i j : Str) : eqD (.str i) (.str j) = some (i == j) := by simp [eqD]
@[simp] theorem neD_s (i j : Str) : neD (.str i) (.str j) = some (!(i == j)) := by simp [neD]
theorem eqvA_ints : ∀ (xs ys : List Int), PyData.eqvAll (xs.map PyData.int) (ys.map PyData.int) = decide (xs = ys)
  | [], [] => by simp
  | [], _ :: _ => by simp
  | _ :: _, [] => by simp
  | x :: xs, y :: ys => by simp [eqvA_ints xs ys, Bool.decide_and]
theorem inD_ints (i : Int) (xs : List Int) : inD (.int i) (.list (xs.map PyData.int)) = some (decide (i ∈ xs)) := by
  show (if shal (.int i) && shalL (xs.map PyData.int) then some ((xs.map PyData.int).any fun z => PyData.eqv z (.int i)) else none) = _
  rw [shal_i, shalL_ints, List.any_map]
  show some _ = some _
  congr 1
  induction xs with
  | nil => rfl
  | cons x xs ih =>
    rw [List.any_cons, ih]
    simp [Bool.decide_or, eq_comm]
theorem ninD_ints (i : Int) (xs : List Int) : ninD (.int i) (.list (xs.map PyData.int)) = some (decide (i ∉ xs)) := by
  unfold ninD
  rw [inD_ints]
  simp
end G8
namespace G8
open PySem L2
/-! sorted, over data -/
def leD : Dt → Dt → Bool := PySem.W.dataLe false id
def isTc : Dt → Bool
  | .tuple (_ :: _) => true
  | _ => false
def noTu : Dt → Bool
  | .tuple _ => false
  | .none => false
  | _ => true
def sortB (xs : List Dt) : Bool := xs.all isTc || xs.all noTu
theorem sortB_of {xs : List Dt} (h : sortB xs = true) : PySem.W.Sortable xs := by
  unfold sortB at h
  rw [Bool.or_eq_true, List.all_eq_true, List.all_eq_true] at h
  rcases h with h | h
  · refine .inl fun d hd => ?_
    have := h d hd
    unfold isTc at this
    split at this
    · exact ⟨_, _, rfl⟩
    · cases this
  · refine .inr fun d hd => ?_
    have := h d hd
    unfold noTu at this
    split at this
    · cases this
    · cases this
    · rename_i h1 h2
      exact ⟨fun e => h2 e, fun xs e => h1 xs e⟩
def alikeA (xs : List Dt) : Bool := xs.all fun x => xs.all fun y => PySem.W.alike x y
theorem alikeA_of {xs : List Dt} (h : alikeA xs = true) : PySem.W.AllAlike xs := by
  unfold alikeA at h
  rw [List.all_eq_true] at h
  exact fun x hx y hy => List.all_eq_true.mp (h x hx) y hy
def sortD : List Dt → Option Rv
  | [.list xs] => if shalL xs && alikeA xs && sortB xs then some (.l (xs.mergeSort leD)) else none
  | _ => none
def rSortD (K : Fg) : List V → Hp → VK → Prop := fun vs H Q => ∃ (a : Addr) (bs : List (V × Dt)), vs = [.ref a] ∧ SqL K H a (bs.map Prod.fst) ∧ DpAll K H (bs.map Prod.fst) (bs.map Prod.snd) ∧ PySem.W.AllAlike (bs.map Prod.snd) ∧ PySem.W.Sortable (bs.map Prod.snd) ∧ PyData.depthAll (bs.map Prod.snd) ≤ 60 ∧
  ∀ p, H p = none → Q (.ref p) (upd H p (.lst ((bs.mergeSort (PySem.W.dataLe false Prod.snd)).map Prod.fst)))
theorem depthAll_mem : ∀ {xs : List Dt} {d : Dt}, d ∈ xs → d.depth ≤ PyData.depthAll xs
  | x :: xs, d, h => by
    rw [PyData.depthAll]
    rcases List.mem_cons.mp h with e | e
    · rw [e]; exact Nat.le_max_left _ _
    · exact Nat.le_trans (depthAll_mem e) (Nat.le_max_right _ _)
theorem vals_each : ∀ {bs : List (V × Dt)} {us : List Value}, Vals (bs.map Prod.fst) us → PySem.W.EachIs (fun v (b : V × Dt) => RelV b.1 v) us bs
  | [], _, h => by cases h; exact .nil
  | b :: bs, _, h => by
    cases h with
    | cons h1 h2 => exact .cons h1 (vals_each h2)
theorem each_vals : ∀ {bs : List (V × Dt)} {us : List Value}, PySem.W.EachIs (fun v (b : V × Dt) => RelV b.1 v) us bs → Vals (bs.map Prod.fst) us
  | [], _, h => by cases h; exact .nil
  | b :: bs, _, h => by
    cases h with
    | cons h1 h2 => exact .cons h1 (each_vals h2)
section
variable {X : Cx}
theorem c_sortD (hu : X.A.units + 64 < cLine) : CallR X (.builtin "sorted") (rSortD X.K) := by
  intro pins s σ H vs us Q I r h
  obtain ⟨a, bs, rfl, h1, h2, h3, h4, h5, q⟩ := h
  obtain ⟨its, rv, hl, hz⟩ := I.list h1
  rw [Vals.ref1 r]
  obtain ⟨as, rs⟩ := Dp.readsAll I _ _ its h2 rv
  refine PySem.W.sorted_data (R := fun v (b : V × Dt) => RelV b.1 v) (enc := Prod.snd) (bs := bs) hl.isList (vals_each rv) (PySem.W.readsAll_each Prod.snd rs) h3 h4 (by rw [List.length_map] at hz; exact hz) (fun b hb => by
    have := depthAll_mem (List.mem_map_of_mem (f := Prod.snd) hb)
    omega) fun out h6 h7 => ?_
  obtain ⟨ep, he'⟩ := PyProof.Rows.sortedAll_at s.heap its out.toArray
  have hlen : ((bs.mergeSort (PySem.W.dataLe false Prod.snd)).map Prod.fst).length ≤ sizeLine := by
    rw [List.length_map, List.length_mergeSort]
    rw [List.length_map] at hz
    exact hz
  exact ⟨.ref _, upd H (s.heap.objs.size + 1) (.lst ((bs.mergeSort (PySem.W.dataLe false Prod.snd)).map Prod.fst)), I.laid (t' := s.toks) (fun _ _ => PyProof.Rows.sortedAll_old) (Nat.le_succ _) ⟨hlen, out, ep, each_vals h7, he'⟩, rfl, q _ (I.hok.fresh (Nat.le_succ _))⟩
end
theorem Rps.zip {K : Fg} {G : Hp} : ∀ {vs : List V} {ds : List Dt}, Rps K G vs ds → ∃ bs : List (V × Dt), bs.map Prod.fst = vs ∧ bs.map Prod.snd = ds ∧ ∀ b ∈ bs, Rp K G b.1 b.2
  | [], _, h => by cases h; exact ⟨[], rfl, rfl, fun b hb => by cases hb⟩
  | v :: vs, _, h => by
    cases h with
    | cons h1 h2 =>
      obtain ⟨bs, e1, e2, e3⟩ := Rps.zip h2
      refine ⟨(v, _) :: bs, by rw [List.map_cons, e1], by rw [List.map_cons, e2], fun b hb => ?_⟩
      rcases List.mem_cons.mp hb with e | e
      · rw [e]; exact h1
      · exact e3 b e
theorem Rps.unzip {K : Fg} {G : Hp} : ∀ {bs : List (V × Dt)}, (∀ b ∈ bs, Rp K G b.1 b.2) → Rps K G (bs.map Prod.fst) (bs.map Prod.snd)
  | [], _ => .nil
  | b :: bs, h => .cons (h b (List.mem_cons_self ..)) (Rps.unzip fun c hc => h c (List.mem_cons_of_mem _ hc))
theorem d_sort {b : Bs} : DoesN b (rSortD b.K) sortD := fun {c G H ρ σ xs ds z Q} S hx e q => by
  unfold sortD at e
  split at e
  · rename_i xs'
    split at e
    · rename_i hs
      cases e
      rw [Bool.and_eq_true, Bool.and_eq_true] at hs
      obtain ⟨v, rfl, h1⟩ := ros1 hx
      obtain ⟨p, vs, rfl, r1, r2⟩ := h1.list S.gh
      obtain ⟨bs, rfl, rfl, h3⟩ := r2.zip
      refine ⟨p, bs, rfl, SqL.of r1, Rps.dp _ _ (Rps.monoG S.gh _ _ r2), alikeA_of hs.1.2, sortB_of hs.2, shL_of hs.1.1, fun l hl => ?_⟩
      have em : ((bs.mergeSort (PySem.W.dataLe false Prod.snd)).map Prod.snd) = (bs.map Prod.snd).mergeSort leD := List.map_mergeSort fun a _ b _ => rfl
      have r3 : Rps b.K G ((bs.mergeSort (PySem.W.dataLe false Prod.snd)).map Prod.fst) ((bs.map Prod.snd).mergeSort leD) := by
        rw [← em]
        exact Rps.unzip fun c hc => h3 c (List.mem_mergeSort.mp hc)
      exact fin_l S q hl r3
    · cases e
  · cases e
section
variable {X : Cx} {b : Bs} {W : WX} {e : Expr} {fl : M (List Av)} {p pos : Pos}
theorem m_sorted (hK : X.K = b.K) (hu : X.A.units + 64 < cLine) (hg : Gl X "sorted") (hm : X.mg "sorted" = none) (ha : PA X [e] (tL b W fl)) (hs : starEach [e] X.env = (false, eval e X.env) :: starEach [] X.env := by rfl) : PE X (.Call (.Name "sorted" p) [e] [] pos) (tV b W (biM sortD fl)) :=
  m_bi (c_sortD hu) (by rw [hK]; exact d_sort) hg hm (by decide +kernel) ha (by decide) (by decide) hs
end
/-! tuples of ints, one before the other -/
def ltT (x y : Dt) : Option Bool := match x, y with
  | .tuple xs, .tuple ys => (intsOf xs).bind fun ns => (intsOf ys).map fun ms => HT.lexLt ns ms
  | _, _ => none
theorem rps_ints {K : Fg} {G : Hp} : ∀ {vs : List V} {ns : List Int}, Rps K G vs (ns.map PyData.int) → vs = ns.map V.int
  | _, [], h => by cases h; rfl
  | _, n :: ns, h => by
    cases h with
    | cons h1 h2 =>
      cases h1
      rw [rps_ints h2]
      rfl
theorem t_ltT {b : Bs} : Tells b (rLtT b.K) ltT := fun {c G H ρ σ x y dx dy z Q} S hx hy e q => by
  unfold ltT at e
  split at e
  · rename_i xs ys
    cases h1 : intsOf xs with
    | none => rw [h1] at e; cases e
    | some ns =>
      cases h2 : intsOf ys with
      | none => rw [h1, h2] at e; cases e
      | some ms =>
        rw [h1, h2] at e
        cases e
        rw [intsOf_of h1] at hx
        rw [intsOf_of h2] at hy
        obtain ⟨p, vs, rfl, r1, r2⟩ := hx.tup
        obtain ⟨p', vs', rfl, r1', r2'⟩ := hy.tup
        rw [rps_ints r2] at r1
        rw [rps_ints r2'] at r1'
        exact ⟨p, p', ns, ms, rfl, rfl, same_sqT S.gh r1, same_sqT S.gh r1', q⟩
  · cases e
theorem units0 {u : Nat} (h : u + 64 < cLine) : u < cLine := by omega
/-! list(range(..)) -/
def lrg1 (f : M Av) : M Rv := bindM f fun a => optM fun ρ => match res ρ a with
  | some (.int j) => if mid j && Nat.ble j.toNat 1000000 then some (.l (rangeD 0 j.toNat)) else none
  | _ => none
def lrg2 (f g : M Av) : M Rv := bindM f fun a => bindM g fun b => optM fun ρ => match res ρ a, res ρ b with
  | some (.int i), some (.int j) => if mid i && mid j && Nat.ble (j - i).toNat 1000000 then some (.l (rangeD i (j - i).toNat)) else none
  | _, _ => none
theorem rps_range {K : Fg} {G : Hp} (f : Nat → Int) : ∀ l : List Nat, Rps K G (l.map fun i => V.int (f i)) (l.map fun i => PyData.int (f i))
  | [] => .nil
  | x :: l => .cons (.int _) (rps_range f l)
section
variable {X : Cx} {b : Bs} {W : WX} {e e2 : Expr} {fa fb : M Av} {p pos p2 pos2 : Pos}
theorem m_listRange1 (hc : X.calm = true) (hg : Gl X "list") (hm : X.mg "list" = none) (hg2 : Gl X "range") (hm2 : X.mg "range" = none) (ha : PE X e (tE b W fa)) (na : starEach [e] X.env = (false, eval e X.env) :: starEach [] X.env := by rfl)
    (na2 : starEach [.Call (.Name "range" p2) [e] [] pos2] X.env = (false, eval (.Call (.Name "range" p2) [e] [] pos2) X.env) :: starEach [] X.env := by rfl) : PE X (.Call (.Name "list" p) [.Call (.Name "range" p2) [e] [] pos2] [] pos) (tV b W (lrg1 fa)) :=
  weakE (pe_listRg hc hg hm (prg_1 hg2 hm2 ha na) na2) fun σ H Q ⟨c, G, ρ, S, q⟩ => ⟨c, G, ρ, S, (Post.bind q).imp fun a ρ1 G1 H1 e1 S1 q1 v hv => by
    unfold optM at q1
    split at q1
    · rename_i z hz
      dsimp only at hz
      split at hz
      · rename_i j hj
        split at hz
        · rename_i hl
          cases hz
          rw [Bool.and_eq_true] at hl
          obtain ⟨l1, l2⟩ := hl
          have l1 := mid_of l1
          have l2 := Nat.le_of_ble_eq_true l2
          refine ⟨j, (hv.res S1 hj).int, ⟨by omega, by omega, l1.1, l1.2, by rw [Int.sub_zero]; omega⟩, fun l hl => ?_⟩
          unfold rgV
          rw [Int.sub_zero]
          exact fin_l S1 (fun v H' G' e2 S2 rn ap => q1 H' G' e2 S2 v rn ap) hl (rps_range (fun i : Nat => (0 : Int) + (i : Int)) _)
        · cases hz
      · cases hz
    · exact q1.elim⟩
theorem m_listRange2 (hc : X.calm = true) (hg : Gl X "list") (hm : X.mg "list" = none) (hg2 : Gl X "range") (hm2 : X.mg "range" = none) (ha : PE X e (tE b W fa)) (hb : PE X e2 (tE b W fb)) (na : starEach [e, e2] X.env = (false, eval e X.env) :: starEach [e2] X.env := by rfl)
    (nb : starEach [e2] X.env = (false, eval e2 X.env) :: starEach [] X.env := by rfl) (hp : (backTo pos2 (starEach [e2] X.env)).any (·.1) = false := by rfl)
    (na2 : starEach [.Call (.Name "range" p2) [e, e2] [] pos2] X.env = (false, eval (.Call (.Name "range" p2) [e, e2] [] pos2) X.env) :: starEach [] X.env := by rfl) : PE X (.Call (.Name "list" p) [.Call (.Name "range" p2) [e, e2] [] pos2] [] pos) (tV b W (lrg2 fa fb)) :=
  weakE (pe_listRg hc hg hm (prg_2 hg2 hm2 ha hb na nb hp) na2) fun σ H Q ⟨c, G, ρ, S, q⟩ => ⟨c, G, ρ, S, (Post.bind q).imp fun a ρ1 G1 H1 e1 S1 q1 v hv => ⟨c, G1, ρ1, S1, (Post.bind q1).imp fun a2 ρ2 G2 H2 e2 S2 q2 u hu => by
    unfold optM at q2
    split at q2
    · rename_i z hz
      dsimp only at hz
      split at hz
      · rename_i i j hi hj
        split at hz
        · rename_i hl
          cases hz
          rw [Bool.and_eq_true, Bool.and_eq_true] at hl
          obtain ⟨⟨l0, l1⟩, l2⟩ := hl
          have l0 := mid_of l0
          have l1 := mid_of l1
          have l2 := Nat.le_of_ble_eq_true l2
          refine ⟨i, j, ((hv.mono e2).res S2 hi).int, (hu.res S2 hj).int, ⟨l0.1, l0.2, l1.1, l1.2, by omega⟩, fun l hl => ?_⟩
          unfold rgV
          exact fin_l S2 (fun v H' G' e2 S2 rn ap => q2 H' G' e2 S2 v rn ap) hl (rps_range (fun k : Nat => i + (k : Int)) _)
        · cases hz
      · cases hz
    · exact q2.elim⟩⟩
end
/-! xs[::-1] -/
def revD : Dt → Option Rv
  | .list xs => some (.l xs.reverse)
  | _ => none
def revM (f : M Av) : M Rv := un1 revD f
theorem Rps.reverse {K : Fg} {G : Hp} {vs : List V} {ds : List Dt} (h : Rps K G vs ds) : Rps K G vs.reverse ds.reverse := by
  obtain ⟨bs, rfl, rfl, h3⟩ := h.zip
  rw [← List.map_reverse, ← List.map_reverse]
  exact Rps.unzip fun c hc => h3 c (List.mem_reverse.mp hc)
section
variable {X : Cx} {b : Bs} {W : WX} {e : Expr} {fa : M Av} {k : Nat} {p1 p2 p3 pos : Pos}
theorem m_rev (hK : X.K = b.K) (ha : PE X e (tE b W fa)) : PE X (.Subscript e (.Slice none none (some (.UnaryOp .USub (.Constant (.int 1) k p1) p2)) p3) pos) (tV b W (revM fa)) :=
  weakE (pe_revL ha) fun σ H Q ⟨c, G, ρ, S, q⟩ => ⟨c, G, ρ, S, (Post.bind q).imp fun a ρ1 G1 H1 e1 S1 q1 v hv => by
    unfold optM at q1
    split at q1
    · rename_i z hz
      dsimp only at hz
      cases hx : res ρ1 a with
      | none => rw [hx] at hz; cases hz
      | some x =>
        rw [hx] at hz
        cases x with
        | list xs =>
          cases hz
          obtain ⟨p, vs, rfl, r1, r2⟩ := (hv.res S1 hx).list S1.gh
          exact ⟨p, vs, rfl, by rw [hK]; exact SqL.of r1, fun l hl => fin_l S1 (fun v H' G' e2 S2 rn ap => q1 H' G' e2 S2 v rn ap) hl r2.reverse⟩
        | _ => cases hz
    · exact q1.elim⟩
end
theorem sl_any {X : Cx} : SlR X (rSlD X.K) := SlR.or sl_list sl_str
/-! what these do -/
@[simp] theorem ltT_t (xs ys : List Dt) : ltT (.tuple xs) (.tuple ys) = (intsOf xs).bind fun ns => (intsOf ys).map fun ms => HT.lexLt ns ms := rfl
@[simp] theorem revM_ap (f : M Av) (ρ : Ev) : revM f ρ = un1 revD f ρ := rfl
@[simp] theorem revD_l (xs : List Dt) : revD (.list xs) = some (.l xs.reverse) := rfl
@[simp] theorem lrg1_ap (f : M Av) (ρ : Ev) : lrg1 f ρ = bindM f (fun a => optM fun ρ => match res ρ a with
  | some (.int j) => if mid j && Nat.ble j.toNat 1000000 then some (.l (rangeD 0 j.toNat)) else none
  | _ => none) ρ := rfl
@[simp] theorem lrg2_ap (f g : M Av) (ρ : Ev) : lrg2 f g ρ = bindM f (fun a => bindM g fun b => optM fun ρ => match res ρ a, res ρ b with
  | some (.int i), some (.int j) => if mid i && mid j && Nat.ble (j - i).toNat 1000000 then some (.l (rangeD i (j - i).toNat)) else none
  | _, _ => none) ρ := rfl
end G8
namespace G8
open PySem L2
/-! dicts: a slot's own, or locked -/
def keyD : Key → Dt
  | .inl i => .int i
  | .inr x => .str x
theorem rp_key {K : Fg} {G : Hp} (k : Key) : Rp K G (kV k) (keyD k) := by
  cases k with
  | inl i => exact .int i
  | inr x => exact .str x
def dkey : Dt → Option Key
  | .int i => some (.inl i)
  | .str x => some (.inr x)
  | _ => none
theorem dkey_of {x : Dt} {k : Key} (h : dkey x = some k) : x = keyD k := by
  cases x <;> first | (cases h; rfl) | cases h
theorem rp_kV {K : Fg} {G : Hp} {v : V} {k : Key} (h : Rp K G v (keyD k)) : v = kV k := by
  cases k with
  | inl i => cases h; rfl
  | inr x => cases h; rfl
/-- the dict in a slot -/
def slotK : Option (Option Sv) → Option (List (Key × Dt))
  | some (some (.dk _ kvs)) => some kvs
  | some (some (.fk kvs)) => some kvs
  | _ => none
theorem slot_rd {b : Bs} {c : Fc} {G H : Hp} {ρ : Ev} {σ : St} {i : Nat} {kvs : List (Key × Dt)} {v : V} (S : SIG b c G ρ σ H) (h : σ[i]? = some (some v)) (e : slotK ρ[i]? = some kvs) : ∃ p vs, v = .ref p ∧ Rd H p (.dK vs) ∧ RpK b.K G vs kvs := by
  unfold slotK at e
  split at e
  · rename_i r ks q
    cases e
    obtain ⟨u, hu, p, vs, e1, e2, e3, e4⟩ := S.sl i _ q
    rw [h] at hu
    cases hu
    exact ⟨p, vs, e1, .inl e2, e4⟩
  · rename_i ks q
    cases e
    obtain ⟨u, hu, p, od, vs, e1, e2, e3⟩ := S.sl i _ q
    rw [h] at hu
    cases hu
    exact ⟨p, vs, e1, .inr ⟨od, S.gh _ _ e2 rfl⟩, e3⟩
  · cases e
theorem ro_key {K : Fg} {G H : Hp} {v : V} {x : Dt} {k : Key} (h : RO K G H v x) (e : dkey x = some k) : v = kV k := by
  have := dkey_of e
  subst this
  cases k with
  | inl i => exact RO.int h
  | inr s => exact RO.str h
def kGet (kvs : List (Key × Dt)) (k : Key) : Option Dt := (kvs.find? fun kv => decide (kv.1 = k)).map (·.2)
def kPut (kvs : List (Key × Dt)) (k : Key) (d : Dt) : List (Key × Dt) := if (kvs.any fun kv => decide (kv.1 = k)) = true then kvs.map (fun kv => if kv.1 = k then (kv.1, d) else kv) else kvs ++ [(k, d)]
def kDrop (kvs : List (Key × Dt)) (k : Key) : List (Key × Dt) := kvs.filter fun kv => decide (kv.1 ≠ k)
section
variable {K : Fg} {G : Hp} {vs : List (Key × V)} {kvs : List (Key × Dt)} {k : Key}
theorem rk_get (h : RpK K G vs kvs) (k : Key) : (valV vs k = none ∧ kGet kvs k = none) ∨ ∃ v d, valV vs k = some v ∧ kGet kvs k = some d ∧ Rp K G v d := by
  unfold RpK at h
  induction h with
  | nil => exact .inl ⟨rfl, rfl⟩
  | @cons p q ps qs r t ih =>
    by_cases e : p.1 = k
    · have e2 : q.1 = k := by rw [← r.1]; exact e
      exact .inr ⟨p.2, q.2, valV_pos e, by simp [kGet, e2], r.2⟩
    · have e2 : ¬ q.1 = k := by rw [← r.1]; exact e
      rw [valV_neg e, show kGet (q :: qs) k = kGet qs k by simp [kGet, e2]]
      exact ih
theorem rk_any (h : RpK K G vs kvs) (k : Key) : (vs.any fun kv => decide (kv.1 = k)) = (kvs.any fun kv => decide (kv.1 = k)) := by
  unfold RpK at h
  induction h with
  | nil => rfl
  | @cons p q ps qs r t ih => rw [List.any_cons, List.any_cons, ih, r.1]
theorem rk_append {vs2 : List (Key × V)} {kvs2 : List (Key × Dt)} (h : RpK K G vs kvs) (h2 : RpK K G vs2 kvs2) : RpK K G (vs ++ vs2) (kvs ++ kvs2) := by
  unfold RpK at *
  induction h with
  | nil => exact h2
  | @cons p q ps qs r t ih => exact .cons r ih
theorem rk_map (h : RpK K G vs kvs) (k : Key) {v : V} {d : Dt} (r : Rp K G v d) : RpK K G (vs.map fun kv => if kv.1 = k then (kv.1, v) else kv) (kvs.map fun kv => if kv.1 = k then (kv.1, d) else kv) := by
  unfold RpK at *
  induction h with
  | nil => exact .nil
  | @cons p q ps qs rr t ih =>
    refine .cons ?_ ih
    by_cases e : p.1 = k
    · have e2 : q.1 = k := by rw [← rr.1]; exact e
      dsimp only
      rw [if_pos e, if_pos e2]
      exact ⟨rr.1, r⟩
    · have e2 : ¬ q.1 = k := by rw [← rr.1]; exact e
      dsimp only
      rw [if_neg e, if_neg e2]
      exact rr
theorem rk_put (h : RpK K G vs kvs) (k : Key) {v : V} {d : Dt} (r : Rp K G v d) : RpK K G (L2.putK vs k v) (kPut kvs k d) := by
  unfold L2.putK kPut
  rw [rk_any h k]
  split
  · exact rk_map h k r
  · exact rk_append h (.cons ⟨rfl, r⟩ .nil)
theorem rk_drop (h : RpK K G vs kvs) (k : Key) : RpK K G (dropK vs k) (kDrop kvs k) := by
  unfold RpK at *
  induction h with
  | nil => exact .nil
  | @cons p q ps qs rr t ih =>
    unfold dropK kDrop at *
    by_cases e : p.1 = k
    · have e2 : q.1 = k := by rw [← rr.1]; exact e
      rw [List.filter_cons_of_neg (by simp [e]), List.filter_cons_of_neg (by simp [e2])]
      exact ih
    · have e2 : ¬ q.1 = k := by rw [← rr.1]; exact e
      rw [List.filter_cons_of_pos (by simp [e]), List.filter_cons_of_pos (by simp [e2])]
      exact .cons rr ih
theorem rk_len (h : RpK K G vs kvs) : vs.length = kvs.length := Paired.length h
theorem rk_keys (h : RpK K G vs kvs) : vs.map (·.1) = kvs.map (·.1) := by
  unfold RpK at h
  induction h with
  | nil => rfl
  | @cons p q ps qs rr t ih => rw [List.map_cons, List.map_cons, ih, rr.1]
end
def inK (n : Bool) (i : Nat) (fa : M Av) : M Av := bindM fa fun a => optM fun ρ => (slotK ρ[i]?).bind fun kvs => ((res ρ a).bind dkey).map fun k => .d (.bool (if n then !(kGet kvs k).isSome else (kGet kvs k).isSome))
def getK (i : Nat) (fb : M Av) : M Av := bindM (varM i) fun _ => bindM fb fun a => optM fun ρ => (slotK ρ[i]?).bind fun kvs => ((res ρ a).bind dkey).bind fun k => (kGet kvs k).map Av.d
section
variable {X : Cx} {b : Bs} {W : WX} {a : Expr} {fa : M Av} {x : Str} {pn pos : Pos}
theorem get_core {c : Fc} {G H : Hp} {ρ : Ev} {σ : St} {i : Nat} {z : Av} {v u : V} {kvs : List (Key × Dt)} {k : Key} (S : SIG b c G ρ σ H) (hz : RA b.K G σ v z) (hi : σ[i]? = some (some u)) (e1 : slotK ρ[i]? = some kvs) (e2 : (res ρ z).bind dkey = some k) :
    ∃ p o, u = .ref p ∧ DGet H p v o ∧ o.isSome = (kGet kvs k).isSome ∧ ∀ d, kGet kvs k = some d → ∃ w, o = some w ∧ Rp b.K G w d := by
  obtain ⟨p, vs, rfl, rd, rk⟩ := slot_rd S hi e1
  cases hr : res ρ z with
  | none => rw [hr] at e2; cases e2
  | some y =>
    rw [hr] at e2
    have hv : v = kV k := ro_key (hz.res S hr) e2
    subst hv
    refine ⟨p, valV vs k, rfl, .inl ⟨vs, k, rd, rfl, rfl⟩, ?_, fun d hd => ?_⟩
    · rcases rk_get rk k with ⟨q1, q2⟩ | ⟨w, d, q1, q2, _⟩ <;> rw [q1, q2] <;> rfl
    · rcases rk_get rk k with ⟨q1, q2⟩ | ⟨w, d', q1, q2, q3⟩
      · rw [q2] at hd; cases hd
      · rw [q2] at hd
        cases hd
        exact ⟨w, q1, q3⟩
theorem var_at {c : Fc} {G H : Hp} {ρ : Ev} {σ : St} {i : Nat} {kvs : List (Key × Dt)} (S : SIG b c G ρ σ H) (e : slotK ρ[i]? = some kvs) : ∃ u, σ[i]? = some (some u) := by
  unfold slotK at e
  split at e
  · rename_i r ks q
    obtain ⟨u, hu, _⟩ := S.sl i _ q
    exact ⟨u, hu⟩
  · rename_i ks q
    obtain ⟨u, hu, _⟩ := S.sl i _ q
    exact ⟨u, hu⟩
  · cases e
theorem m_inK (hu : X.A.units + 1 < cLine) (i : Nat) (ha : PE X a (tE b W fa)) (hv : PE X (.Name x pn) (tVar i)) : PE X (.Compare a [.In] [.Name x pn] pos) (tE b W (inK false i fa)) := weakE (pe_cmp (pc_din hu ha hv)) fun σ H Q ⟨c, G, ρ, S, q⟩ => ⟨c, G, ρ, S, (Post.bind q).imp fun z ρ1 G1 H1 e1 S1 q1 v hv => by
  obtain ⟨k, h1, h2⟩ := q1.opt S1
  cases e1 : slotK ρ1[i]? with
  | none => rw [e1] at h1; cases h1
  | some kvs =>
    cases e2 : (res ρ1 z).bind dkey with
    | none => rw [e1, e2] at h1; cases h1
    | some kk =>
      rw [e1, e2] at h1
      cases h1
      obtain ⟨u, hu⟩ := var_at S1 e1
      obtain ⟨p, o, rfl, g, is, _⟩ := get_core S1 hv hu e1 e2
      refine ⟨.ref p, hu, p, o, rfl, g, ?_⟩
      rw [is]
      exact h2 _ (.bl _)⟩
theorem m_ninK (hu : X.A.units + 1 < cLine) (i : Nat) (ha : PE X a (tE b W fa)) (hv : PE X (.Name x pn) (tVar i)) : PE X (.Compare a [.NotIn] [.Name x pn] pos) (tE b W (inK true i fa)) := weakE (pe_cmp (pc_dnotin hu ha hv)) fun σ H Q ⟨c, G, ρ, S, q⟩ => ⟨c, G, ρ, S, (Post.bind q).imp fun z ρ1 G1 H1 e1 S1 q1 v hv => by
  obtain ⟨k, h1, h2⟩ := q1.opt S1
  cases e1 : slotK ρ1[i]? with
  | none => rw [e1] at h1; cases h1
  | some kvs =>
    cases e2 : (res ρ1 z).bind dkey with
    | none => rw [e1, e2] at h1; cases h1
    | some kk =>
      rw [e1, e2] at h1
      cases h1
      obtain ⟨u, hu⟩ := var_at S1 e1
      obtain ⟨p, o, rfl, g, is, _⟩ := get_core S1 hv hu e1 e2
      refine ⟨.ref p, hu, p, o, rfl, g, ?_⟩
      rw [is]
      exact h2 _ (.bl _)⟩
theorem m_getK (hu : X.A.units + 1 < cLine) (hs : NoSl a) (i : Nat) (hv : PE X (.Name x pn) (tVar i)) (ha : PE X a (tE b W fa)) : PE X (.Subscript (.Name x pn) a pos) (tE b W (getK i fa)) := weakE (pe_dget hu hv ha hs) fun σ H Q ⟨c, G, ρ, S, q⟩ => by
  have q' := Post.bind q
  unfold varM at q'
  split at q'
  · rename_i sv hs
    obtain ⟨v0, hv0, _⟩ := S.sl i sv hs
    have q2 := q' H G (Same.refl G) S
    refine ⟨v0, hv0, c, G, ρ, S, (Post.bind q2).imp fun z ρ1 G1 H1 e1 S1 q1 v hv => ?_⟩
    obtain ⟨k, h1, h2⟩ := q1.opt S1
    cases e1 : slotK ρ1[i]? with
    | none => rw [e1] at h1; cases h1
    | some kvs =>
      cases e2 : (res ρ1 z).bind dkey with
      | none => rw [e1, e2] at h1; cases h1
      | some kk =>
        cases e3 : kGet kvs kk with
        | none => rw [e1, e2] at h1; simp [e3] at h1
        | some d =>
          rw [e1, e2] at h1
          simp [e3] at h1
          subst h1
          obtain ⟨p, o, rfl, g, is, gt⟩ := get_core S1 hv hv0 e1 e2
          obtain ⟨w, rfl, rw'⟩ := gt d e3
          exact ⟨p, w, rfl, g, h2 w rw'⟩
  · exact q'.elim
/-! a new dict, stores, pops -/
theorem m_newK : PE X (.Dict [] [] pos) (tV b W (retM (.k []))) := weakE pe_dnewK fun σ H Q ⟨c, G, ρ, S, q⟩ p hp =>
  q (upd H p (.dK [])) G (Same.refl G) (S.alloc hp) (.ref p) ⟨p, [], rfl, upd_same, S.free hp, .nil, S.fresh0 hp⟩ fun p' e _ => by cases e; exact S.noOwn hp
def putKM (i : Nat) (fe fk : M Av) : M Fl := bindM fe fun a => bindM (varM i) fun _ => bindM fk fun k ρ => match ρ[i]?, fzv ρ a, (res ρ k).bind dkey with
  | some (some (.dk r kvs)), some d, some kk => if kvs.length < 1000000 then .ok .nx (ρ.set i (some (.dk r (kPut kvs kk d)))) else .bad
  | _, _, _ => .bad
theorem s_putK {e k : Expr} {fe fk : M Av} {tp : Pos} (hu : X.A.units + 1 < cLine) (i : Nat) (hv : PE X (.Name x pn) (tVar i)) (he : PE X e (tE b W fe)) (hk : PE X k (tE b W fk)) (hs : swapsWith e (some (.Subscript (.Name x pn) k tp)) pos.line X.env = pure false := by rfl) :
    PS X (.Assign [.Subscript (.Name x pn) k tp] e pos) (tS b W (putKM i fe fk)) := weakS (ps_dput hu hv hk he hs) fun D σ H ⟨c, G, ρ, hb, S, q⟩ =>
  ⟨c, G, ρ, S, (PostS.bind σ q).imp fun a ρ1 G1 H1 e1 S1 q1 v hv => by
    have q1' := PostS.bind σ q1
    unfold varM at q1'
    split at q1'
    · rename_i sv hs0
      obtain ⟨w, hw, _⟩ := S1.sl i sv hs0
      have q1'' := q1' H1 G1 (Same.refl G1) S1
      refine ⟨w, hw, c, G1, ρ1, S1, (PostS.bind σ q1'').imp fun kk ρ2 G2 H2 e2 S2 q2 u hu => ?_⟩
      split at q2
      · rename_i r kvs d key hsl hf hkk
        split at q2
        · rename_i hlen
          obtain ⟨v', hv', p', vs', e', b2, b3, b4⟩ := S2.sl i _ hsl
          rw [hw] at hv'
          cases hv'
          subst e'
          cases hr : res ρ2 kk with
          | none => rw [hr] at hkk; cases hkk
          | some y =>
            rw [hr] at hkk
            have hy : u = kV key := ro_key (hu.res S2 hr) hkk
            subst hy
            have S3 := S2.mut (o := .dK (L2.putK vs' key v)) (sv' := .dk r (kPut kvs key d)) hsl rfl hw rfl rfl ⟨p', _, rfl, upd_same, b3, rk_put b4 key ((hv.mono e2).fz S2 hf)⟩
            exact ⟨p', _, rfl, .inl ⟨vs', key, b2, rfl, by rw [rk_len b4, sizeLine_eq]; omega, rfl⟩, q2 σ _ G2 (Same.refl G2) S3⟩
        · exact q2.elim
      · exact q2.elim
    · exact q1'.elim⟩
def popKM (i : Nat) (fe : M Av) : M Rv := bindM (optM fun ρ => slotK ρ[i]?) fun _ => bindM fe fun a ρ => match ρ[i]?, (res ρ a).bind dkey with
  | some (some (.dk r kvs)), some k => (match kGet kvs k with
    | some d => .ok (.d d) (ρ.set i (some (.dk r (kDrop kvs k))))
    | none => .bad)
  | _, _ => .bad
theorem m_popK {e : Expr} {fe : M Av} {apos cpos : Pos} (i : Nat) (hv : PE X (.Name x pn) (tVar i)) (he : PE X e (tE b W fe)) (m : M1 X (.Name x pn) "pop" apos e cpos) : PE X (.Call (.Attribute (.Name x pn) "pop" apos) [e] [] cpos) (tV b W (popKM i fe)) := weakE (pe_dpop1 hv he m) fun σ H Q ⟨c, G, ρ, S, q⟩ => by
  obtain ⟨kvs0, h1, h2⟩ := (Post.bind q).opt S
  obtain ⟨w, hw⟩ := var_at S h1
  obtain ⟨p, vs, rfl, rd, rk⟩ := slot_rd S hw h1
  refine ⟨.ref p, hw, p, rfl, .inl ⟨vs, rd⟩, c, G, ρ, S, (Post.bind h2).imp fun kk ρ2 G2 H2 e2 S2 q2 u hu => ?_⟩
  split at q2
  · rename_i r kvs key hsl hkk
    split at q2
    · rename_i d hd
      obtain ⟨v', hv', p', vs', e', b2, b3, b4⟩ := S2.sl i _ hsl
      rw [hw] at hv'
      cases hv'
      cases e'
      cases hr : res ρ2 kk with
      | none => rw [hr] at hkk; cases hkk
      | some y =>
        rw [hr] at hkk
        have hy : u = kV key := ro_key (hu.res S2 hr) hkk
        subst hy
        rcases rk_get b4 key with ⟨z1, z2⟩ | ⟨v, d', z1, z2, z3⟩
        · rw [hd] at z2; cases z2
        · rw [hd] at z2
          cases z2
          have S3 := S2.mut (o := .dK (dropK vs' key)) (sv' := .dk r (kDrop kvs key)) hsl rfl hw rfl rfl ⟨p, _, rfl, upd_same, b3, rk_drop b4 key⟩
          exact ⟨vs', key, v, b2, rfl, z1, q2 _ G2 (Same.refl G2) S3 v z3 fun _ _ z => by cases z⟩
    · exact q2.elim
  · exact q2.elim
def keysM (i : Nat) : M (List Dt) := optM fun ρ => match ρ[i]? with
  | some (some (.fk kvs)) => some (kvs.map fun kv => keyD kv.1)
  | _ => none
theorem yl_keys {K : Fg} {G : Hp} {d : Addr} {o : Obj} {vs : List (Key × V)} {kvs : List (Key × Dt)} (h : G d = some (.frz o (.dK vs))) (r : RpK K G vs kvs) : Yl K G (Itk d o vs) (kvs.map fun kv => keyD kv.1) := by
  have hk := rk_keys r
  have hl := rk_len r
  refine ⟨fun i H e hi => ⟨e _ _ h rfl, by simp at hi; omega⟩, fun i H x H' e hi hy => ?_, fun H e => ⟨e _ _ h rfl, by simp; omega⟩⟩
  obtain ⟨rfl, k, v, e1, rfl⟩ := hy
  refine ⟨rfl, keyD k, ?_, rp_key k⟩
  have : (vs.map (·.1))[i]? = some k := by rw [List.getElem?_map, e1]; rfl
  rw [hk, List.getElem?_map] at this
  rw [List.getElem?_map]
  cases q : kvs[i]? with
  | none => rw [q] at this; cases this
  | some kv =>
    rw [q] at this
    have this : kv.1 = k := Option.some.inj this
    rw [Option.map_some, this]
theorem i_keys {tg : Expr} {apos cpos : Pos} (hK : X.K = b.K) (i : Nat) (hv : PE X (.Name x pn) (tVar i)) (hbase : attributeBase (.Name x pn) "keys" X.env (eval (.Name x pn) X.env) = eval (.Name x pn) X.env := by rfl) (hline : (apos.endLine == cpos.line) = true := by rfl) :
    PI X tg (.Call (.Attribute (.Name x pn) "keys" apos) [] [] cpos) (tI b W (keysM i)) := weakI (pi_keysM hv hbase hline) fun σ H R ⟨c, G, ρ, S, q⟩ => by
  obtain ⟨ds, h1, h2⟩ := q.opt S
  split at h1
  · rename_i kvs hs
    cases h1
    obtain ⟨u, hu, p, od, vs, e1, e2, e3⟩ := S.sl i _ hs
    subst e1
    exact ⟨.ref p, hu, p, od, vs, rfl, S.gh _ _ e2 rfl, h2 _ (yl_keys e2 e3)⟩
  · cases h1
/-! a dict is locked while a statement runs -/
def isFk : Option Sv → Bool
  | some (.fk _) => true
  | _ => false
def noFk (ρ : Ev) (i : Nat) : Bool := (List.range ρ.length).all fun j => decide (j = i) || !isFk (ρ.getD j none)
def lockE (i : Nat) (f : M Rv) : M Rv := fun ρ => match ρ[i]? with
  | some (some (.dk false kvs)) => (match f (ρ.set i (some (.fk kvs))) with
    | .ok r ρ' => (match ρ'[i]? with
      | some (some (.fk kvs')) => if noFk ρ' i then .ok r (ρ'.set i (some (.dk false kvs'))) else .bad
      | _ => .bad)
    | _ => .bad)
  | _ => .bad
/-- the ground without the locked thing -/
def offG (G : Hp) (p : Addr) : Hp := fun a => if a = p then none else G a
theorem offG_ne {G : Hp} {p a : Addr} (h : a ≠ p) : offG G p a = G a := by unfold offG; rw [if_neg h]
theorem offG_eq {G : Hp} {p : Addr} : offG G p p = none := by unfold offG; rw [if_pos rfl]
section
variable {K : Fg} {G : Hp} {p : Addr} {od : Obj} {vs : List (Key × V)} (hp : G p = some (.frz od (.dK vs)))
include hp
theorem sqT_off {a : Addr} {xs : List V} (h : TupK K G a xs) : TupK K (offG G p) a xs := by
  rcases h with h | h
  · refine .inl ?_
    rw [offG_ne (fun z => by subst z; rw [hp] at h; cases h)]
    exact h
  · exact .inr h
mutual
theorem Rp.off : ∀ (d : Dt) (v : V), Rp K G v d → Rp K (offG G p) v d
  | .none, _, h => by cases h; exact .non
  | .bool b, _, h => by cases h; exact .bl b
  | .int i, _, h => by cases h; exact .int i
  | .str x, _, h => by cases h; exact .str x
  | .list ds, _, h => by
    cases h with
    | @lst a xs _ h1 h2 =>
      refine .lst ?_ (Rps.off ds _ h2)
      rw [offG_ne (fun z => by subst z; rw [hp] at h1; cases h1)]
      exact h1
  | .tuple ds, _, h => by
    cases h with
    | tup h1 h2 => exact .tup (sqT_off hp h1) (Rps.off ds _ h2)
  | .dict _, _, h => by cases h
theorem Rps.off : ∀ (ds : List Dt) (vs : List V), Rps K G vs ds → Rps K (offG G p) vs ds
  | [], _, h => by cases h; exact .nil
  | d :: ds, _, h => by
    cases h with
    | cons h1 h2 => exact .cons (Rp.off d _ h1) (Rps.off ds _ h2)
end
theorem RpK.off {ws : List (Key × V)} {kvs : List (Key × Dt)} (h : RpK K G ws kvs) : RpK K (offG G p) ws kvs := Paired.mapP h fun _ _ z => ⟨z.1, Rp.off hp _ _ z.2⟩
end
theorem SIG.lock {c : Fc} {G H : Hp} {ρ : Ev} {σ : St} {i : Nat} {kvs : List (Key × Dt)} (S : SIG b c G ρ σ H) (hb : c.Fn) (e : ρ[i]? = some (some (.dk false kvs))) :
    ∃ p vs, σ[i]? = some (some (.ref p)) ∧ H p = some (.dK vs) ∧ G p = none ∧ c.H0 p = none ∧ RpK b.K G vs kvs ∧ ∀ od, Same G (upd G p (.frz od (.dK vs))) ∧ SIG b c (upd G p (.frz od (.dK vs))) (ρ.set i (some (.fk kvs))) σ (upd H p (.frz od (.dK vs))) := by
  obtain ⟨v, hv, p, vs, rfl, hp, gp, rk⟩ := S.sl i _ e
  have op : Open c ρ i := fun s q => by rw [e] at q; cases q; exact .inr ⟨hb, rfl⟩
  have h0 : c.H0 p = none := by
    rcases S.nw i _ p e rfl hv with z | ⟨f, z⟩
    · exact z
    · exact absurd z (S.noRef op p f)
  refine ⟨p, vs, hv, hp, gp, h0, rk, fun od => ?_⟩
  have s1 : Same G (upd G p (.frz od (.dK vs))) := fun a u q => by rw [upd_ne (ne_of_none q gp)]; exact q
  have hil : i < ρ.length := (List.getElem?_eq_some_iff.mp e).1
  have get : ∀ {j s}, (ρ.set i (some (.fk kvs)))[j]? = some (some s) → (j = i ∧ s = .fk kvs) ∨ (i ≠ j ∧ ρ[j]? = some (some s)) := fun {j s} q => by
    by_cases hj : i = j
    · subst hj
      rw [getElem?_set_eq', if_pos rfl, if_pos hil] at q
      cases q
      exact .inl ⟨rfl, rfl⟩
    · rw [List.getElem?_set_ne hj] at q
      exact .inr ⟨hj, q⟩
  have gmt : ∀ {j : Nat} {s : Sv}, (ρ.set i (some (.fk kvs)))[j]? = some (some s) → s.isMt = true → ρ[j]? = some (some s) := fun {j s} q hs => by
    rcases get q with ⟨_, rfl⟩ | ⟨_, q⟩
    · cases hs
    · exact q
  refine ⟨s1, by rw [List.length_set]; exact S.len, S.g0.trans s1, fun a u q hm => ?_, fun a hm => ?_, fun a u q m n zz => ?_, fun a u q => ?_, fun j s q => ?_, fun j k sj sk a q1 q2 o1 o2 a1 a2 => ?_, fun j s a q o1 a1 => ?_, fun j a f hj => ?_, tabs_mut S.tb hp (fun _ z => by cases z) (fun _ z => by cases z), S.ct, S.mzk s1 (fun a u ha q => ?_) (fun j r m a h1 h2 => ⟨j, r, gmt h1 rfl, h2⟩), fun j k sj sk h1 h2 g1 g2 => S.m1 j k sj sk (gmt h1 g1) (gmt h2 g2) g1 g2, S.zz, fun j a f s h1 h2 h3 => S.rk j a f s h1 (gmt h2 h3) h3⟩
  case refine_9 =>
    rw [upd_ne ?_]
    · exact q
    intro z
    rcases ha with ha | ⟨ys, ha⟩ | ⟨j, s, h1, h2, h3⟩
    · exact ha.ne gp z
    · subst ha
      rw [z, hp] at q
      cases q
    · obtain ⟨r, m, rfl⟩ := isMt_of h2
      have ei := S.sp i j _ _ p e h1 rfl rfl hv (by rw [h3, z])
      subst ei
      rw [e] at h1
      cases h1
  · by_cases ha : a = p
    · subst ha
      rw [upd_same] at q ⊢
      exact q
    · rw [upd_ne ha] at q ⊢
      exact S.gh a u q hm
  · obtain ⟨u, h1, h2⟩ := hm
    have ha : a ≠ p := fun z => by
      subst z
      rw [upd_same] at h1
      cases h1
      cases h2
    rw [upd_ne ha] at h1 ⊢
    exact S.gm a ⟨u, h1, h2⟩
  · have ha : a ≠ p := fun z => by subst z; rw [h0] at q; cases q
    rw [upd_ne ha]
    exact S.fr a u q m n zz
  · by_cases ha : a = p
    · subst ha
      exact .inr (.inl h0)
    · rw [upd_ne ha] at q
      exact S.gn a u q
  · rcases get q with ⟨rfl, rfl⟩ | ⟨hj, q⟩
    · exact ⟨.ref p, hv, p, od, vs, rfl, upd_same, rk.mono s1⟩
    · obtain ⟨w, hw, z⟩ := S.sl j s q
      refine ⟨w, hw, z.keep s1 fun a u oo ev ha => ?_⟩
      have hne : a ≠ p := fun y => hj (S.sp i j _ s p e q rfl oo hv (by rw [hw, ev, y]))
      obtain ⟨q', _, e', _, g'⟩ := z.at oo
      rw [ev] at e'
      cases e'
      exact ⟨by rw [upd_ne hne]; exact ha, by rw [upd_ne hne]; exact g'⟩
  · rcases get q1 with ⟨_, w1⟩ | ⟨_, y1⟩
    · rw [w1] at o1; cases o1
    · rcases get q2 with ⟨_, w2⟩ | ⟨_, y2⟩
      · rw [w2] at o2; cases o2
      · exact S.sp j k sj sk a y1 y2 o1 o2 a1 a2
  · rcases get q with ⟨_, w1⟩ | ⟨_, y1⟩
    · rw [w1] at o1; cases o1
    · exact S.nw j s a y1 o1 a1
  · obtain ⟨h1, s, h2, h3⟩ := S.rf j a f hj
    have hne : i ≠ j := fun z => by subst z; exact S.noRef op a f hj
    exact ⟨h1, s, by rw [List.getElem?_set_ne hne]; exact h2, h3⟩
theorem SIG.unlock {c : Fc} {G H : Hp} {ρ : Ev} {σ : St} {i : Nat} {p : Addr} {od : Obj} {vs : List (Key × V)} {kvs : List (Key × Dt)} {G0 : Hp} (S : SIG b c G ρ σ H) (hG : G p = some (.frz od (.dK vs))) (h0 : c.H0 p = none) (hs : σ[i]? = some (some (.ref p))) (e : ρ[i]? = some (some (.fk kvs)))
    (hf : ∀ j, j < ρ.length → j ≠ i → isFk (ρ.getD j none) = false) (s0 : Same G0 G) (g0 : G0 p = none) (c0 : Same c.G0 G0) (rk : RpK b.K G vs kvs) : Same G0 (offG G p) ∧ SIG b c (offG G p) (ρ.set i (some (.dk false kvs))) σ (upd H p (.dK vs)) := by
  have hil : i < ρ.length := (List.getElem?_eq_some_iff.mp e).1
  have hH : H p = some (.frz od (.dK vs)) := S.gh _ _ hG rfl
  have s1 : Same G0 (offG G p) := fun a u q => by
    rw [offG_ne (fun z => by subst z; rw [g0] at q; cases q)]
    exact s0 a u q
  have get : ∀ {j s}, (ρ.set i (some (.dk false kvs)))[j]? = some (some s) → (j = i ∧ s = .dk false kvs) ∨ (i ≠ j ∧ ρ[j]? = some (some s)) := fun {j s} q => by
    by_cases hj : i = j
    · subst hj
      rw [getElem?_set_eq', if_pos rfl, if_pos hil] at q
      cases q
      exact .inl ⟨rfl, rfl⟩
    · rw [List.getElem?_set_ne hj] at q
      exact .inr ⟨hj, q⟩
  have own_ne : ∀ {j : Nat} {s : Sv}, ρ[j]? = some (some s) → s.own = true → σ[j]? ≠ some (some (V.ref p)) := fun {j s} q o1 z => by
    obtain ⟨w, hw, r⟩ := S.sl j s q
    obtain ⟨q', _, e', h', g'⟩ := r.at o1
    rw [hw, e'] at z
    cases z
    rw [hG] at g'
    cases g'
  have gmt : ∀ {j : Nat} {s : Sv}, (ρ.set i (some (.dk false kvs)))[j]? = some (some s) → s.isMt = true → ρ[j]? = some (some s) := fun {j s} q hs => by
    rcases get q with ⟨_, rfl⟩ | ⟨_, q⟩
    · cases hs
    · exact q
  have mko : ∀ q, Mk G q → Mk (offG G p) q := fun q h => by
    obtain ⟨u, h1, h2⟩ := h
    have ha : q ≠ p := fun z => by
      subst z
      rw [hG] at h1
      cases h1
      cases h2
    exact ⟨u, by rw [offG_ne ha]; exact h1, h2⟩
  refine ⟨s1, by rw [List.length_set]; exact S.len, c0.trans s1, fun a u q hm => ?_, fun a hm => ?_, fun a u q m n zz => ?_, fun a u q => ?_, fun j s q => ?_, fun j k sj sk a q1 q2 o1 o2 a1 a2 => ?_, fun j s a q o1 a1 => ?_, fun j a f hj => ?_, tabs_mut S.tb hH (fun _ z => by cases z) (fun _ z => by cases z), S.ct, S.mzk' mko (fun a u ha q => ?_) (fun j r m a h1 h2 => ⟨j, r, gmt h1 rfl, h2⟩), fun j k sj sk h1 h2 g1 g2 => S.m1 j k sj sk (gmt h1 g1) (gmt h2 g2) g1 g2, S.zz, fun j a f s h1 h2 h3 => S.rk j a f s h1 (gmt h2 h3) h3⟩
  case refine_9 =>
    rw [upd_ne ?_]
    · exact q
    intro z
    rcases ha with ha | ⟨ys, ha⟩ | ⟨j, s, h1, h2, h3⟩
    · obtain ⟨u2, w1, w2⟩ := ha
      rw [z, hG] at w1
      cases w1
      cases w2
    · subst ha
      rw [z, hH] at q
      cases q
    · obtain ⟨r, m, rfl⟩ := isMt_of h2
      exact own_ne h1 rfl (by rw [h3, z])
  · have ha : a ≠ p := fun z => by subst z; rw [offG_eq] at q; cases q
    rw [offG_ne ha] at q
    rw [upd_ne ha]
    exact S.gh a u q hm
  · obtain ⟨u, h1, h2⟩ := hm
    have ha : a ≠ p := fun z => by subst z; rw [offG_eq] at h1; cases h1
    rw [offG_ne ha] at h1
    rw [upd_ne ha]
    exact S.gm a ⟨u, h1, h2⟩
  · have ha : a ≠ p := fun z => by subst z; rw [h0] at q; cases q
    rw [upd_ne ha]
    exact S.fr a u q m n zz
  · have ha : a ≠ p := fun z => by subst z; rw [offG_eq] at q; cases q
    rw [offG_ne ha] at q
    exact S.gn a u q
  · rcases get q with ⟨rfl, rfl⟩ | ⟨hj, q⟩
    · exact ⟨.ref p, hs, p, vs, rfl, upd_same, offG_eq, rk.off hG⟩
    · obtain ⟨w, hw, z⟩ := S.sl j s q
      refine ⟨w, hw, ?_⟩
      cases s with
      | d x => exact Rp.off hG _ _ z
      | ls r xs =>
        obtain ⟨a, ws, q1, h1, h2, h3⟩ := z
        have ha : a ≠ p := fun y => by subst y; rw [hG] at h2; cases h2
        exact ⟨a, ws, q1, by rw [upd_ne ha]; exact h1, by rw [offG_ne ha]; exact h2, Rps.off hG _ _ h3⟩
      | dk r xs =>
        obtain ⟨a, ws, q1, h1, h2, h3⟩ := z
        have ha : a ≠ p := fun y => by subst y; rw [hG] at h2; cases h2
        exact ⟨a, ws, q1, by rw [upd_ne ha]; exact h1, by rw [offG_ne ha]; exact h2, h3.off hG⟩
      | dt r xs =>
        obtain ⟨a, ws, q1, h1, h2, h3⟩ := z
        have ha : a ≠ p := fun y => by subst y; rw [hG] at h2; cases h2
        exact ⟨a, ws, q1, by rw [upd_ne ha]; exact h1, by rw [offG_ne ha]; exact h2, Paired.mapP h3 fun _ _ z => ⟨z.1, Rp.off hG _ _ z.2⟩⟩
      | ex k =>
        obtain ⟨a, q1, h1⟩ := z
        have ha : a ≠ p := fun y => by subst y; rw [hG] at h1; cases h1
        exact ⟨a, q1, by rw [offG_ne ha]; exact h1⟩
      | scr ns =>
        obtain ⟨a, q1, h1⟩ := z
        refine ⟨a, q1, ?_⟩
        rcases h1 with (h | ⟨o, h⟩) | h
        · refine .inl (.inl ?_)
          rw [offG_ne (fun y => by subst y; rw [hG] at h; cases h)]
          exact h
        · refine .inl (.inr ⟨o, ?_⟩)
          rw [offG_ne (fun y => by subst y; rw [hG] at h; cases h)]
          exact h
        · exact .inr h
      | mt r m =>
        obtain ⟨a, dx, fs, q1, h1, h2⟩ := z
        have ha : a ≠ p := fun y => by subst y; rw [hG] at h2; cases h2
        exact ⟨a, dx, fs, q1, by rw [upd_ne ha]; exact h1, by rw [offG_ne ha]; exact h2⟩
      | fk ks =>
        have hj2 : j < ρ.length := (List.getElem?_eq_some_iff.mp q).1
        have := hf j hj2 (fun y => hj y.symm)
        rw [List.getD_eq_getElem?_getD, q] at this
        cases this
      | ft ks =>
        obtain ⟨a, od', ws, q1, h1, h2⟩ := z
        have ha : a ≠ p := fun y => by subst y; rw [hG] at h1; cases h1
        exact ⟨a, od', ws, q1, by rw [offG_ne ha]; exact h1, Paired.mapP h2 fun _ _ z => ⟨z.1, Rp.off hG _ _ z.2⟩⟩
  · rcases get q1 with ⟨z1, w1⟩ | ⟨hj, y1⟩
    · rcases get q2 with ⟨z2, w2⟩ | ⟨hk, y2⟩
      · rw [z1, z2]
      · subst z1
        rw [hs] at a1
        cases a1
        exact absurd a2 (own_ne y2 o2)
    · rcases get q2 with ⟨z2, w2⟩ | ⟨hk, y2⟩
      · subst z2
        rw [hs] at a2
        cases a2
        exact absurd a1 (own_ne y1 o1)
      · exact S.sp j k sj sk a y1 y2 o1 o2 a1 a2
  · rcases get q with ⟨z1, w1⟩ | ⟨hj, y1⟩
    · subst z1
      rw [hs] at a1
      cases a1
      exact .inl h0
    · exact S.nw j s a y1 o1 a1
  · obtain ⟨h1, s, h2, h3, h4⟩ := S.rf j a f hj
    by_cases z : i = j
    · subst z
      rw [e] at h2
      cases h2
      cases h3
    · exact ⟨h1, s, by rw [List.getElem?_set_ne z]; exact h2, h3, h4⟩
theorem RN.off {c : Fc} {G H : Hp} {p : Addr} {od : Obj} {vs : List (Key × V)} {v : V} {r : Rv} (hG : G p = some (.frz od (.dK vs))) (h : RN b c G H v r) : RN b c (offG G p) (upd H p (.dK vs)) v r := by
  cases r with
  | d x => exact Rp.off hG _ _ h
  | l xs =>
    obtain ⟨a, ws, e, h1, h2, h3, h4⟩ := h
    have ha : a ≠ p := fun y => by subst y; rw [hG] at h2; cases h2
    exact ⟨a, ws, e, by rw [upd_ne ha]; exact h1, by rw [offG_ne ha]; exact h2, Rps.off hG _ _ h3, h4⟩
  | k xs =>
    obtain ⟨a, ws, e, h1, h2, h3, h4⟩ := h
    have ha : a ≠ p := fun y => by subst y; rw [hG] at h2; cases h2
    exact ⟨a, ws, e, by rw [upd_ne ha]; exact h1, by rw [offG_ne ha]; exact h2, h3.off hG, h4⟩
  | t xs =>
    obtain ⟨a, ws, e, h1, h2, h3, h4⟩ := h
    have ha : a ≠ p := fun y => by subst y; rw [hG] at h2; cases h2
    exact ⟨a, ws, e, by rw [upd_ne ha]; exact h1, by rw [offG_ne ha]; exact h2, Paired.mapP h3 fun _ _ z => ⟨z.1, Rp.off hG _ _ z.2⟩, h4⟩
theorem s_setLk {f : M Rv} {e : Expr} {y : Str} {pos' : Pos} {j : Nat} (i : Nat) (hN : X.N.Nodup) (hi : X.N[j]? = some y) (hx : Loc X.env.scope y) (he : PE X e (tV b W f)) (hs : swapsWith e (some (.Name y pos')) pos.line X.env = pure false := by rfl)
    (hf : X.fn y = true ∨ X.env.scope.names.lookup y = some .local := by first | exact .inl rfl | exact .inr rfl | assumption) : PS X (.Assign [.Name y pos'] e pos) (tS b W (setM j (lockE i f))) :=
  weakS (ps_set hN hi hx (pe_lock he) hs hf) fun D σ H ⟨c, G, ρ, hb, S, q⟩ => by
    rw [setM_ap, bindM_ap] at q
    unfold lockE at q
    cases e0 : ρ[i]? with
    | none => rw [e0] at q; exact q.elim
    | some o =>
      rw [e0] at q
      cases o with
      | none => exact q.elim
      | some sv =>
        cases sv with
        | dk r0 kvs =>
          cases r0 with
          | true => exact q.elim
          | false =>
            obtain ⟨p, vs, hσ, hp, gp, h0, rk, lk⟩ := S.lock hb e0
            refine ⟨p, .dK vs, hp, trivial, fun od => ?_⟩
            obtain ⟨s1, S1⟩ := lk od
            refine ⟨c, _, _, S1, ?_⟩
            dsimp only at q
            cases ef : f (ρ.set i (some (.fk kvs))) with
            | bad => rw [ef] at q; exact q.elim
            | err k ρ' => rw [ef] at q; exact q.elim
            | ok r ρ' =>
              rw [ef] at q
              dsimp only at q
              intro H' G' e' S' v hv ap
              have hG : G' p = some (.frz od (.dK vs)) := e' _ _ upd_same
              refine ⟨S'.gh _ _ hG rfl, ?_⟩
              cases e1 : ρ'[i]? with
              | none => rw [e1] at q; exact q.elim
              | some o1 =>
                rw [e1] at q
                cases o1 with
                | none => exact q.elim
                | some sv1 =>
                  cases sv1 with
                  | fk kvs' =>
                    dsimp only at q
                    cases en : noFk ρ' i with
                    | false => rw [en] at q; exact q.elim
                    | true =>
                      rw [en, if_pos rfl] at q
                      obtain ⟨w, hw, p', od', vs', ew, hg', rk'⟩ := S'.sl i _ e1
                      rw [hσ] at hw
                      cases hw
                      cases ew
                      rw [hG] at hg'
                      cases hg'
                      have hno : ∀ l, l < ρ'.length → l ≠ i → isFk (ρ'.getD l none) = false := fun l hl hne => by
                        unfold noFk at en
                        rw [List.all_eq_true] at en
                        have := en l (List.mem_range.mpr hl)
                        simpa [hne] using this
                      obtain ⟨s2, S2⟩ := S'.unlock hG h0 hσ e1 hno (s1.trans e') gp S.g0 rk'
                      have ap2 : Apart (ρ'.set i (some (.dk false kvs'))) σ v r := fun a ea hn l s hl ho => by
                        by_cases hli : i = l
                        · subst hli
                          rw [hσ]
                          intro z
                          cases z
                          subst ea
                          have hv2 := hv
                          cases r with
                          | d x => cases hn
                          | l xs => obtain ⟨a', _, e3, _, e4, _⟩ := hv2; cases e3; rw [hG] at e4; cases e4
                          | k xs => obtain ⟨a', _, e3, _, e4, _⟩ := hv2; cases e3; rw [hG] at e4; cases e4
                          | t xs => obtain ⟨a', _, e3, _, e4, _⟩ := hv2; cases e3; rw [hG] at e4; cases e4
                        · rw [List.getElem?_set_ne hli] at hl
                          exact ap a ea hn l s hl ho
                      dsimp only at q
                      rw [bindM_ap, putM_ap] at q
                      split at q
                      · rename_i u ρ3 hq
                        split at hq
                        · cases hq
                        · rename_i hr
                          cases hq
                          exact q _ _ _ s2 (set_rn S2 (hv.off hG) ap2 (refAt_of hb hr))
                      · rename_i k ρ3 hq
                        split at hq <;> cases hq
                      · exact q.elim
                  | _ => exact q.elim
        | _ => exact q.elim
end
end G8
namespace L2
open PySem PySem.Spec PyProof.Rows
/-! sorted(d.keys()) -/
def viewO (d v : Addr) : HO := .ext fun h => PySem.W.KdlKeysView h v d
def tKeysV (td : TE) : TE := fun σ H Q => td σ H fun x H1 => ∃ d kvs, x = .ref d ∧ Rd H1 d (.dK kvs) ∧ ∀ v, H1 v = none → Q (.ref v) (upd H1 v (viewO d v))
section
variable {X : Cx} {e : Expr} {td : TE} {apos cpos : Pos}
theorem pe_keysV (he : PE X e td) (hbase : attributeBase e "keys" X.env (eval e X.env) = eval e X.env := by rfl) (hline : (apos.endLine == cpos.line) = true := by rfl) : PE X (.Call (.Attribute e "keys" apos) [] [] cpos) (tKeysV td) := by
  refine ⟨fun pins s σ H R I h => ?_⟩
  refine wpAny_Call_method (T := "dict") (id := "dict.keys") hbase rfl hline F.plainAttrs_dict F.slot_dict_keys F.type_dict_keys (thn (he.run pins s σ H _ I h) fun u s1 ⟨x, H1, I1, rx, d, kvs, ex, hd, q⟩ => ?_)
  subst ex
  obtain rfl : u = Value.ref d := rx
  obtain ⟨z, hs, vs, rel, dd⟩ := dk_rd I1.hok hd
  refine ⟨dd.typeIs, dd.mapOf.noDict, ?_⟩
  have I2 : Inv X pins σ (upd H1 s1.heap.objs.size (viewO d s1.heap.objs.size)) { s1 with heap := s1.heap.push { cls := .type "dict_keys", data := .fields #[.ref d] } } :=
    I1.laid (a := s1.heap.objs.size) (o := viewO d s1.heap.objs.size) (t' := s1.toks) (fun _ _ q => Heap.get?_push_of_some _ q) (Nat.le_refl _) ⟨⟨_, Heap.get?_push_size _ rfl, rfl, rfl⟩, ⟨_, Heap.get?_push_size _ rfl⟩, fun h1 h2 ⟨o, e1, e2, e3⟩ k => ⟨o, k o e1, e2, e3⟩⟩
  show wpAny _ _ (callWith cpos (.builtin "dict.keys") [.ref d] [] []) _ X.xe s1
  exact method_meetsIn F.slot_dict_keys F.entry_dict_keys rfl (PySem.evalArgs_none ⟨rfl, dd.typeIs, F.args_dict_keys_1 _, _, PySem.W.kdl_meets_keys (mixKind X.prog X.w) d hs, ⟨vs, dd⟩, ⟨.ref s1.heap.objs.size, _, I2, rfl, q _ (I1.hok.fresh (Nat.le_refl _))⟩⟩)
/-- what is collected of int keys -/
theorem ints_of_keys {ps : List (Key × Value)} {ks : List Int} {acc : List Value} (hk : ps.map (·.1) = ks.map Sum.inl) (hl : acc.length = ks.length)
    (h : ∀ (n : Nat) (v : Value), acc[n]? = some v → ∃ (k : Key) (x : Value), ps[n]? = some (k, x) ∧ keyIs k v = true) : IntsAre acc ks := ints_each hl fun n v hv => by
  obtain ⟨k, x, h1, h2⟩ := h n v hv
  have h3 := congrArg (fun l => l[n]?) hk
  simp only [List.getElem?_map, h1, Option.map_some] at h3
  cases h4 : ks[n]? with
  | none => simp [h4] at h3
  | some y =>
    simp [h4] at h3
    subst h3
    rcases keyIs_shape h2 with ⟨i, t, a, b⟩ | ⟨z, t, a, b⟩ <;> cases a
    exact ⟨y, t, rfl, b⟩
def rSortV : List V → Hp → VK → Prop := fun xs H Q => ∃ (a w : Addr) (kvs : List (Key × V)) (ks : List Int), xs = [.ref w] ∧ H w = some (viewO a w) ∧ Rd H a (.dK kvs) ∧ kvs.map (·.1) = ks.map Sum.inl ∧ ks.length ≤ 1000 ∧
  ∀ (ys : List Int) (p : Addr), ys.Perm ks → ys.Pairwise (· ≤ ·) → H p = none → Q (.ref p) (upd H p (.lst (ys.map V.int)))
theorem cr_sortV (calm : X.calm = true) : CallR X (.builtin "sorted") rSortV := fun pins s σ H xs us Q I r q => by
  obtain ⟨a, w, kvs, ks, rfl, hw, hd, hks, hz, q⟩ := q
  rw [Vals.ref1 r]
  obtain ⟨_, lo, ps, rel, dd⟩ := dk_rd I.hok hd
  obtain ⟨ep, hat⟩ := dd.dictAt
  have hpk : ps.map (·.1) = ks.map Sum.inl := rel.keys.symm.trans hks
  have hpl : ps.length = ks.length := by simpa using congrArg List.length hpk
  have hsz : ps.length ≤ sizeLine := by rw [hpl, sizeLine_eq]; omega
  refine Calls.call_function_entry kind_sorted plain_sorted entry_sorted (args_sorted1 _) ?_
  show wpAny _ _ (Builtin.«sorted» _) _ _ _
  unfold Builtin.«sorted»
  refine wpAny_bind (m := checkCount "sorted" 1 1 _) (wpAny_pure (wpAny_bind ?_))
  refine PySem.W.kdu_collect (A := X.A.in1) (PySem.W.kdl_keys (knd := mixKind X.prog X.w) (r := w) (d := a) (kvs := ps) (ep := ep)) (I.ok.hd calm) ⟨(I.hok w _ hw).1, hat⟩ hsz fun hp tk acc keep got => ?_
  have al : acc.toList.length = ks.length := by rw [Array.length_toList, got.1, hpl]
  have iv : IntsAre acc.toList ks := ints_of_keys hpk al fun n v hv => got.2 n v (by rw [← Array.getElem?_toList]; exact hv)
  have I1 : Inv X pins σ H { s with heap := hp, toks := tk } := I.kept keep
  refine wpAny_bind (wpAny_newList ?_ (by rw [al, sizeLine_eq]; omega))
  have ho : (hp.push (seqObj "list" acc.toList.toArray 0)).get? hp.objs.size = some (seqObj "list" acc.toList.toArray 0) := Heap.get?_push_size _ rfl
  refine wpAny_bind (wpAny_holding (wpAny_call_entry slot_list_sort ⟨_, ho, rfl⟩ entry_list_sort (SrtO.list_sort_ord SrtO.swo_int ho (by rw [al, sizeLine_eq]; omega) (fun two => SrtO.ints_sortable iv two) fun out h1 h2 => ⟨_, rfl, ?_⟩) (args_list_sort _)))
  obtain ⟨k1, k2, k3⟩ := SrtO.ints_out iv h1 h2
  obtain ⟨n', at'⟩ := sortedHeap_at (vs := acc.toList) (out := out.toArray) ho
  have ol : ((out.map SrtO.iv).map V.int).length ≤ sizeLine := by rw [List.length_map, k2.length_eq, sizeLine_eq]; omega
  refine wpAny_pure ⟨_, rfl, .ref hp.objs.size, upd H hp.objs.size (.lst ((out.map SrtO.iv).map V.int)), I1.laid (t' := tk) (fun c u hc => ?_) (Nat.le_refl _) ⟨ol, out, n', vals_of_ints k1, at'⟩, rfl, q _ _ k2 k3 (I1.hok.fresh (Nat.le_refl _))⟩
  have lt := Heap.lt_size hc
  rw [sortedHeap_old (Nat.ne_of_lt lt) (by rw [size_push']; exact Nat.lt_succ_of_lt lt)]
  exact Heap.get?_push_of_some _ hc
end
end L2
namespace G8
open PySem L2
def ksOf : List (Key × Dt) → Option (List Int)
  | [] => some []
  | (.inl i, _) :: r => (ksOf r).map fun s => i :: s
  | _ => none
theorem ksOf_eq : ∀ {kvs : List (Key × Dt)} {ks : List Int}, ksOf kvs = some ks → kvs.map (·.1) = ks.map Sum.inl
  | [], ks, h => by cases h; rfl
  | (.inl i, d) :: r, ks, h => by
    rw [ksOf] at h
    cases e : ksOf r with
    | none => rw [e] at h; cases h
    | some s =>
      rw [e] at h
      cases h
      rw [List.map_cons, List.map_cons, ksOf_eq e]
  | (.inr x, d) :: r, ks, h => by cases h
def sortK (i : Nat) : M Rv := optM fun ρ => (slotK ρ[i]?).bind fun kvs => (ksOf kvs).bind fun ks => if ks.length ≤ 1000 then some (.l ((ks.mergeSort fun a b => decide (a ≤ b)).map PyData.int)) else none
theorem sorted_unique {a b : List Int} (hp : a.Perm b) (ha : a.Pairwise (· ≤ ·)) (hb : b.Pairwise (· ≤ ·)) : a = b := List.Perm.eq_of_pairwise (fun x y _ _ h1 h2 => Int.le_antisymm h1 h2) ha hb hp
theorem srt_sorted' (ks : List Int) : (ks.mergeSort fun a b => decide (a ≤ b)).Pairwise (· ≤ ·) := by
  have := List.pairwise_mergeSort (le := fun (a b : Int) => decide (a ≤ b)) (fun a b c h1 h2 => by simp at *; omega) (fun a b => by simp; omega) ks
  exact this.imp fun h => by simpa using h
theorem m_sortK {X : Cx} {b : Bs} {W : WX} {x : Str} {pn p apos cpos pos : Pos} (calm : X.calm = true) (i : Nat) (hv : PE X (.Name x pn) (tVar i)) (hg : Gl X "sorted") (hm : X.mg "sorted" = none)
    (hbase : attributeBase (.Name x pn) "keys" X.env (eval (.Name x pn) X.env) = eval (.Name x pn) X.env := by rfl) (hline : (apos.endLine == cpos.line) = true := by rfl)
    (hs : starEach [.Call (.Attribute (.Name x pn) "keys" apos) [] [] cpos] X.env = (false, eval (.Call (.Attribute (.Name x pn) "keys" apos) [] [] cpos) X.env) :: starEach [] X.env := by rfl) :
    PE X (.Call (.Name "sorted" p) [.Call (.Attribute (.Name x pn) "keys" apos) [] [] cpos] [] pos) (tV b W (sortK i)) :=
  weakE (pe_callB (cr_sortV calm) hg hm (by decide +kernel) (pa_cons (pe_keysV hv hbase hline) pa_nil) (by decide) (by decide) hs) fun σ H Q ⟨c, G, ρ, S, q⟩ => by
    obtain ⟨r, h1, _⟩ := q.opt S
    have q0 : sortK i ρ = .ok r ρ := by
      unfold sortK
      rw [optM_ap, h1]
    rw [q0] at q
    cases e1 : slotK ρ[i]? with
    | none => rw [e1] at h1; cases h1
    | some kvs =>
      cases e2 : ksOf kvs with
      | none => rw [e1] at h1; simp [e2] at h1
      | some ks =>
        rw [e1] at h1
        simp only [Option.bind_some, e2] at h1
        split at h1
        · rename_i hl
          cases h1
          obtain ⟨u, hu⟩ := var_at S e1
          obtain ⟨a, vs, rfl, rd, rk⟩ := slot_rd S hu e1
          refine ⟨.ref a, hu, a, vs, rfl, rd, fun w hw => ?_⟩
          have ne : a ≠ w := fun z => by
            subst z
            rcases rd with z | ⟨o, z⟩ <;> rw [hw] at z <;> cases z
          have rd2 : Rd (upd H w (viewO a w)) a (.dK vs) := by
            rcases rd with z | ⟨o, z⟩
            · exact .inl (by rw [upd_ne ne]; exact z)
            · exact .inr ⟨o, by rw [upd_ne ne]; exact z⟩
          have S1 := S.alloc (o := viewO a w) hw
          refine ⟨a, w, vs, ks, rfl, upd_same, rd2, (rk_keys rk).trans (ksOf_eq e2), hl, fun ys p pm srt hp => ?_⟩
          have ey : ks.mergeSort (fun a b => decide (a ≤ b)) = ys := sorted_unique ((List.mergeSort_perm ks _).trans pm.symm) (srt_sorted' ks) srt
          rw [ey] at q
          exact q _ G (Same.refl G) (S1.alloc hp) (.ref p) ⟨p, ys.map V.int, rfl, upd_same, S1.free hp, Rps.of_ints ys, S1.fresh0 hp⟩ fun p' e _ => by cases e; exact S1.noOwn hp
        · cases h1
end G8
namespace G8
open PySem PySem.Spec PyProof.Rows L2
/-! range of three, up or down by ones -/
theorem RgC_one {i j : Int} (ha : -(2 ^ 62) ≤ i) (ha' : i < 2 ^ 62) (hb : -(2 ^ 62) ≤ j) (hb' : j < 2 ^ 62) : RgC i j 1 (j - i).toNat := by
  refine ⟨by decide, by decide, PySem.small_one ha ha' hb hb', ?_⟩
  rw [PySem.rangeSize_one]
  split <;> omega
def rg3u (fl : M (List Av)) : M (List Dt) := bindM fl fun as => optM fun ρ => (fzs ρ as).bind fun xs => (int3 xs).bind fun q => if mid q.1 && mid q.2.1 then (if q.2.2 = -1 then some (rangeC q.1 (-1) (q.1 - q.2.1).toNat) else if q.2.2 = 1 then some (rangeC q.1 1 (q.2.1 - q.1).toNat) else none) else none
@[simp] theorem rg3u_ap (fl : M (List Av)) (ρ : Ev) : rg3u fl ρ = bindM fl (fun as => optM fun ρ => (fzs ρ as).bind fun xs => (int3 xs).bind fun q => if mid q.1 && mid q.2.1 then (if q.2.2 = -1 then some (rangeC q.1 (-1) (q.1 - q.2.1).toNat) else if q.2.2 = 1 then some (rangeC q.1 1 (q.2.1 - q.1).toNat) else none) else none) ρ := rfl
section
variable {X : Cx} {b : Bs} {W : WX} {tg l : Expr} {fa : M Av} {fl : M (List Av)}
theorem i_range3u {a a2 a3 : Expr} {p pos : Pos} (ha : PA X [a, a2, a3] (tL b W fl)) (hp : ∀ {ta : TA}, PA X [a, a2, a3] ta → PI X tg (.Call (.Name "range" p) [a, a2, a3] [] pos) (iRng3 ta)) : PI X tg (.Call (.Name "range" p) [a, a2, a3] [] pos) (tI b W (rg3u fl)) :=
  weakI (hp ha) fun σ H R ⟨c, G, ρ, S, q⟩ => ⟨c, G, ρ, S, (Post.bind q).imp fun as ρ1 G1 H1 e1 S1 q1 vs hv => by
    obtain ⟨ds, h1, h2⟩ := q1.opt S1
    cases hx : fzs ρ1 as with
    | none => rw [hx] at h1; cases h1
    | some xs =>
      rw [hx, Option.bind_some] at h1
      cases hy : int3 xs with
      | none => rw [hy] at h1; cases h1
      | some j =>
        rw [hy, Option.bind_some] at h1
        split at h1
        · rename_i hj
          rw [Bool.and_eq_true] at hj
          obtain ⟨j1, j2⟩ := hj
          have ev := rps_int3 (fzs_of S1 hv hx) hy
          split at h1
          · rename_i j3
            cases h1
            rw [j3] at ev
            exact ⟨j.1, j.2.1, -1, _, ev, RgC.neg (mid_of j1).1 (mid_of j1).2 (mid_of j2).1 (mid_of j2).2, h2 _ (yl_rangeC _ _ _ _ _)⟩
          · split at h1
            · rename_i j3
              cases h1
              rw [j3] at ev
              exact ⟨j.1, j.2.1, 1, _, ev, RgC_one (mid_of j1).1 (mid_of j1).2 (mid_of j2).1 (mid_of j2).2, h2 _ (yl_rangeC _ _ _ _ _)⟩
            · cases h1
        · cases h1⟩
end
/-! list of a list of ints of the top -/
theorem rps_intsC {K : Fg} {G : Hp} : ∀ l : List Int, Rps K G (l.map V.int) (l.map PyData.int)
  | [] => .nil
  | i :: l => .cons (.int i) (rps_intsC l)
section
variable {X : Cx} {b : Bs} {W : WX} {x : Str} {p p2 pos : Pos}
theorem m_listC {l : List Int} {a : Addr} (hK : X.K = b.K) (hg : Gl X "list") (hm : X.mg "list" = none) (hg2 : Gl X x) (hm2 : X.mg x = some (.ref a)) (ht : ∀ H, SqL b.K H a (l.map V.int)) (hd : (x == ("__debug__" : Str)) = false := by decide)
    (hs : starEach [.Name x p2] X.env = (false, eval (.Name x p2) X.env) :: starEach [] X.env := by rfl) : PE X (.Call (.Name "list" p) [.Name x p2] [] pos) (tV b W (retM (.l (l.map PyData.int)))) :=
  weakE (pe_callTy call_list_of hg hm (by decide +kernel) (pa_cons (pe_glob (v := .ref a) hg2 hm2 rfl hd) pa_nil hs) (by decide) (by decide) hs) fun σ H Q ⟨c, G, ρ, S, q⟩ =>
    ⟨a, l.map V.int, rfl, .inl (by rw [hK]; exact ht H), fun l' hl => fin_l S (fun v' H' G' ee SS rr ap => q H' G' ee SS v' rr ap) hl (rps_intsC l)⟩
end
end G8
namespace L2
open PySem PySem.Spec PyProof.Rows
/-! how many tuples of ints are in a list, each once: len(set(..)) -/
def tDistinct (K : PySem.W.Frag) (tl : TE) : TE := fun σ H Q => tl σ H fun v G => ∃ (b : Addr) (us : List (Addr × List Int)), v = .ref b ∧ SqL K G b (us.map fun u => V.ref u.1) ∧ (∀ u ∈ us, SqT K G u.1 (u.2.map V.int)) ∧ us.length < 64 ∧
  ∀ (L : List (Addr × List Int)), (L.map (·.2)).Nodup → (∀ u ∈ L, u ∈ us) → (∀ u ∈ us, u.2 ∈ L.map (·.2)) → Q (.int (L.length : Nat)) G
theorem pe_distinct {X : Cx} {e : Expr} {te : TE} {p1 p2 p3 p4 : Pos} (hc : X.calm = true) (hu : X.A.units + 64 < cLine) (gl : Gl X "len") (ml : X.mg "len" = none) (gs : Gl X "set") (ms : X.mg "set" = none) (he : PE X e te)
    (ne : starEach [e] X.env = (false, eval e X.env) :: starEach [] X.env := by rfl) : PE X (.Call (.Name "len" p1) [.Call (.Name "set" p2) [e] [] p3] [] p4) (tDistinct X.K te) := by
  refine ⟨fun pins st σ H Q J hq => ?_⟩
  refine Call_ (ld_blt J gl ml PySem.boot_len ?_)
  refine callWith_builtin1 (args_cons ?_ rfl) rfl rfl
  refine Call_ (ld_blt J gs ms boot_set ?_)
  refine callWith_type1 (args_cons (thn (he.run pins st σ H _ J hq) fun u st1 ⟨x, H1, J1, r1, q1⟩ => args_nil ?_) ne) ne rfl
  obtain ⟨b, us, rfl, hb, ht, hf, q1⟩ := q1
  cases r1
  obtain ⟨its, rv, pl, hz⟩ := J1.list hb
  refine call_set_tups (P := X.prog) (w := X.w) us (J1.ok.hd hc) pl.isList (by simpa using refs_of_vals rv) (fun u hu => J1.isT (ht u hu)) hf (by omega) fun h' tk L es ep t R g kp => ?_
  refine args_nil ?_
  have J2 : Inv X pins σ H1 { st1 with heap := h', toks := tk } := J1.kept kp
  obtain ⟨o, ho, hex, hd⟩ := R.ob
  have sz := R.size (s := { st1 with heap := h', toks := tk })
  have few := R.few
  refine call_len_set ho hex hd (R.fits (s := { st1 with heap := h', toks := tk })) (by rw [sz]; omega) ⟨.int (L.length : Nat), H1, J2.tok _, ⟨_, by rw [sz]⟩, q1 L R.nd (fun u hu => List.mem_of_mem_take (g.sub u hu)) fun u hu => g.all u (by rw [List.take_length]; exact hu)⟩
end L2
namespace G8
open PySem L2
def intsO : List Dt → Option (List Int)
  | [] => some []
  | .int i :: ds => (intsO ds).map fun is => i :: is
  | _ => none
def tupsOf : List Dt → Option (List (List Int))
  | [] => some []
  | .tuple xs :: ds => (intsO xs).bind fun is => (tupsOf ds).map fun r => is :: r
  | _ => none
def dd : List (List Int) → List (List Int)
  | [] => []
  | x :: xs => if x ∈ dd xs then dd xs else x :: dd xs
theorem dd_all : ∀ l : List (List Int), (dd l).Nodup ∧ ∀ x, x ∈ dd l ↔ x ∈ l
  | [] => ⟨List.nodup_nil, fun x => Iff.rfl⟩
  | y :: l => by
    obtain ⟨h1, h2⟩ := dd_all l
    rw [dd]
    by_cases h : y ∈ dd l
    · rw [if_pos h]
      refine ⟨h1, fun x => ?_⟩
      rw [h2 x, List.mem_cons]
      constructor
      · exact .inr
      · rintro (q | q)
        · rw [q]; exact (h2 y).mp h
        · exact q
    · rw [if_neg h]
      exact ⟨List.nodup_cons.mpr ⟨h, h1⟩, fun x => by rw [List.mem_cons, List.mem_cons, h2 x]⟩
theorem dd_len {l m : List (List Int)} (hm : m.Nodup) (h1 : ∀ x ∈ m, x ∈ l) (h2 : ∀ x ∈ l, x ∈ m) : m.length = (dd l).length := by
  have d := dd_all l
  exact ((List.perm_ext_iff_of_nodup hm d.1).mpr fun x => ⟨fun z => (d.2 x).mpr (h1 x z), fun z => h2 x ((d.2 x).mp z)⟩).length_eq
theorem intsO_of {K : Fg} {G : Hp} : ∀ {ds : List Dt} {vs : List V} {is : List Int}, intsO ds = some is → Rps K G vs ds → vs = is.map V.int
  | [], vs, is, e, r => by
    cases e
    cases r
    rfl
  | d :: ds, vs, is, e, r => by
    cases r with
    | cons r1 r2 =>
      cases r1 with
      | int i =>
        rw [intsO] at e
        cases h : intsO ds with
        | none => rw [h] at e; cases e
        | some js =>
          rw [h] at e
          cases e
          rw [intsO_of h r2]
          rfl
      | non => simp [intsO] at e
      | bl => simp [intsO] at e
      | str => simp [intsO] at e
      | lst => simp [intsO] at e
      | tup => simp [intsO] at e
theorem tupsOf_of {K : Fg} {G : Hp} : ∀ {ds : List Dt} {vs : List V} {ts : List (List Int)}, tupsOf ds = some ts → Rps K G vs ds → ∃ us : List (Addr × List Int), vs = us.map (fun u => V.ref u.1) ∧ us.map (·.2) = ts ∧ ∀ u ∈ us, SqT K G u.1 (u.2.map V.int)
  | [], vs, ts, e, r => by
    cases e
    cases r
    exact ⟨[], rfl, rfl, fun u hu => by cases hu⟩
  | d :: ds, vs, ts, e, r => by
    cases r with
    | cons r1 r2 =>
      cases r1 with
      | tup h1 h2 =>
        rename_i a xs es
        rw [tupsOf] at e
        cases h : intsO es with
        | none => rw [h] at e; cases e
        | some is =>
          rw [h] at e
          cases h' : tupsOf ds with
          | none => rw [h'] at e; cases e
          | some rest =>
            rw [h'] at e
            cases e
            obtain ⟨us, e1, e2, e3⟩ := tupsOf_of h' r2
            have := intsO_of h h2
            subst this
            refine ⟨(a, is) :: us, by rw [e1]; rfl, by rw [List.map_cons, e2], fun u hu => ?_⟩
            rcases List.mem_cons.mp hu with q | q
            · rw [q]; exact h1.sq
            · exact e3 u q
      | non => simp [tupsOf] at e
      | bl => simp [tupsOf] at e
      | str => simp [tupsOf] at e
      | int => simp [tupsOf] at e
      | lst => simp [tupsOf] at e
def disD : Dt → Option Dt
  | .list xs => (tupsOf xs).bind fun ts => if ts.length < 64 then some (.int (((dd ts).length : Nat) : Int)) else none
  | _ => none
def disM (fa : M Av) : M Av := bindM fa fun a => optM fun ρ => ((res ρ a).bind disD).map Av.d
@[simp] theorem disM_ap (fa : M Av) (ρ : Ev) : disM fa ρ = bindM fa (fun a => optM fun ρ => ((res ρ a).bind disD).map Av.d) ρ := rfl
theorem m_lenSet {X : Cx} {b : Bs} {W : WX} {e : Expr} {fa : M Av} {p1 p2 p3 p4 : Pos} (hK : X.K = b.K) (hc : X.calm = true) (hu : X.A.units + 64 < cLine) (gl : Gl X "len") (ml : X.mg "len" = none) (gs : Gl X "set") (ms : X.mg "set" = none) (he : PE X e (tE b W fa))
    (ne : starEach [e] X.env = (false, eval e X.env) :: starEach [] X.env := by rfl) : PE X (.Call (.Name "len" p1) [.Call (.Name "set" p2) [e] [] p3] [] p4) (tE b W (disM fa)) :=
  weakE (pe_distinct hc hu gl ml gs ms he ne) fun σ H Q ⟨c, G, ρ, S, q⟩ => ⟨c, G, ρ, S, (Post.bind q).imp fun a ρ1 G1 H1 e1 S1 q1 v hv => by
    obtain ⟨z, h1, h2⟩ := q1.opt S1
    cases hx : res ρ1 a with
    | none => rw [hx] at h1; cases h1
    | some d =>
      rw [hx, Option.bind_some] at h1
      cases d with
      | list xs =>
        cases ht : tupsOf xs with
        | none => rw [disD, ht] at h1; cases h1
        | some ts =>
          rw [disD, ht, Option.bind_some] at h1
          by_cases hl : ts.length < 64
          · rw [if_pos hl] at h1
            cases h1
            have ro : ROs b.K G1 H1 [v] [.list xs] := ress_of S1 (as := [a]) (.cons hv .nil) (by show (res ρ1 a).bind _ = _; rw [hx]; rfl)
            obtain ⟨v', hv', r⟩ := ros1 ro
            cases hv'
            obtain ⟨p, vs, rfl, r1, r2⟩ := r.list S1.gh
            obtain ⟨us, u1, u2, u3⟩ := tupsOf_of ht r2
            subst u1
            subst u2
            rw [hK]
            refine ⟨p, us, rfl, SqL.of r1, fun u hu => same_sqT S1.gh (u3 u hu), by simpa using hl, fun L n1 n2 n3 => ?_⟩
            have el : L.length = (dd (us.map (·.2))).length := by
              have := dd_len (l := us.map (·.2)) n1 (fun x hx => by
                obtain ⟨u, hu, rfl⟩ := List.mem_map.mp hx
                exact List.mem_map.mpr ⟨u, n2 u hu, rfl⟩) (fun x hx => by
                obtain ⟨u, hu, rfl⟩ := List.mem_map.mp hx
                exact n3 u hu)
              rwa [List.length_map] at this
            rw [el]
            exact h2 _ (.int _)
          · rw [if_neg hl] at h1
            cases h1
      | _ => cases h1⟩
/-! try: .. except X: y = constant, for some kinds alone -/
def tryQ (ks : List Nat) (g : Nat → Bool) (h f : M Fl) : M Fl := fun ρ => match f ρ with
  | .err k ρ' => if k ∈ ks then (if g k then h ρ' else .err k ρ') else .bad
  | o => o
@[simp] theorem tryQ_ap (ks : List Nat) (g : Nat → Bool) (h f : M Fl) (ρ : Ev) : tryQ ks g h f ρ = (match f ρ with
  | .err k ρ' => if k ∈ ks then (if g k then h ρ' else .err k ρ') else .bad
  | o => o) := rfl
structure ExsQ (b : Bs) (c : Value) (ks : List Nat) (g : Nat → Bool) : Prop where
  is : ∀ k ∈ ks, PySem.W.exmOne b.K (.ref (b.C k)) c = some (g k)
def fExq (cv : Fg → Value) (ks : List Nat) (g : Nat → Bool) (K : Fg) : Bool := ks.all fun k => decide (PySem.W.exmOne K (.ref (exC K k)) (cv K) = some (g k))
theorem fExq_of {K : Fg} {cv : Fg → Value} {ks : List Nat} {g : Nat → Bool} (h : fExq cv ks g K = true) : ExsQ (bs K) (cv K) ks g := ⟨fun k hk => of_decide_eq_true (List.all_eq_true.mp h k hk)⟩
theorem noerr_set (i : Nat) (x : Dt) : ∀ ρ k ρ', setM i (dataM (retM (.d x))) ρ ≠ .err k ρ' := fun ρ k ρ' h => by
  unfold setM at h
  rw [bindM_ap, show dataM (retM (.d x)) ρ = .ok (.d x) ρ from rfl] at h
  dsimp only at h
  rw [bindM_ap] at h
  unfold putM at h
  by_cases hr : refAt ρ[i]? = true
  · rw [if_pos hr] at h
    cases h
  · rw [if_neg hr] at h
    cases h
theorem s_tryQ {X : Cx} {b : Bs} {W : WX} {x : Str} {c : Value} {body suite : List Stmt} {s0 : Stmt} {np pos pos' : Pos} {ks : List Nat} {g : Nat → Bool} {f h : M Fl} (hK : X.K = b.K) (hs : X.stack = X.env :: X.outer) (hf : X.env.frame = some X.env.locals) (hc : Names X x c) (tk : Takes X W) (E : ExsQ b c ks g) (hn : ∀ ρ k ρ', h ρ ≠ .err k ρ')
    (hb : ∀ (W' : WX) (pn : List (Addr × Obj)) (xe : Value → Shared → Prop), Takes (X.tr pn xe) W' → PassesOwn (model X.prog X.w) X.A X.env xe → PSs (X.tr pn xe) body (tS b W' f))
    (hsu : ∀ (a : Addr) (oe : Obj) (pn : List (Addr × Obj)), PSs (X.suite a ((a, oe) :: pn)) (s0 :: suite) (tS b W0 h)) :
    PS X (.Try body [.ExceptHandler (some (.Name x np)) none (s0 :: suite) pos'] [] [] pos) (tS b W (tryQ ks g h f)) := by
  refine weakS (ps_try_only (tb := fun W' => tS b W' f) (ts := fun _ _ _ => tS b W0 h) hs hf hc tk hb (fun a oe _ _ pn _ _ => hsu a oe pn)) fun D σ H ⟨cc, G, ρ, hfn, S, q⟩ => ?_
  refine ⟨cc, G, ρ, hfn, S, ?_⟩
  unfold tryQ at q
  cases e : f ρ with
  | bad => rw [e] at q; exact q
  | ok fl ρ1 =>
    rw [e] at q
    cases fl <;> exact q
  | err k ρ1 =>
    rw [e] at q
    by_cases hks : k ∈ ks
    · have q : PostS b cc W G D (if k ∈ ks then (if g k = true then h ρ1 else .err k ρ1) else .bad) := q
      rw [if_pos hks] at q
      intro σ1 H1 G1 e1 S1
      refine ⟨g k, by rw [hK]; exact E.is k hks, fun hg a ha => ?_, fun hg => ?_⟩
      · rw [if_pos hg] at q
        refine ⟨cc, G1, ρ1, hfn, S1, ?_⟩
        have q := PostS.mono e1 q
        cases e2 : h ρ1 with
        | bad => rw [e2] at q; exact q.elim
        | err k2 ρ2 => exact absurd e2 (hn _ _ _)
        | ok fl ρ2 =>
          rw [e2] at q
          cases fl <;> exact q
      · rw [if_neg (by rw [hg]; exact Bool.false_ne_true)] at q
        exact q σ1 H1 G1 e1 S1
    · have q : PostS b cc W G D (if k ∈ ks then (if g k = true then h ρ1 else .err k ρ1) else .bad) := q
      rw [if_neg hks] at q
      exact q.elim
/-! x in d, as a test -/
theorem m_tinK {X : Cx} {b : Bs} {W : WX} {x : Str} {a : Expr} {fa : M Av} {pn pos : Pos} (hu : X.A.units + 1 < cLine) (i : Nat) (ha : PE X a (tE b W fa)) (hv : PE X (.Name x pn) (tVar i)) : PT X (.Compare a [.In] [.Name x pn] pos) (tT b W (testM (inK false i fa))) := weakT (pt_cmp (pc_din hu ha hv)) fun σ H Q ⟨c, G, ρ, S, q⟩ => ⟨c, G, ρ, S, (Post.bind (Post.bind q)).imp fun z ρ1 G1 H1 e1 S1 q1 v hv => by
  obtain ⟨k, h1, h2⟩ := q1.opt S1
  cases e1 : slotK ρ1[i]? with
  | none => rw [e1] at h1; cases h1
  | some kvs =>
    cases e2 : (res ρ1 z).bind dkey with
    | none => rw [e1, e2] at h1; cases h1
    | some kk =>
      rw [e1, e2] at h1
      cases h1
      obtain ⟨u, hu⟩ := var_at S1 e1
      obtain ⟨p, o, rfl, g, is, _⟩ := get_core S1 hv hu e1 e2
      refine ⟨.ref p, hu, p, o, rfl, g, ?_⟩
      rw [is]
      obtain ⟨bb, h3, h4⟩ := h2.opt S1
      cases h3
      exact ⟨_, rfl, h4⟩⟩
theorem m_tinKN {X : Cx} {b : Bs} {W : WX} {x : Str} {a : Expr} {fa : M Av} {pn pos : Pos} (hu : X.A.units + 1 < cLine) (i : Nat) (ha : PE X a (tE b W fa)) (hv : PE X (.Name x pn) (tVar i)) : PT X (.Compare a [.NotIn] [.Name x pn] pos) (tT b W (testM (inK true i fa))) := weakT (pt_cmp (pc_dnotin hu ha hv)) fun σ H Q ⟨c, G, ρ, S, q⟩ => ⟨c, G, ρ, S, (Post.bind (Post.bind q)).imp fun z ρ1 G1 H1 e1 S1 q1 v hv => by
  obtain ⟨k, h1, h2⟩ := q1.opt S1
  cases e1 : slotK ρ1[i]? with
  | none => rw [e1] at h1; cases h1
  | some kvs =>
    cases e2 : (res ρ1 z).bind dkey with
    | none => rw [e1, e2] at h1; cases h1
    | some kk =>
      rw [e1, e2] at h1
      cases h1
      obtain ⟨u, hu⟩ := var_at S1 e1
      obtain ⟨p, o, rfl, g, is, _⟩ := get_core S1 hv hu e1 e2
      refine ⟨.ref p, hu, p, o, rfl, g, ?_⟩
      rw [is]
      obtain ⟨bb, h3, h4⟩ := h2.opt S1
      cases h3
      exact ⟨_, rfl, h4⟩⟩
end G8
namespace G8
open PySem L2
/-! a call with keywords of which only the arguments ahead are told: what they raise -/
def sortBad (fl : M (List Av)) : M Rv := bindM fl fun _ => badM
theorem sortBad_ap (fl : M (List Av)) (ρ : Ev) : sortBad fl ρ = match fl ρ with
  | .ok _ _ => .bad
  | .err k ρ' => .err k ρ'
  | .bad => .bad := by
  unfold sortBad bindM badM
  cases fl ρ <;> rfl
section
variable {b : Bs} {W : WX} {X : Cx} {p pos : Pos} {e : Expr} {kws : List Keyword} {fl : M (List Av)}
theorem pe_argsOnly {t : TA} (hg : Gl X "sorted") (hm : X.mg "sorted" = none) (ha : PA X [e] t) (hs : starEach [e] X.env = (false, eval e X.env) :: starEach [] X.env := by rfl)
    (hall : (backToKw pos (keywordEach kws X.env)).all (·.1.isSome) = true := by rfl) (hnone : (backToKw pos (keywordEach kws X.env)).any (·.1.isNone) = false := by rfl) :
    PE X (.Call (.Name "sorted" p) [e] kws pos) (fun σ H Q => t σ H fun _ _ => False) := by
  refine ⟨fun pins s σ H Q I h => ?_⟩
  refine wpAny_Call_Name_kw (ld_blt I hg hm (show bootBuiltins "sorted" = some (.builtin "sorted") by decide +kernel) ?_ (by decide) (by decide))
  refine PyProof.Rows.callWith_kw (thn (ha.run pos pins s σ H _ I h) fun us s1 ⟨vs, H1, I1, r1, q1⟩ => q1.elim) (by rw [hs]; rfl) (by rw [hs]; rfl) hall hnone
theorem m_sortBad (hg : Gl X "sorted") (hm : X.mg "sorted" = none) (ha : PA X [e] (tL b W fl)) (hs : starEach [e] X.env = (false, eval e X.env) :: starEach [] X.env := by rfl)
    (hall : (backToKw pos (keywordEach kws X.env)).all (·.1.isSome) = true := by rfl) (hnone : (backToKw pos (keywordEach kws X.env)).any (·.1.isNone) = false := by rfl) :
    PE X (.Call (.Name "sorted" p) [e] kws pos) (tV b W (sortBad fl)) :=
  weakE (pe_argsOnly hg hm ha hs hall hnone) fun σ H Q ⟨c, G, ρ, S, q⟩ => ⟨c, G, ρ, S, (Post.bind q).imp fun a ρ1 G1 H1 e1 S1 q1 v hv => q1.elim⟩
end
end G8
namespace L2
open PySem PySem.Spec PyProof.Rows
/-! sorted(xs, key=lambda one: one[1]) -/
/-- a lambda of one parameter, with no other name -/
structure LamOne (scope : Scope) (x : Str) : Prop where
  kind : scope.kind = .function
  co : scope.isCoroutine = false
  gen : scope.isGenerator = false
  nm : scope.names = [(x, .local)]
abbrev itemB (x : Str) (p1 p2 p3 : Pos) (j : Nat) : Expr := .Subscript (.Name x p1) (.Constant (.int 1) j p2) p3
/-- what is known of the lambda's object -/
structure LamAt (h : Heap) (f : Addr) (q : Str) (params : Arguments) (body : Expr) (scope : Scope) : Prop where
  ex : ∃ (c : Addr) (pm ctv : Value), h.get? f = some (PySem.W.kla_obj "<lambda>" q params body scope [] pm c ctv) ∧ h.CodeRec (.ref c) q
theorem LamAt.keeps {h h' : Heap} {f : Addr} {q : Str} {params : Arguments} {body : Expr} {scope : Scope} (l : LamAt h f q params body scope) (k : ∀ b o, h.get? b = some o → h'.get? b = some o) : LamAt h' f q params body scope := by
  obtain ⟨c, pm, ctv, h1, h2⟩ := l.ex
  exact ⟨c, pm, ctv, k _ _ h1, h2.keeps k⟩
section
variable {prog : Program} {w : World}
theorem lam_item {A : Around} {s : Shared} {f t : Addr} {q x : Str} {params : Arguments} {scope : Scope} {p1 p2 p3 : Pos} {jj : Nat} {l : List Value} {i : Int} {tk : Tok}
    (hroom : A.depth < recursionLimit) (lim : s.heap.NoLimit) (L : LamAt s.heap f q params (itemB x p1 p2 p3 jj) scope)
    (hbind : ∀ (pm cv ctv v : Value), bindArgs (PySem.W.kla_fn "<lambda>" q params (itemB x p1 p2 p3 jj) scope [] pm cv ctv) ⟨[v], []⟩ = pure [(x, v)])
    (S : LamOne scope x) (hd : (x == ("__debug__" : Str)) = false) (ht : IsTup s.heap t l.toArray) (hx : l[1]? = some (.int i tk)) :
    wpAny (model prog w) A (call (.ref f) [.ref t]) (PySem.W.KeyPure (.int i) s) (fun _ _ => False) s := by
  obtain ⟨c, pm, ctv, hf, hc⟩ := L.ex
  refine wpAny_call (PySem.W.kla_callFunE hroom hf rfl S.co S.gen rfl hc ?_)
  rw [hbind]
  refine wpAny_pure (wpAny_newFunctionEnv (fun y hy => ?_) (fun y hy => ?_) (fun h₁ hns hsb => ⟨lim.fresh _ hsb, ?_⟩) S.kind)
  · have hy : y ∈ scope.names := hy
    rw [S.nm] at hy
    rcases List.mem_singleton.mp hy with rfl
    intro z
    cases z
  · rcases List.mem_singleton.mp hy with rfl
    show scope.names.lookup x = some .local
    rw [S.nm]
    simp
  have kp : ∀ b o, s.heap.get? b = some o → h₁.get? b = some o := fun b o e => hsb.extBut b o (Nat.ne_of_lt (Heap.lt_size e)) (Heap.get?_push_of_some _ e)
  show codeAny _ _ (.expr (itemB x p1 p2 p3 jj) (PySem.W.envX q scope s.heap.objs.size f (.ref c) [])) _ _
  refine PySem.W.kla_codeExpr ?_
  have hk : (PySem.W.envX q scope s.heap.objs.size f (.ref c) []).kindOf x = some .local := by
    show scope.names.lookup x = some .local
    rw [S.nm]
    simp
  refine PyProof.Rows.Subscript_ (wpAny_Name (wpAny_loadName_local (v := .ref t) S.kind hk hns (by simp) ?_) hd)
  refine wpAny_Constant_int ?_
  refine PyProof.Rows.item_tupleL (l := l) (j := 1) (ht.keeps kp) (by decide) (by decide) ?_ hx ?_
  · have : 1 < l.length := (List.getElem?_eq_some_iff.mp hx).1
    exact seqIndex_of (by decide) (by omega)
  · exact ⟨h₁, _, rfl, kp, .int i tk⟩
end
section
variable {X : Cx} {pins : List (Addr × Obj)} {σ : St} {H : Hp} {s : Shared}
/-- the lambda is made; the heap told to the sign -/
theorem lam_exact {c P : Addr} {params : Arguments} {body : Expr} {scope : Scope} {pos : Pos} {E Q : Value → Shared → Prop} (I : Inv X pins σ H s) (TB : LamX.TabB X.base X.mg c P) (hcode : X.env.code = .ref c)
    (hT : LamX.TabS H P (X.env.qual ++ "<lambda>")) (hdef : defaultsOf params X.env = ([], [])) (hcl : closureFor scope X.env = pure [])
    (h : ∀ (f : Addr) (H1 : Hp) (s' : Shared), Inv X pins σ H1 s' → LamAt s'.heap f (X.env.qual ++ "<lambda>") params body scope → LamX.TabS H1 P (X.env.qual ++ "<lambda>") →
      (H1 = H ∨ ∃ (c' : Addr) (ps : Array Value), H c' = none ∧ H1 = upd (upd H P (.tbl ps)) c' (LamX.CodeO c' (X.env.qual ++ "<lambda>"))) → Q (.ref f) s') :
    wpAny (model X.prog X.w) X.A (eval (.Lambda params body scope pos) X.env) Q E s := by
  obtain ⟨ps, hP, tr, ha⟩ := hT
  have tab : s.heap.get? P = some { cls := .none, data := .fields ps } := I.hok P _ hP
  have glo := I.mod.glob.keeps I.bk
  have blt : s.heap.BuiltinsAt X.mg P := TB.bm.keeps I.bk
  have cod := TB.code.keeps I.bk
  apply PySem.W.kla_eval hdef
  cases e : codeAmong pos ps.toList with
  | some cv =>
    obtain ⟨c1, rfl, hc1⟩ := ha pos cv e
    apply PySem.W.kla_makeFunctionHit (mg := X.mg) hcl I.ok.glob glo hcode cod tab tr e blt
    intro ctv h' tk keep _
    have I1 := I.kept (h' := h'.push (PySem.W.kla_obj "<lambda>" (X.env.qual ++ "<lambda>") params body scope [] ((X.mg "__name__").getD .none) c1 ctv)) (t' := tk) fun b o q => Heap.get?_push_of_some _ (keep b o q)
    obtain ⟨⟨oc, vs, t, g1, g2, g3⟩, _⟩ := I1.hok c1 _ hc1
    exact h _ H _ I1 ⟨c1, _, ctv, Heap.get?_push_size _ rfl, c1, oc, vs, t, rfl, g1, g2, g3⟩ ⟨ps, hP, tr, ha⟩ (.inl rfl)
  | none =>
    apply PySem.W.kla_makeFunction (mg := X.mg) hcl I.ok.glob glo hcode cod tab tr e TB.gP blt
    intro c1 ctv h' tk keep ge lt rec htb
    have fr : H c1 = none := I.hok.fresh ge
    obtain ⟨c2, oc, vs, t, z, g1, g2, g3⟩ := rec
    cases z
    have I1 := LamX.inv_table (t' := tk) (more := #[rawInt pos.line, rawInt pos.col, .ref c1]) (q := X.env.qual ++ "<lambda>") (h' := h'.push (PySem.W.kla_obj "<lambda>" (X.env.qual ++ "<lambda>") params body scope [] ((X.mg "__name__").getD .none) c1 ctv)) I hP
      (fun b o nb q => Heap.get?_push_of_some _ (keep b o nb q)) (Heap.get?_push_of_some _ htb) ge ⟨oc, vs, t, Heap.get?_push_of_some _ g1, g2, g3⟩
    refine h _ _ _ I1 ⟨c1, _, ctv, Heap.get?_push_size _ rfl, c1, oc, vs, t, rfl, Heap.get?_push_of_some _ g1, g2, g3⟩ ?_ (.inr ⟨c1, _, fr, rfl⟩)
    have eL : (ps ++ #[rawInt pos.line, rawInt pos.col, .ref c1]).toList = ps.toList ++ [rawInt pos.line, rawInt pos.col, .ref c1] := by simp
    refine ⟨_, by rw [upd_ne (ne_of_none hP fr), upd_same], by rw [eL]; exact PySem.TriplesOk_snoc _ _ _ _ tr, fun p' cv hcv => ?_⟩
    rw [eL] at hcv
    rcases LamX.among_app _ tr hcv with z | z
    · obtain ⟨c0, e1, e2⟩ := ha p' cv z
      have n0 : c0 ≠ P := fun z => by
        rw [z, hP] at e2
        exact LamX.codeO_ne ps (Option.some.inj e2).symm
      exact ⟨c0, e1, by rw [upd_ne (ne_of_none e2 fr), upd_ne n0]; exact e2⟩
    · exact ⟨c1, z, upd_same⟩
end
end L2
namespace G8
open PySem L2
/-- the table filled, a code object laid -/
theorem SIG.lam {b : Bs} {c : Fc} {G H : Hp} {ρ : Ev} {σ : St} (S : SIG b c G ρ σ H) {P c' : Addr} {q : Str} {ps : Array Value} (hP : (P, q) ∈ b.T) (hu : ∀ p ∈ b.T, p.1 = P → p.2 = q) (hc : H c' = none)
    (ht : LamX.TabS (upd (upd H P (.tbl ps)) c' (LamX.CodeO c' q)) P q) : SIG b c G ρ σ (upd (upd H P (.tbl ps)) c' (LamX.CodeO c' q)) := by
  obtain ⟨ps0, h0, _⟩ := S.tb _ hP
  have gP : G P = none := S.gT hP
  have k : ∀ a o, H a = some o → a ≠ P → upd (upd H P (.tbl ps)) c' (LamX.CodeO c' q) a = some o := fun a o e n => by rw [upd_ne (ne_of_none e hc), upd_ne n]; exact e
  have kl : ∀ {a o}, H a = some o → (∀ qs, o ≠ .tbl qs) → a ≠ P := fun {a o} e n z => by
    rw [z, h0] at e
    exact n _ (Option.some.inj e).symm
  refine ⟨S.len, S.g0, fun a o e hm => k a o (S.gh a o e hm) (fun z => by rw [z, gP] at e; cases e), fun a hm => by obtain ⟨xs, w⟩ := S.gm a hm; exact ⟨xs, k a _ w (kl w fun _ z => by cases z)⟩, fun a o e m n zz => k a o (S.fr a o e m n zz) (fun z => m _ hP z.symm), S.gn, fun i sv e => ?_, S.sp, S.nw, S.rf, fun p hp => ?_, S.ct, S.mzk (Same.refl G) (fun a o ha w => k a o w ?_) (fun i r m p h1 h2 => ⟨i, r, h1, h2⟩), S.m1, S.zz, S.rk⟩
  case refine_3 =>
    rcases ha with ha | ⟨ys, rfl⟩ | ⟨i, s, h1, h2, h3⟩
    · exact ha.ne gP
    · exact kl w fun _ z => by cases z
    · obtain ⟨r, m, rfl⟩ := isMt_of h2
      obtain ⟨v, hv, rs⟩ := S.sl i _ h1
      rw [h3] at hv
      cases hv
      obtain ⟨o1, w1, w2⟩ := rs.kind rfl
      exact kl w1 (plain_ne w2).1
  · obtain ⟨v, hv, r⟩ := S.sl i sv e
    refine ⟨v, hv, r.keep (Same.refl G) fun a u ho ev hq => ?_⟩
    subst ev
    obtain ⟨o1, w1, w2⟩ := r.kind ho
    obtain ⟨p', o', e', _, g'⟩ := r.at ho
    cases e'
    exact ⟨k a u hq fun z => S.notT w1 w2 _ hP z.symm, g'⟩
  · by_cases e : p.1 = P
    · rw [hu p hp e, e]
      exact ht
    · obtain ⟨qs, a1, a2, a3⟩ := S.tb p hp
      refine ⟨qs, k _ _ a1 e, a2, fun pos cv hcv => ?_⟩
      obtain ⟨c0, e1, e2⟩ := a3 pos cv hcv
      refine ⟨c0, e1, k _ _ e2 fun z => ?_⟩
      rw [z, h0] at e2
      exact LamX.codeO_ne ps0 (Option.some.inj e2).symm
/-- the second of a pair of ints -/
def sndI : Dt → Option Int
  | .tuple [.int _, .int j] => some j
  | _ => none
def sndOf (d : Dt) : Int := (sndI d).getD 0
def sortKD : Dt → Option Rv
  | .list ds => if ds.length ≤ 1000 && ds.all (fun d => (sndI d).isSome) then some (.l (ds.mergeSort fun x y => decide (sndOf x ≤ sndOf y))) else none
  | _ => none
def sortKM (fa : M Av) : M Rv := un1 sortKD fa
theorem sndI_eq {d : Dt} {j : Int} (h : sndI d = some j) : ∃ i, d = .tuple [.int i, .int j] := by
  unfold sndI at h
  split at h
  · cases h; exact ⟨_, rfl⟩
  · cases h
/-- an item: what stands, and its data -/
def KR (v : Value) (x : V × Dt) : Prop := RelV x.1 v
theorem keys_of {K : Fg} {G : Hp} : ∀ {vs : List V} {ds : List Dt} {us : List Value}, Rps K G vs ds → Vals vs us → PySem.W.EachIs KR us (vs.zip ds)
  | _, [], _, h, r => by cases h; cases r; exact .nil
  | _, d :: ds, _, h, r => by
    cases h with
    | cons h1 h2 =>
      cases r with
      | cons r1 r2 => exact .cons r1 (keys_of h2 r2)
theorem rps_zip {K : Fg} {G : Hp} : ∀ {vs : List V} {ds : List Dt}, Rps K G vs ds → ∀ p ∈ vs.zip ds, Rp K G p.1 p.2
  | _, [], h, p, m => by cases h; cases m
  | _, d :: ds, h, p, m => by
    cases h with
    | cons h1 h2 =>
      rcases List.mem_cons.mp m with rfl | m
      · exact h1
      · exact rps_zip h2 p m
theorem rps_map {K : Fg} {G : Hp} : ∀ {l : List (V × Dt)}, (∀ p ∈ l, Rp K G p.1 p.2) → Rps K G (l.map (·.1)) (l.map (·.2))
  | [], _ => .nil
  | p :: l, h => .cons (h p List.mem_cons_self) (rps_map fun q m => h q (List.mem_cons_of_mem _ m))
theorem vals_out : ∀ {us : List Value} {l : List (V × Dt)}, PySem.W.EachIs KR us l → Vals (l.map (·.1)) us
  | _, _, .nil => .nil
  | _, _, .cons h t => .cons h (vals_out t)
section
variable {X : Cx} {b : Bs} {W : WX} {fa : M Av}
theorem m_sortKey {c P : Addr} {k : Nat} {e : Expr} {x : Str} {params : Arguments} {scope : Scope} {j : Nat} {p p1 p2 p3 lpos kpos pos : Pos} (hK : X.K = b.K) (hr : Room (k + 2) X.A) (hg : Gl X "sorted") (hm : X.mg "sorted" = none)
    (TB : LamX.TabB X.base X.mg c P) (hcode : X.env.code = .ref c) (hT : b.T = [(P, X.env.qual ++ "<lambda>")]) (hdef : defaultsOf params X.env = ([], [])) (hcl : closureFor scope X.env = pure [])
    (hbind : ∀ (q : Str) (pm cv ctv v : Value), bindArgs (PySem.W.kla_fn "<lambda>" q params (itemB x p1 p2 p3 j) scope [] pm cv ctv) ⟨[v], []⟩ = pure [(x, v)])
    (S1 : LamOne scope x) (hd : (x == ("__debug__" : Str)) = false) (ha : PE X e (tE b W fa)) (hs : starEach [e] X.env = (false, eval e X.env) :: starEach [] X.env := by rfl) :
    PE X (.Call (.Name "sorted" p) [e] [⟨some "key", .Lambda params (itemB x p1 p2 p3 j) scope lpos, kpos⟩] pos) (tV b W (sortKM fa)) := by
  refine ⟨fun pins s σ H Q I h => ?_⟩
  obtain ⟨c0, G, ρ, S, q⟩ := h
  refine wpAny_Call_Name_kw (ld_blt I hg hm (show bootBuiltins "sorted" = some (.builtin "sorted") by decide +kernel) ?_ (by decide) (by decide))
  refine PyProof.Rows.callWith_kw (thn ((pa_cons ha pa_nil hs).run pos pins s σ H (fun vs H1 => ∃ v, vs = [v] ∧ ∃ ρ1 G1 a, SIG b c0 G1 ρ1 σ H1 ∧ RA b.K G1 σ v a ∧ Post b c0 W G1 σ (fun r ρ' G' H' => ∀ v, RN b c0 G' H' v r → Apart ρ' σ v r → Q v H') (optM (fun ρ => (res ρ a).bind sortKD) ρ1)) I ⟨c0, G, ρ, S, ?_⟩) fun us s1 ⟨vs, H1, I1, r1, q1⟩ => ?_) (by rw [hs]; rfl) (by rw [hs]; rfl) rfl rfl
  · exact (Post.bind q).imp fun a ρ1 G1 H1 e1 S1 q1 v hv => ⟨v, rfl, ρ1, G1, a, S1, hv, q1⟩
  obtain ⟨v, rfl, ρ1, G1, a, S2, hv, q2⟩ := q1
  obtain ⟨r, hr1, _⟩ := q2.opt S2
  cases hra : res ρ1 a with
  | none => rw [hra] at hr1; cases hr1
  | some dx =>
    rw [hra] at hr1
    have hD : sortKD dx = some r := hr1
    have qq : optM (fun ρ => (res ρ a).bind sortKD) ρ1 = .ok r ρ1 := by
      rw [optM_ap, hra]
      rw [Option.bind_some, hD]
    rw [qq] at q2
    cases dx with
    | list ds =>
      unfold sortKD at hD
      dsimp only at hD
      split at hD
      · rename_i hcnd
        cases hD
        obtain ⟨hlen, hall⟩ := Bool.and_eq_true_iff.mp hcnd
        have hlen : ds.length ≤ 1000 := by simpa using hlen
        have hall : ∀ d ∈ ds, ∃ j, sndI d = some j := fun d m => Option.isSome_iff_exists.mp (List.all_eq_true.mp hall d m)
        obtain ⟨pl, ws, rfl, hpl, rw1⟩ := (hv.res S2 hra).list S2.gh
        obtain ⟨u0, rfl, ru⟩ := vals1 r1
        obtain rfl : u0 = Value.ref pl := ru
        show wpAny _ _ (evalAll ((do let v ← eval (.Lambda params (itemB x p1 p2 p3 j) scope lpos) X.env; standAt pos; pure v) :: [])) _ _ s1
        have hPT : (P, X.env.qual ++ "<lambda>") ∈ b.T := by rw [hT]; exact List.mem_singleton.mpr rfl
        refine wpAny_evalAll_cons (wpAny_bind (lam_exact I1 TB hcode (S2.tb _ hPT) hdef hcl fun f H2 s2 I2 LA T2 hH2 => wpAny_bind (wpAny_standAt (wpAny_pure (wpAny_evalAll_nil ?_)))))
        have S3 : SIG b c0 G1 ρ1 σ H2 := by
          rcases hH2 with rfl | ⟨c', ps, hc', rfl⟩
          · exact S2
          · exact S2.lam hPT (fun p hp _ => by rw [hT] at hp; rw [List.mem_singleton.mp hp]) hc' T2
        have hpl2 : H2 pl = some (.lst ws) := by
          rcases hH2 with rfl | ⟨c', ps, hc', rfl⟩
          · exact hpl
          · have n0 : pl ≠ P := fun z => by
              obtain ⟨ps0, h0, _⟩ := S2.tb _ hPT
              have h0 : H1 P = _ := h0
              rw [← z, hpl] at h0
              cases h0
            rw [upd_ne (ne_of_none hpl hc'), upd_ne n0]
            exact hpl
        show wpAny _ _ (call (.builtin "sorted") [.ref pl] [(Str.ofString "key", .ref f)]) _ _ s2
        obtain ⟨its, rv, hl, hz⟩ := I2.list (show SqL X.K H2 pl ws from SqL.of hpl2)
        have ez : ws.length = ds.length := rw1.length
        have zl : (ws.zip ds).length = ds.length := by rw [List.length_zip, ez, Nat.min_self]
        have sl : (1000 : Nat) ≤ sizeLine := by rw [sizeLine_eq]; omega
        refine PySem.W.sorted_key_data (β := V × Dt) (R := KR) (bs := ws.zip ds) (b := false) (fun p => .int (sndOf p.2)) hl.isList (keys_of rw1 rv) (PySem.W.AllAlike.of (enc := fun p : V × Dt => .int (sndOf p.2)) fun _ _ => rfl) (PySem.W.Sortable.others (enc := fun p : V × Dt => .int (sndOf p.2)) fun _ => ⟨fun z => (by cases z), fun _ z => (by cases z)⟩) (by rw [zl]; omega) (fun _ _ => ?hu) (PyProof.Rows.ksk_s1 _ _) (fun _ => PyProof.Rows.ksk_l1 _ _) (fun _ => PyProof.Rows.ksk_t1 _ _) (fun u p hR hp h tk keep => ?turn) (fun out ep h' tk keep fresh hat ol each => ?fin)
        case hu =>
          have := hr.un
          simp only [PyData.depth]
          omega
        case turn =>
          have hd2 : p.2 ∈ ds := (List.of_mem_zip hp).2
          obtain ⟨i2, hi2⟩ := hall _ hd2
          obtain ⟨i1, hi1⟩ := sndI_eq hi2
          have rp := rps_zip rw1 p hp
          rw [hi1] at rp
          cases hpv : p.1 with
          | ref t =>
            rw [hpv] at rp
            cases rp with
            | tup h1 h2 =>
              obtain ⟨its2, r2, pl2, _⟩ := I2.tuple (same_sqT S3.gh (by rw [hK]; exact h1.sq))
              have hu0 : u = Value.ref t := by
                have : RelV p.1 u := hR
                rw [hpv] at this
                exact this
              subst hu0
              cases h2 with
              | cons k1 k2 =>
                cases k2 with
                | cons k3 k4 =>
                  cases k4
                  cases k1
                  cases k3
                  obtain ⟨w1, w2, rfl, ri, rj⟩ := vals2 r2
                  obtain ⟨t2, rfl⟩ := rj
                  have es : sndOf p.2 = i2 := by unfold sndOf; rw [hi2]; rfl
                  rw [es]
                  exact lam_item (s := { s2 with heap := h, toks := tk }) (by have := hr.dp; show X.A.depth < _; omega) (I2.nolimit.keeps keep) (LA.keeps keep) (hbind _) S1 hd (pl2.keeps keep) rfl
          | _ => rw [hpv] at rp; cases rp
        case fin =>
          have ee : (ws.zip ds).mergeSort (PySem.W.dataLe false fun p => .int (sndOf p.2)) = (ws.zip ds).mergeSort fun p q => decide (sndOf p.2 ≤ sndOf q.2) := by rw [PySem.W.dataLe_int]
          rw [ee] at each
          have em : ((ws.zip ds).mergeSort fun p q => decide (sndOf p.2 ≤ sndOf q.2)).map (·.2) = ds.mergeSort fun x y => decide (sndOf x ≤ sndOf y) := by
            rw [List.map_mergeSort (s := fun x y => decide (sndOf x ≤ sndOf y)) (fun _ _ _ _ => rfl), List.map_snd_zip (by omega)]
          have hrp : Rps b.K G1 (((ws.zip ds).mergeSort fun p q => decide (sndOf p.2 ≤ sndOf q.2)).map (·.1)) (ds.mergeSort fun x y => decide (sndOf x ≤ sndOf y)) := by
            rw [← em]
            exact rps_map fun p m => rps_zip rw1 p ((List.mergeSort_perm _ _).mem_iff.mp m)
          have hfr : H2 (s2.heap.objs.size + 1) = none := I2.hok.fresh (Nat.le_succ _)
          have ol2 : (((ws.zip ds).mergeSort fun p q => decide (sndOf p.2 ≤ sndOf q.2)).map (·.1)).length ≤ sizeLine := by
            rw [List.length_map, (List.mergeSort_perm _ _).length_eq, zl]; omega
          have I3 := I2.laid (a := s2.heap.objs.size + 1) (o := .lst (((ws.zip ds).mergeSort fun p q => decide (sndOf p.2 ≤ sndOf q.2)).map (·.1))) (t' := tk) (h' := h') keep (Nat.le_succ _) ⟨ol2, out, ep, vals_out each, hat⟩
          refine ⟨.ref (s2.heap.objs.size + 1), _, I3, rfl, ?_⟩
          exact q2 _ G1 (Same.refl _) (S3.alloc hfr) _ ⟨_, _, rfl, upd_same, S3.free hfr, hrp, S3.fresh0 hfr⟩ fun p' e' _ => by cases e'; exact S3.noOwn hfr
      · cases hD
    | _ => cases hD
end
end G8
namespace G8
open PySem L2
theorem lam_code {K : Fg} {fd : FuncData} {cdv : Value} {q : Str} (h : ∃ oc od osl, K.lookup (He.ga K "most_held") = some ⟨oc, od, .func fd, osl⟩ ∧ fd.code = cdv ∧ PySem.W.codeIn K cdv q = true) : cdv = .ref (lamAt K).1 := by
  obtain ⟨oc, od, osl, lk, e, hc⟩ := h
  obtain ⟨c, hc⟩ := He.codeIn_ref hc
  have := He.codeOf_eq (p := ("most_held", none)) (c := c) lk (e.trans hc)
  show cdv = .ref (He.codeOf K ("most_held", none))
  rw [this]
  exact hc
theorem lawAtS {l : PySem.W.OpenLaw} {w : World} {K : Fg} {k : Nat} {mg : Str → Option Value} {fa0 : Addr} {h : Heap} {fd : FuncData} (X : K.In h) (ok : He.Fa.ok K (.glo "most_held") = true)
    (c : PySem.W.codeHdIn K (lamAt K).1 (lamAt K).2 = true ∧ K.lookup (lamAt K).2 = none ∧ h.get? (lamAt K).2 = some { cls := .none, data := .fields #[] })
    (hb : ∀ (s : Shared) (v : Value), BindsTo s fd ⟨[v], []⟩ [("script", v)])
    (hF : ∀ base : Heap, K.In base → base.Ns mainGlobals mg → LamX.TabB base mg (lamAt K).1 (lamAt K).2 → FnOk l.prog w K mg base CX0 k fa0 fd ["script"] (spLaw K)) : LamX.LawAtS l w K CX0 k 63 "script" mg fa0 h := by
  have one : ∀ {P : Addr × Addr → Prop}, P (lamAt K) → ∀ p ∈ [lamAt K], P p := fun {P} hP p hp => by rw [List.mem_singleton.mp hp]; exact hP
  refine ⟨fd, [lamAt K], spLaw K, one c.2.2, one c.2.1, one (PySem.W.codeHd_of_K X c.1), hb, fun H a ns hl _ hT hS => ⟨a, ns, rfl, hl, hS, fun p hp => ?_, fun _ => rfl⟩, fun base h1 h2 h3 => hF base h1 h2 (h3 _ (List.mem_singleton.mpr rfl))⟩
  rw [tbs_one ok] at hp
  rw [List.mem_singleton.mp hp]
  exact hT _ (List.mem_singleton.mpr rfl)
end G8
namespace G8
open PySem L2
/-! an own list that a comprehension goes over, and that stays one's own -/
def flatD : Dt → Bool
  | .none => true
  | .bool _ => true
  | .int _ => true
  | .str _ => true
  | _ => false
def flatSv : Option Sv → Bool
  | some (.ls _ xs) => xs.all flatD
  | some (.dk _ _) => false
  | some (.dt _ _) => false
  | some (.mt _ _) => false
  | _ => true
def ownFlat (i : Nat) (ρ : Ev) : Bool := (List.range ρ.length).all fun j => j == i || flatSv (ρ.getD j none)
open Classical in
noncomputable def thaw0 (k i : Nat) (f : M Rv) : M Fl := fun ρ => match ρ[i]? with
  | some (some (.ls false xs)) => (match f (ρ.set i (some (.d (.list xs)))) with
    | .ok (.l ys) ρ1 => if ys.all flatD = true ∧ ownFlat i ρ = true ∧ ρ1 = ρ.set i (some (.d (.list xs))) then setM k (retM (.l ys)) ρ else .bad
    | _ => .bad)
  | _ => .bad
noncomputable def setThaw (k i : Nat) (f : M Rv) : M Fl := fun ρ => if refAt ρ[k]? then .bad else thaw0 k i f (ρ.set k none)
theorem Rps.flat {K : Fg} {G G' : Hp} : ∀ {vs : List V} {ds : List Dt}, ds.all flatD = true → Rps K G vs ds → Rps K G' vs ds
  | _, [], _, h => by cases h; exact .nil
  | _, d :: ds, hf, h => by
    rw [List.all_cons, Bool.and_eq_true] at hf
    cases h with
    | cons h1 h2 =>
      refine .cons ?_ (Rps.flat hf.2 h2)
      cases h1 with
      | non => exact .non
      | bl x => exact .bl x
      | int x => exact .int x
      | str x => exact .str x
      | lst a b => exact absurd hf.1 (by simp [flatD])
      | tup a b => exact absurd hf.1 (by simp [flatD])
theorem ownFlat_at {i j : Nat} {ρ : Ev} {s : Sv} (h : ownFlat i ρ = true) (hj : j ≠ i) (e : ρ[j]? = some (some s)) : flatSv (some s) = true := by
  have hl : j < ρ.length := (List.getElem?_eq_some_iff.mp e).1
  have := List.all_eq_true.mp h j (List.mem_range.mpr hl)
  rw [List.getD_eq_getElem?_getD, e] at this
  simpa [hj] using this
/-- the old environment again: what is one's own is flat but for the slot i, whose list is ground now -/
theorem SIG.thaw {b : Bs} {c : Fc} {G G1 H H1 : Hp} {ρ : Ev} {σ : St} {i : Nat} {xs : List Dt} (S : SIG b c G ρ σ H) (hi : ρ[i]? = some (some (.ls false xs))) (hf : ownFlat i ρ = true) (e : Same G G1)
    (hp : ∀ p vs, H p = some (.lst vs) → σ[i]? = some (some (.ref p)) → G1 p = some (.lst vs))
    (S1 : SIG b c G1 (ρ.set i (some (.d (.list xs)))) σ H1) : SIG b c G ρ σ H1 := by
  refine ⟨S.len, S.g0, fun a o q hm => S1.gh a o (e a o q) hm, fun a hm => S1.gm a (hm.mono e), S1.fr, S.gn, fun j s q => ?_, S.sp, S.nw, S.rf, S1.tb, S.ct, fun j r m p h1 h2 => ?_, S.m1, S.zz, S.rk⟩
  case refine_2 =>
    have hj : j ≠ i := fun z => by
      subst z
      rw [hi] at h1
      cases h1
    exact absurd (ownFlat_at hf hj h1) (by simp [flatSv])
  obtain ⟨v, hv, r⟩ := S.sl j s q
  by_cases hj : j = i
  · subst hj
    rw [hi] at q
    cases q
    obtain ⟨p, vs, rfl, h1, h2, h3⟩ := r
    exact ⟨_, hv, p, vs, rfl, S1.gh p _ (hp p vs h1 hv) rfl, h2, h3⟩
  · have q1 : (ρ.set i (some (.d (.list xs))))[j]? = some (some s) := by rw [List.getElem?_set_ne (fun z => hj z.symm)]; exact q
    obtain ⟨v1, hv1, r1⟩ := S1.sl j s q1
    rw [hv] at hv1
    cases hv1
    have fl := ownFlat_at hf hj q
    refine ⟨v, hv, ?_⟩
    cases s with
    | ls rr ys =>
      obtain ⟨p, vs, rfl, h1, h2, h3⟩ := r1
      exact ⟨p, vs, rfl, h1, (by
        cases z : G p with
        | none => rfl
        | some o => rw [e p o z] at h2; cases h2), h3.flat fl⟩
    | dk rr ys => cases fl
    | dt rr ys => cases fl
    | mt rr m => cases fl
    | d x => exact r
    | ex k => exact r
    | scr ns => exact r
    | fk kvs => exact r
    | ft kvs => exact r
section
variable {X : Cx} {b : Bs} {W : WX} {i k : Nat} {fi : M (List Dt)} {t : Tgt} {ft : M Bool} {fe : M Av}
theorem set_same {σ : St} (k : Nat) : σ.set k ((σ[k]?).getD none) = σ := by
  apply List.ext_getElem?
  intro j
  by_cases hj : k = j
  · subst hj
    rw [List.getElem?_set]
    simp only [if_true]
    split
    · rename_i hl
      rw [List.getElem?_eq_getElem hl]
      rfl
    · rename_i hl
      rw [List.getElem?_eq_none (by omega)]
  · rw [List.getElem?_set_ne hj]
theorem thaw_core {f : M Rv} {D : Ends} {σ : St} {H : Hp} (h : tS b W (setThaw k i f) D σ H) : tAsg (tV b W f) (gName k) D σ H := by
  obtain ⟨c, G, ρ, hb, S, q⟩ := h
  unfold setThaw at q
  by_cases hr0 : refAt ρ[k]? = true
  · rw [if_pos hr0] at q
    exact q.elim
  rw [if_neg hr0] at q
  have S := S.drop (refAt_of hb hr0) ((σ[k]?).getD none)
  rw [set_same] at S
  generalize ρ.set k none = ρ at S q
  unfold thaw0 at q
  split at q
  · rename_i xs hx
    obtain ⟨G', e, S'⟩ := S.share hb hx
    refine ⟨c, G', _, S', ?_⟩
    split at q
    · rename_i ys ρ1 hf
      rw [hf]
      by_cases hc : ys.all flatD = true ∧ ownFlat i ρ = true ∧ ρ1 = ρ.set i (some (.d (.list xs)))
      · rw [if_pos hc] at q
        obtain ⟨c1, c2, rfl⟩ := hc
        intro H1 G1 e1 S1 v hv ap
        have hp : ∀ p vs, H p = some (.lst vs) → σ[i]? = some (some (.ref p)) → G1 p = some (.lst vs) := fun p vs h1 h2 => by
          have hl : i < ρ.length := (List.getElem?_eq_some_iff.mp hx).1
          obtain ⟨v', hv', r'⟩ := S'.sl i (.d (.list xs)) (by rw [List.getElem?_set_self hl])
          rw [h2] at hv'
          cases hv'
          cases r' with
          | lst g1 g2 =>
            have := S'.gh _ _ g1 rfl
            rw [h1] at this
            cases this
            exact e1 _ _ g1
        have S2 := S.thaw hx c2 (e.trans e1) hp S1
        obtain ⟨p, vs, rfl, n1, n2, n3, n4⟩ := hv
        have gp : G p = none := by
          cases z : G p with
          | none => rfl
          | some o => rw [(e.trans e1) p o z] at n2; cases n2
        have ap2 : Apart ρ σ (.ref p) (.l ys) := fun p' e' _ j s q1 q2 q3 => by
          cases e'
          by_cases hj : j = i
          · subst hj
            obtain ⟨v, hv, r⟩ := S.sl j s q1
            rw [hx] at q1
            cases q1
            obtain ⟨pp, ws, z, r1, r2, r3⟩ := r
            rw [hv] at q3
            cases q3
            cases z
            rw [hp _ _ r1 hv] at n2
            cases n2
          · exact ap p rfl rfl j s (by rw [List.getElem?_set_ne (fun z => hj z.symm)]; exact q1) q2 q3
        show D.nx (σ.set k (some (.ref p))) H1
        unfold setM bindM retM putM at q; dsimp only at q
        by_cases hr : refAt ρ[k]? = true
        · rw [if_pos hr] at q
          exact q.elim
        · rw [if_neg hr] at q
          exact q _ H1 G (Same.refl G) (set_rn S2 ⟨p, vs, rfl, n1, gp, n3.flat c1, n4⟩ ap2 (refAt_of hb hr))
      · rw [if_neg hc] at q
        exact q.elim
    · exact q.elim
  · exact q.elim
theorem s_setLcT {y : Str} {py : Pos} {elt tg iter : Expr} {ifs : List Expr} {scope : Scope} {own : List (Str × Nat)} {pos spos : Pos} (hK : X.K = b.K) (hv : own.map (·.2) = t.slots) (hc : X.calm = true) (hN : X.N.Nodup) (hy : X.N[k]? = some y) (hyl : X.env.scope.names.lookup y = some .local)
    (hsw : swapsWith (.ListComp elt [⟨tg, iter, ifs, 0⟩] scope pos) (some (.Name y py)) spos.line X.env = pure true) (hi : PI X tg iter (tI b W fi)) (ok : BlkOk X.N X.env.scope scope own)
    (hg : ∀ (s : Shared) (H : Hp) (C : Addr) (cl : List (Str × Addr)) (fp : List Addr), PG (X.blk s H scope (compEnvC scope cl C X.env) fp) tg (gRaw X.K t))
    (ht : ∀ (s : Shared) (H : Hp) (C : Addr) (cl : List (Str × Addr)) (fp : List Addr), PTs (X.blk s H scope (compEnvC scope cl C X.env) fp) ifs (tT b W0 ft))
    (he : ∀ (s : Shared) (H : Hp) (C : Addr) (cl : List (Str × Addr)) (fp : List Addr), PE (X.blk s H scope (compEnvC scope cl C X.env) fp) elt (tE b W0 fe)) (hs : ∀ x, foldedSetIterable iter X.env x = pure x := by intro _; rfl) :
    PS X (.Assign [.Name y py] (.ListComp elt [⟨tg, iter, ifs, 0⟩] scope pos) spos) (tS b W (setThaw k i (lcM fi t ft fe))) := weakS (ps_setLc hc hN hy hyl hsw hi ok hg ht he hs) fun D σ H h => by
  rw [hv, hK]
  exact lc_sound (thaw_core h)
end
end G8
namespace G8
open PySem L2
noncomputable section
def g_RoomError : Nat → Bool := fun _ => true
def g_BadPlan : Nat → Bool := is8 3
/-! look_name -/
def f_look_name : M Fl :=
    (ifM (notM (chainT leI leI (retM (.d (.int 0))) (varM 0) (retM (.d (.int 19))))) (raiseM 0) (retM .nx))
def F_look_name : Fn := bodyF 1 f_look_name
/-! look_row -/
def b_look_row_1 : M Fl :=
    (exprS (callM 1 F_look_name (consM (varM 1) (retM []))))
theorem b_look_row_1_ap (ρ : Ev) : b_look_row_1 ρ =
    (exprS (callM 1 F_look_name (consM (varM 1) (retM [])))) ρ := rfl
def f_look_row : M Fl :=
    (seqM (ifM (cmpT gtI (lenM (varM 0)) (retM (.d (.int 24)))) (raiseM 0) (retM .nx))
    (forM (itM (varM 0)) (.one 1) b_look_row_1))
def F_look_row : Fn := bodyF 2 f_look_row
/-! names -/
def b_names_1 : M Fl :=
    (ifM (cmpT ninD (varM 2) (varM 1)) (exprS (mutM 1 appD (consM (varM 2) (retM [])))) (retM .nx))
theorem b_names_1_ap (ρ : Ev) : b_names_1 ρ =
    (ifM (cmpT ninD (varM 2) (varM 1)) (exprS (mutM 1 appD (consM (varM 2) (retM [])))) (retM .nx)) ρ := rfl
def f_names : M Fl :=
    (seqM (exprS (callM 1 F_look_row (consM (varM 0) (retM []))))
    (seqM (setM 1 (lstM (retM [])))
    (seqM (forM (itM (varM 0)) (.one 2) b_names_1)
    (retO 1))))
def F_names : Fn := bodyF 3 f_names
/-! later -/
def b_later_1 : M Fl :=
    (ifM (cmpT eqD (frzM (bin2 ixD (varM 0) (varM 2))) (frzM (bin2 ixD (varM 0) (varM 1)))) (retO 2) (retM .nx))
theorem b_later_1_ap (ρ : Ev) : b_later_1 ρ =
    (ifM (cmpT eqD (frzM (bin2 ixD (varM 0) (varM 2))) (frzM (bin2 ixD (varM 0) (varM 1)))) (retO 2) (retM .nx)) ρ := rfl
def f_later : M Fl :=
    (seqM (forM (rg2 (consM (frzM (bin2 addD (varM 1) (retM (.d (.int 1))))) (consM (lenM (varM 0)) (retM [])))) (.one 2) b_later_1)
    (retS (dataM (retM (.d .none)))))
def F_later : Fn := bodyF 3 f_later
/-! holds -/
def e_holds_1 : M Av :=
    (tupM (consM (varM 2) (consM (frzM (callM 2 F_later (consM (varM 0) (consM (varM 2) (retM []))))) (retM []))))
theorem e_holds_1_ap (ρ : Ev) : e_holds_1 ρ =
    (tupM (consM (varM 2) (consM (frzM (callM 2 F_later (consM (varM 0) (consM (varM 2) (retM []))))) (retM [])))) ρ := rfl
def t_holds_1 : M Bool :=
    (isNT true (frzM (bin2 ixD (varM 3) (retM (.d (.int 1))))))
theorem t_holds_1_ap (ρ : Ev) : t_holds_1 ρ =
    (isNT true (frzM (bin2 ixD (varM 3) (retM (.d (.int 1)))))) ρ := rfl
def f_holds : M Fl :=
    (seqM (exprS (callM 1 F_look_row (consM (varM 0) (retM []))))
    (seqM (setM 1 (lcM (rg1 (consM (lenM (varM 0)) (retM []))) (.one 2) (retM true) e_holds_1))
    (withS 1 (retS (lcM (itM (varM 1)) (.one 3) t_holds_1 (varM 3))))))
def F_holds : Fn := bodyF 4 f_holds
/-! renamed -/
def e_renamed_1 : M Av :=
    (meM (lookD indexD) (varM 1) (consM (varM 2) (retM [])))
theorem e_renamed_1_ap (ρ : Ev) : e_renamed_1 ρ =
    (meM (lookD indexD) (varM 1) (consM (varM 2) (retM []))) ρ := rfl
def f_renamed : M Fl :=
    (seqM (setM 1 (callM 1 F_names (consM (varM 0) (retM []))))
    (retS (lcM (itM (varM 0)) (.one 2) (retM true) e_renamed_1)))
def F_renamed : Fn := bodyF 3 f_renamed
/-! are_alike -/
def f_are_alike : M Fl :=
    (retS (dataM (cmpM eqD (frzM (callM 1 F_renamed (consM (varM 0) (retM [])))) (frzM (callM 1 F_renamed (consM (varM 1) (retM [])))))))
def F_are_alike : Fn := bodyF 2 f_are_alike
/-! squeezed -/
def t_squeezed_1 : M Bool :=
    (orM (cmpT eqD (varM 1) (retM (.d (.int 0)))) (cmpT neD (frzM (bin2 ixD (varM 0) (varM 1))) (frzM (bin2 ixD (varM 0) (frzM (bin2 subD (varM 1) (retM (.d (.int 1)))))))))
theorem t_squeezed_1_ap (ρ : Ev) : t_squeezed_1 ρ =
    (orM (cmpT eqD (varM 1) (retM (.d (.int 0)))) (cmpT neD (frzM (bin2 ixD (varM 0) (varM 1))) (frzM (bin2 ixD (varM 0) (frzM (bin2 subD (varM 1) (retM (.d (.int 1))))))))) ρ := rfl
def f_squeezed : M Fl :=
    (seqM (exprS (callM 1 F_look_row (consM (varM 0) (retM []))))
    (retS (lcM (rg1 (consM (lenM (varM 0)) (retM []))) (.one 1) t_squeezed_1 (frzM (bin2 ixD (varM 0) (varM 1))))))
def F_squeezed : Fn := bodyF 2 f_squeezed
/-! apart -/
def e_apart_1 : M Av :=
    (cmpM ltI (varM 1) (retM (.d (.int 10))))
theorem e_apart_1_ap (ρ : Ev) : e_apart_1 ρ =
    (cmpM ltI (varM 1) (retM (.d (.int 10)))) ρ := rfl
def e_apart_2 : M Av :=
    (frzM (bin2 addD (varM 1) (retM (.d (.int 10)))))
theorem e_apart_2_ap (ρ : Ev) : e_apart_2 ρ =
    (frzM (bin2 addD (varM 1) (retM (.d (.int 10))))) ρ := rfl
def f_apart : M Fl :=
    (seqM (exprS (callM 1 F_look_row (consM (varM 0) (retM []))))
    (seqM (ifM (notM (testM (frzM (biM allD (consM (frzM (lcM (itM (varM 0)) (.one 1) (retM true) e_apart_1)) (retM [])))))) (raiseM 0) (retM .nx))
    (retS (lcM (itM (varM 0)) (.one 1) (retM true) e_apart_2))))
def F_apart : Fn := bodyF 2 f_apart
/-! _law_cell -/
def f__law_cell : M Fl :=
    (seqM (ifM (testM (varM 0)) (retS (dataM (ixS 0 (frzM (bin2 modD (varM 1) (lenM (varM 0))))))) (retM .nx))
    (retS (dataM (retM (.d (.int 0))))))
def F__law_cell : Fn := bodyF 2 f__law_cell
/-! _law_mix -/
def f__law_mix : M Fl :=
    (seqM (setM 2 (bin2 modD (frzM (bin2 addD (frzM (callM 2 F__law_cell (consM (varM 0) (consM (varM 1) (retM []))))) (frzM (bin2 mulD (retM (.d (.int 104729))) (frzM (bin2 addD (varM 1) (retM (.d (.int 1))))))))) (retM (.d (.int 4294967291)))))
    (seqM (setM 2 (bin2 modD (frzM (bin2 powD (varM 2) (retM (.d (.int 5))))) (retM (.d (.int 4294967279)))))
    (retS (bin2 modD (frzM (bin2 addD (frzM (bin2 mulD (frzM (bin2 fdivD (varM 2) (retM (.d (.int 64))))) (retM (.d (.int 69621))))) (varM 2))) (retM (.d (.int 4294967231)))))))
def F__law_mix : Fn := bodyF 3 f__law_mix
/-! _law_draw -/
def f__law_draw : M Fl :=
    (seqM (exprS (mutM 1 appD (consM (retM (.d (.int 0))) (retM []))))
    (retS (bin2 modD (frzM (bin2 fdivD (frzM (callM 2 F__law_mix (consM (varM 0) (consM (lenM (varM 1)) (retM []))))) (retM (.d (.int 8))))) (varM 2))))
def F__law_draw : Fn := bodyF 3 f__law_draw
/-! _law_pick -/
def f__law_pick : M Fl :=
    (retS (bin2 ixD (varM 2) (frzM (callM 3 F__law_draw (consM (varM 0) (consM (varM 1) (consM (lenM (varM 2)) (retM []))))))))
def F__law_pick : Fn := bodyF 3 f__law_pick
/-! _law_refusal -/
def f__law_refusal : M Fl :=
    (seqM (ifM (isNT false (varM 0)) (retS (dataM (tupM (consM (retM (.d (.str "ok"))) (retM []))))) (retM .nx))
    (seqM (setM 1 (lstM (consM (isiM 0 (is8 0)) (consM (isiM 0 (is8 1)) (consM (isiM 0 (is8 2)) (retM []))))))
    (seqM (setM 1 (bin2 addD (varM 1) (frzM (lstM (consM (isiM 0 (is8 3)) (consM (isiM 0 (is8 4)) (consM (isiM 0 (is8 5)) (retM []))))))))
    (seqM (setM 1 (bin2 addD (varM 1) (frzM (lstM (consM (isiM 0 (is8 6)) (consM (isiM 0 (is8 7)) (retM [])))))))
    (seqM (ifM (orM (cmpT neD (meM (lookD countD) (varM 1) (consM (retM (.d (.bool true))) (retM []))) (retM (.d (.int 1)))) (notM (testM (isiM 0 (fun _ => true))))) (retS (dataM (tupM (consM (retM (.d (.str "wrong"))) (retM []))))) (retM .nx))
    (seqM (setM 2 (lstM (consM (retM (.d (.str "row"))) (consM (retM (.d (.str "room"))) (consM (retM (.d (.str "rule"))) (consM (retM (.d (.str "plan"))) (consM (retM (.d (.str "depths"))) (consM (retM (.d (.str "turns"))) (consM (retM (.d (.str "ask"))) (consM (retM (.d (.str "text"))) (retM [])))))))))))
    (retS (dataM (tupM (consM (retM (.d (.str "refused"))) (consM (frzM (bin2 ixD (varM 2) (meM (lookD indexD) (varM 1) (consM (retM (.d (.bool true))) (retM []))))) (retM []))))))))))))
def F__law_refusal : Fn := bodyF 3 f__law_refusal
/-! _law_row -/
def b__law_row_1 : M Fl :=
    (seqM (setM 7 (callM 3 F__law_draw (consM (varM 0) (consM (varM 1) (consM (varM 4) (retM []))))))
    (seqM (ifM (andM (cmpT neD (varM 5) (frzM (lstM (retM [])))) (cmpT eqD (frzM (callM 3 F__law_draw (consM (varM 0) (consM (varM 1) (consM (retM (.d (.int 4))) (retM [])))))) (retM (.d (.int 0))))) (setM 7 (bin2 ixD (varM 5) (frzM (callM 3 F__law_draw (consM (varM 0) (consM (varM 1) (consM (lenM (varM 5)) (retM [])))))))) (retM .nx))
    (exprS (mutM 5 appD (consM (varM 7) (retM []))))))
theorem b__law_row_1_ap (ρ : Ev) : b__law_row_1 ρ =
    (seqM (setM 7 (callM 3 F__law_draw (consM (varM 0) (consM (varM 1) (consM (varM 4) (retM []))))))
    (seqM (ifM (andM (cmpT neD (varM 5) (frzM (lstM (retM [])))) (cmpT eqD (frzM (callM 3 F__law_draw (consM (varM 0) (consM (varM 1) (consM (retM (.d (.int 4))) (retM [])))))) (retM (.d (.int 0))))) (setM 7 (bin2 ixD (varM 5) (frzM (callM 3 F__law_draw (consM (varM 0) (consM (varM 1) (consM (lenM (varM 5)) (retM [])))))))) (retM .nx))
    (exprS (mutM 5 appD (consM (varM 7) (retM [])))))) ρ := rfl
def f__law_row : M Fl :=
    (seqM (setM 4 (bin2 addD (retM (.d (.int 1))) (frzM (callM 3 F__law_draw (consM (varM 0) (consM (varM 1) (consM (varM 3) (retM []))))))))
    (seqM (setM 5 (lstM (retM [])))
    (seqM (forM (rg1 (consM (frzM (callM 3 F__law_draw (consM (varM 0) (consM (varM 1) (consM (frzM (bin2 addD (varM 2) (retM (.d (.int 1))))) (retM [])))))) (retM []))) (.one 6) b__law_row_1)
    (retO 5))))
def F__law_row : Fn := bodyF 8 f__law_row
/-! look_room -/
def f_look_room : M Fl :=
    (ifM (notM (chainT leI leI (retM (.d (.int 0))) (varM 0) (retM (.d (.int 12))))) (raiseM 1) (retM .nx))
def F_look_room : Fn := bodyF 1 f_look_room
def l_RULES : List Str := ["last", "first", "old", "young", "far", "often"]
/-! look_rule -/
def f_look_rule : M Fl :=
    (ifM (cmpT ninD (varM 0) (retM (.d (.tuple (l_RULES.map PyData.str))))) (raiseM 2) (retM .nx))
def F_look_rule : Fn := bodyF 1 f_look_rule
/-! next_of -/
def b_next_of_1 : M Fl :=
    (ifM (cmpT eqD (frzM (bin2 ixD (varM 0) (varM 3))) (varM 2)) (retO 3) (retM .nx))
theorem b_next_of_1_ap (ρ : Ev) : b_next_of_1 ρ =
    (ifM (cmpT eqD (frzM (bin2 ixD (varM 0) (varM 3))) (varM 2)) (retO 3) (retM .nx)) ρ := rfl
def f_next_of : M Fl :=
    (seqM (forM (rg2 (consM (varM 1) (consM (lenM (varM 0)) (retM [])))) (.one 3) b_next_of_1)
    (retS (dataM (lenM (varM 0)))))
def F_next_of : Fn := bodyF 4 f_next_of
/-! last_of -/
def t_last_of_1 : M Bool :=
    (cmpT eqD (frzM (bin2 ixD (varM 0) (varM 3))) (varM 2))
theorem t_last_of_1_ap (ρ : Ev) : t_last_of_1 ρ =
    (cmpT eqD (frzM (bin2 ixD (varM 0) (varM 3))) (varM 2)) ρ := rfl
def f_last_of : M Fl :=
    (retS (biM (bestD PySem.W.maxD) (consM (frzM (lcM (rg1 (consM (varM 1) (retM []))) (.one 3) t_last_of_1 (varM 3))) (retM []))))
def F_last_of : Fn := bodyF 4 f_last_of
/-! worth -/
def f_worth : M Fl :=
    (seqM (ifM (cmpT eqD (varM 0) (retM (.d (.str "last")))) (retS (dataM (tupM (consM (frzM (callM 3 F_last_of (consM (varM 1) (consM (varM 2) (consM (varM 3) (retM [])))))) (consM (retM (.d (.int 0))) (retM [])))))) (retM .nx))
    (seqM (ifM (cmpT eqD (varM 0) (retM (.d (.str "first")))) (retS (dataM (tupM (consM (frzM (bin2 subD (retM (.d (.int 0))) (frzM (callM 3 F_last_of (consM (varM 1) (consM (varM 2) (consM (varM 3) (retM [])))))))) (consM (retM (.d (.int 0))) (retM [])))))) (retM .nx))
    (seqM (ifM (cmpT eqD (varM 0) (retM (.d (.str "old")))) (retS (dataM (tupM (consM (getK 4 (varM 3)) (consM (retM (.d (.int 0))) (retM [])))))) (retM .nx))
    (seqM (ifM (cmpT eqD (varM 0) (retM (.d (.str "young")))) (retS (dataM (tupM (consM (frzM (bin2 subD (retM (.d (.int 0))) (getK 4 (varM 3)))) (consM (retM (.d (.int 0))) (retM [])))))) (retM .nx))
    (seqM (ifM (cmpT eqD (varM 0) (retM (.d (.str "far")))) (retS (dataM (tupM (consM (frzM (bin2 subD (retM (.d (.int 0))) (frzM (callM 3 F_next_of (consM (varM 1) (consM (varM 2) (consM (varM 3) (retM [])))))))) (consM (varM 3) (retM [])))))) (retM .nx))
    (retS (dataM (tupM (consM (meM (lookD countD) (frzM (sliceM (varM 1) partN (partS (varM 2)))) (consM (varM 3) (retM []))) (consM (frzM (callM 3 F_last_of (consM (varM 1) (consM (varM 2) (consM (varM 3) (retM [])))))) (retM [])))))))))))
def F_worth : Fn := bodyF 5 f_worth
/-! victim -/
def e_victim_1 : M Av :=
    (tupM (consM (frzM (callM 5 F_worth (consM (varM 0) (consM (varM 1) (consM (varM 2) (consM (varM 5) (consM (varM 3) (retM [])))))))) (consM (varM 5) (retM []))))
theorem e_victim_1_ap (ρ : Ev) : e_victim_1 ρ =
    (tupM (consM (frzM (callM 5 F_worth (consM (varM 0) (consM (varM 1) (consM (varM 2) (consM (varM 5) (consM (varM 3) (retM [])))))))) (consM (varM 5) (retM [])))) ρ := rfl
def f_victim : M Fl :=
    (seqM (setM 4 (biM sortD (consM (frzM (lcM (keysM 3) (.one 5) (retM true) e_victim_1)) (retM []))))
    (retS (bin2 ixD (frzM (bin2 ixD (varM 4) (retM (.d (.int 0))))) (retM (.d (.int 1))))))
def F_victim : Fn := bodyF 6 f_victim
/-! walk -/
def b_walk_1 : M Fl :=
    (seqM (setM 6 (dataM (retM (.d .none))))
    (seqM (setM 7 (dataM (inK false 3 (frzM (bin2 ixD (varM 2) (varM 5))))))
    (seqM (ifM (andM (notM (testM (varM 7))) (cmpT gtI (varM 1) (retM (.d (.int 0))))) (seqM (ifM (cmpT eqD (lenM (varM 3)) (varM 1)) (seqM (setM 6 (lockE 3 (callM 4 F_victim (consM (varM 0) (consM (varM 2) (consM (varM 5) (consM (varM 3) (retM []))))))))
    (exprS (popKM 3 (varM 6)))) (retM .nx))
    (putKM 3 (varM 5) (frzM (bin2 ixD (varM 2) (varM 5))))) (retM .nx))
    (exprS (mutM 4 appD (consM (tupM (consM (varM 7) (consM (varM 6) (retM [])))) (retM [])))))))
theorem b_walk_1_ap (ρ : Ev) : b_walk_1 ρ =
    (seqM (setM 6 (dataM (retM (.d .none))))
    (seqM (setM 7 (dataM (inK false 3 (frzM (bin2 ixD (varM 2) (varM 5))))))
    (seqM (ifM (andM (notM (testM (varM 7))) (cmpT gtI (varM 1) (retM (.d (.int 0))))) (seqM (ifM (cmpT eqD (lenM (varM 3)) (varM 1)) (seqM (setM 6 (lockE 3 (callM 4 F_victim (consM (varM 0) (consM (varM 2) (consM (varM 5) (consM (varM 3) (retM []))))))))
    (exprS (popKM 3 (varM 6)))) (retM .nx))
    (putKM 3 (varM 5) (frzM (bin2 ixD (varM 2) (varM 5))))) (retM .nx))
    (exprS (mutM 4 appD (consM (tupM (consM (varM 7) (consM (varM 6) (retM [])))) (retM []))))))) ρ := rfl
def f_walk : M Fl :=
    (seqM (setM 3 (retM (.k [])))
    (seqM (setM 4 (lstM (retM [])))
    (seqM (forM (rg1 (consM (lenM (varM 2)) (retM []))) (.one 5) b_walk_1)
    (withS 4 (retS (dataM (tupM (consM (varM 4) (consM (frzM (sortK 3)) (retM []))))))))))
def F_walk : Fn := bodyF 8 f_walk
/-! run -/
def f_run : M Fl :=
    (seqM (exprS (callM 1 F_look_rule (consM (varM 0) (retM []))))
    (seqM (exprS (callM 1 F_look_room (consM (varM 1) (retM []))))
    (seqM (exprS (callM 1 F_look_row (consM (varM 2) (retM []))))
    (retS (lcM (itM (frzM (bin2 ixD (frzM (callM 3 F_walk (consM (varM 0) (consM (varM 1) (consM (varM 2) (retM [])))))) (retM (.d (.int 0)))))) (.tup [3, 4]) (retM true) (varM 3))))))
def F_run : Fn := bodyF 5 f_run
/-! kept -/
def f_kept : M Fl :=
    (seqM (exprS (callM 1 F_look_rule (consM (varM 0) (retM []))))
    (seqM (exprS (callM 1 F_look_room (consM (varM 1) (retM []))))
    (seqM (exprS (callM 1 F_look_row (consM (varM 2) (retM []))))
    (retS (bin2 ixD (frzM (callM 3 F_walk (consM (varM 0) (consM (varM 1) (consM (varM 2) (retM [])))))) (retM (.d (.int 1))))))))
def F_kept : Fn := bodyF 3 f_kept
/-! gone -/
def f_gone : M Fl :=
    (seqM (exprS (callM 1 F_look_rule (consM (varM 0) (retM []))))
    (seqM (exprS (callM 1 F_look_room (consM (varM 1) (retM []))))
    (seqM (exprS (callM 1 F_look_row (consM (varM 2) (retM []))))
    (retS (lcM (itM (frzM (bin2 ixD (frzM (callM 3 F_walk (consM (varM 0) (consM (varM 1) (consM (varM 2) (retM [])))))) (retM (.d (.int 0)))))) (.tup [3, 4]) (retM true) (varM 4))))))
def F_gone : Fn := bodyF 5 f_gone
/-! misses -/
def f_misses : M Fl :=
    (retS (dataM (meM (lookD countD) (frzM (callM 3 F_run (consM (varM 0) (consM (varM 1) (consM (varM 2) (retM [])))))) (consM (retM (.d (.bool false))) (retM [])))))
def F_misses : Fn := bodyF 3 f_misses
/-! _law_place -/
def b__law_place_1 : M Fl :=
    (ifM (cmpT eqD (frzM (bin2 ixD (varM 0) (varM 5))) (varM 1)) (retO 5) (retM .nx))
theorem b__law_place_1_ap (ρ : Ev) : b__law_place_1 ρ =
    (ifM (cmpT eqD (frzM (bin2 ixD (varM 0) (varM 5))) (varM 1)) (retO 5) (retM .nx)) ρ := rfl
def f__law_place : M Fl :=
    (seqM (setM 4 (dataM (ifM (cmpT leI (varM 2) (varM 3)) (retM (.d (.int 1))) (frzM (un1 negD (retM (.d (.int 1))))))))
    (seqM (forM (rg3u (consM (varM 2) (consM (varM 3) (consM (varM 4) (retM []))))) (.one 5) b__law_place_1)
    (retS (dataM (retM (.d .none))))))
def F__law_place : Fn := bodyF 6 f__law_place
/-! _law_goes -/
def e__law_goes_1 : M Av :=
    (frzM (callM 4 F__law_place (consM (varM 1) (consM (varM 7) (consM (frzM (bin2 subD (varM 2) (retM (.d (.int 1))))) (consM (frzM (un1 negD (retM (.d (.int 1))))) (retM [])))))))
theorem e__law_goes_1_ap (ρ : Ev) : e__law_goes_1 ρ =
    (frzM (callM 4 F__law_place (consM (varM 1) (consM (varM 7) (consM (frzM (bin2 subD (varM 2) (retM (.d (.int 1))))) (consM (frzM (un1 negD (retM (.d (.int 1))))) (retM []))))))) ρ := rfl
def e__law_goes_2 : M Av :=
    (frzM (callM 4 F__law_place (consM (varM 1) (consM (varM 7) (consM (varM 2) (consM (lenM (varM 1)) (retM [])))))))
theorem e__law_goes_2_ap (ρ : Ev) : e__law_goes_2 ρ =
    (frzM (callM 4 F__law_place (consM (varM 1) (consM (varM 7) (consM (varM 2) (consM (lenM (varM 1)) (retM []))))))) ρ := rfl
def t__law_goes_1 : M Bool :=
    (isNT false (frzM (bin2 ixD (varM 6) (varM 8))))
theorem t__law_goes_1_ap (ρ : Ev) : t__law_goes_1 ρ =
    (isNT false (frzM (bin2 ixD (varM 6) (varM 8)))) ρ := rfl
def t__law_goes_2 : M Bool :=
    (cmpT eqD (varM 9) (frzM (bin2 ixD (varM 3) (varM 8))))
theorem t__law_goes_2_ap (ρ : Ev) : t__law_goes_2 ρ =
    (cmpT eqD (varM 9) (frzM (bin2 ixD (varM 3) (varM 8)))) ρ := rfl
def e__law_goes_3 : M Av :=
    (tupM (consM (lenM (frzM (lcM (itM (frzM (sliceM (varM 1) partN (partS (varM 2))))) (.one 9) t__law_goes_2 (varM 9)))) (consM (frzM (bin2 ixD (varM 4) (varM 8))) (consM (frzM (bin2 ixD (varM 3) (varM 8))) (retM [])))))
theorem e__law_goes_3_ap (ρ : Ev) : e__law_goes_3 ρ =
    (tupM (consM (lenM (frzM (lcM (itM (frzM (sliceM (varM 1) partN (partS (varM 2))))) (.one 9) t__law_goes_2 (varM 9)))) (consM (frzM (bin2 ixD (varM 4) (varM 8))) (consM (frzM (bin2 ixD (varM 3) (varM 8))) (retM []))))) ρ := rfl
def f__law_goes : M Fl :=
    (seqM (ifM (cmpT eqD (varM 0) (retM (.d (.str "old")))) (retS (bin2 ixD (varM 3) (retM (.d (.int 0))))) (retM .nx))
    (seqM (ifM (cmpT eqD (varM 0) (retM (.d (.str "young")))) (retS (bin2 ixD (varM 3) (frzM (un1 negD (retM (.d (.int 1))))))) (retM .nx))
    (seqM (setM 4 (lcM (itM (varM 3)) (.one 7) (retM true) e__law_goes_1))
    (seqM (ifM (cmpT eqD (varM 0) (retM (.d (.str "last")))) (retS (bin2 ixD (varM 3) (meM (lookD indexD) (varM 4) (consM (frzM (biM (bestD PySem.W.minD) (consM (varM 4) (retM [])))) (retM []))))) (retM .nx))
    (seqM (ifM (cmpT eqD (varM 0) (retM (.d (.str "first")))) (retS (bin2 ixD (varM 3) (meM (lookD indexD) (varM 4) (consM (frzM (biM (bestD PySem.W.maxD) (consM (varM 4) (retM [])))) (retM []))))) (retM .nx))
    (seqM (ifM (cmpT eqD (varM 0) (retM (.d (.str "far")))) (seqM (setM 6 (lcM (itM (varM 3)) (.one 7) (retM true) e__law_goes_2))
    (seqM (ifM (cmpT inD (retM (.d .none)) (varM 6)) (retS (biM (bestD PySem.W.minD) (consM (frzM (lcM (rg1 (consM (lenM (varM 3)) (retM []))) (.one 8) t__law_goes_1 (frzM (bin2 ixD (varM 3) (varM 8))))) (retM [])))) (retM .nx))
    (retS (bin2 ixD (varM 3) (meM (lookD indexD) (varM 6) (consM (frzM (biM (bestD PySem.W.maxD) (consM (varM 6) (retM [])))) (retM []))))))) (retM .nx))
    (seqM (setM 5 (lcM (rg1 (consM (lenM (varM 3)) (retM []))) (.one 8) (retM true) e__law_goes_3))
    (retS (bin2 ixD (frzM (biM (bestD PySem.W.minD) (consM (varM 5) (retM [])))) (retM (.d (.int 2))))))))))))
def F__law_goes : Fn := bodyF 10 f__law_goes
/-! _law_walk -/
def t__law_walk_1 : M Bool :=
    (cmpT neD (varM 7) (frzM (bin2 ixD (varM 5) (varM 6))))
theorem t__law_walk_1_ap (ρ : Ev) : t__law_walk_1 ρ =
    (cmpT neD (varM 7) (frzM (bin2 ixD (varM 5) (varM 6)))) ρ := rfl
def b__law_walk_1 : M Fl :=
    (seqM (exprS (mutM 4 appD (consM (cmpM inD (frzM (bin2 ixD (varM 2) (varM 6))) (varM 3)) (retM []))))
    (seqM (exprS (mutM 5 appD (consM (retM (.d .none)) (retM []))))
    (ifM (andM (cmpT ninD (frzM (bin2 ixD (varM 2) (varM 6))) (varM 3)) (cmpT gtI (varM 1) (retM (.d (.int 0))))) (seqM (ifM (cmpT eqD (lenM (varM 3)) (varM 1)) (seqM (withS 3 (setIt 5 (frzM (callM 4 F__law_goes (consM (varM 0) (consM (varM 2) (consM (varM 6) (consM (varM 3) (retM []))))))) (varM 6)))
    (withS 3 (setM 3 (lcM (itM (varM 3)) (.one 7) t__law_walk_1 (varM 7))))) (retM .nx))
    (exprS (mutM 3 appD (consM (frzM (bin2 ixD (varM 2) (varM 6))) (retM []))))) (retM .nx))))
theorem b__law_walk_1_ap (ρ : Ev) : b__law_walk_1 ρ =
    (seqM (exprS (mutM 4 appD (consM (cmpM inD (frzM (bin2 ixD (varM 2) (varM 6))) (varM 3)) (retM []))))
    (seqM (exprS (mutM 5 appD (consM (retM (.d .none)) (retM []))))
    (ifM (andM (cmpT ninD (frzM (bin2 ixD (varM 2) (varM 6))) (varM 3)) (cmpT gtI (varM 1) (retM (.d (.int 0))))) (seqM (ifM (cmpT eqD (lenM (varM 3)) (varM 1)) (seqM (withS 3 (setIt 5 (frzM (callM 4 F__law_goes (consM (varM 0) (consM (varM 2) (consM (varM 6) (consM (varM 3) (retM []))))))) (varM 6)))
    (withS 3 (setM 3 (lcM (itM (varM 3)) (.one 7) t__law_walk_1 (varM 7))))) (retM .nx))
    (exprS (mutM 3 appD (consM (frzM (bin2 ixD (varM 2) (varM 6))) (retM []))))) (retM .nx)))) ρ := rfl
def f__law_walk : M Fl :=
    (seqM (setM 3 (lstM (retM [])))
    (seqM (setM 4 (lstM (retM [])))
    (seqM (setM 5 (lstM (retM [])))
    (seqM (forM (rg1 (consM (lenM (varM 2)) (retM []))) (.one 6) b__law_walk_1)
    (withS 4 (withS 5 (withS 3 (retS (dataM (tupM (consM (varM 4) (consM (varM 5) (consM (varM 3) (retM []))))))))))))))
def F__law_walk : Fn := bodyF 8 f__law_walk
def l_STACKED : List Str := ["last", "first", "young", "far", "often"]
/-! look_stacked -/
def f_look_stacked : M Fl :=
    (seqM (exprS (callM 1 F_look_rule (consM (varM 0) (retM []))))
    (ifM (cmpT ninD (varM 0) (retM (.d (.tuple (l_STACKED.map PyData.str))))) (raiseM 2) (retM .nx)))
def F_look_stacked : Fn := bodyF 1 f_look_stacked
/-! rank -/
def f_rank : M Fl :=
    (seqM (ifM (cmpT eqD (varM 0) (retM (.d (.str "last")))) (retS (dataM (tupM (consM (frzM (callM 3 F_last_of (consM (varM 1) (consM (varM 2) (consM (varM 3) (retM [])))))) (consM (retM (.d (.int 0))) (retM [])))))) (retM .nx))
    (seqM (ifM (cmpT eqD (varM 0) (retM (.d (.str "first")))) (retS (dataM (tupM (consM (frzM (bin2 subD (retM (.d (.int 0))) (frzM (callM 3 F_last_of (consM (varM 1) (consM (varM 2) (consM (varM 3) (retM [])))))))) (consM (retM (.d (.int 0))) (retM [])))))) (retM .nx))
    (seqM (ifM (cmpT eqD (varM 0) (retM (.d (.str "young")))) (retS (dataM (tupM (consM (frzM (bin2 subD (retM (.d (.int 0))) (frzM (callM 3 F_next_of (consM (varM 1) (consM (retM (.d (.int 0))) (consM (varM 3) (retM [])))))))) (consM (retM (.d (.int 0))) (retM [])))))) (retM .nx))
    (seqM (ifM (cmpT eqD (varM 0) (retM (.d (.str "far")))) (retS (dataM (tupM (consM (frzM (bin2 subD (retM (.d (.int 0))) (frzM (callM 3 F_next_of (consM (varM 1) (consM (varM 2) (consM (varM 3) (retM [])))))))) (consM (varM 3) (retM [])))))) (retM .nx))
    (retS (dataM (tupM (consM (meM (lookD countD) (frzM (sliceM (varM 1) partN (partS (varM 2)))) (consM (varM 3) (retM []))) (consM (frzM (callM 3 F_last_of (consM (varM 1) (consM (varM 2) (consM (varM 3) (retM [])))))) (retM []))))))))))
def F_rank : Fn := bodyF 4 f_rank
/-! moved -/
def b_moved_1 : M Fl :=
    (seqM (ifM (cmpT eqD (varM 7) (varM 4)) (retM .bk) (retM .nx))
    (ifM (isNT false (varM 6)) (setM 6 (dataM (varM 7))) (ifM (cmpT ltT (frzM (callM 4 F_rank (consM (varM 0) (consM (varM 1) (consM (varM 2) (consM (varM 7) (retM []))))))) (frzM (callM 4 F_rank (consM (varM 0) (consM (varM 1) (consM (varM 2) (consM (varM 6) (retM [])))))))) (seqM (exprS (mutM 5 appD (consM (varM 6) (retM []))))
    (setM 6 (dataM (varM 7)))) (exprS (mutM 5 appD (consM (varM 7) (retM [])))))))
theorem b_moved_1_ap (ρ : Ev) : b_moved_1 ρ =
    (seqM (ifM (cmpT eqD (varM 7) (varM 4)) (retM .bk) (retM .nx))
    (ifM (isNT false (varM 6)) (setM 6 (dataM (varM 7))) (ifM (cmpT ltT (frzM (callM 4 F_rank (consM (varM 0) (consM (varM 1) (consM (varM 2) (consM (varM 7) (retM []))))))) (frzM (callM 4 F_rank (consM (varM 0) (consM (varM 1) (consM (varM 2) (consM (varM 6) (retM [])))))))) (seqM (exprS (mutM 5 appD (consM (varM 6) (retM []))))
    (setM 6 (dataM (varM 7)))) (exprS (mutM 5 appD (consM (varM 7) (retM []))))))) ρ := rfl
def f_moved : M Fl :=
    (seqM (setM 4 (bin2 ixD (varM 1) (varM 2)))
    (seqM (setM 5 (lstM (consM (varM 4) (retM []))))
    (seqM (setM 6 (dataM (retM (.d .none))))
    (seqM (forM (itM (varM 3)) (.one 7) b_moved_1)
    (seqM (ifM (isNT true (varM 6)) (exprS (mutM 5 appD (consM (varM 6) (retM [])))) (retM .nx))
    (retS (bin2 addD (varM 5) (frzM (sliceM (varM 3) (partS (lenM (varM 5))) partN)))))))))
def F_moved : Fn := bodyF 8 f_moved
/-! walked -/
def b_walked_1 : M Fl :=
    (seqM (exprS (mutM 3 appD (consM (ifM (cmpT inD (frzM (bin2 ixD (varM 1) (varM 4))) (varM 2)) (frzM (bin2 addD (meM (lookD indexD) (varM 2) (consM (frzM (bin2 ixD (varM 1) (varM 4))) (retM []))) (retM (.d (.int 1))))) (retM (.d .none))) (retM []))))
    (withS 2 (setM 2 (callM 4 F_moved (consM (varM 0) (consM (varM 1) (consM (varM 4) (consM (varM 2) (retM [])))))))))
theorem b_walked_1_ap (ρ : Ev) : b_walked_1 ρ =
    (seqM (exprS (mutM 3 appD (consM (ifM (cmpT inD (frzM (bin2 ixD (varM 1) (varM 4))) (varM 2)) (frzM (bin2 addD (meM (lookD indexD) (varM 2) (consM (frzM (bin2 ixD (varM 1) (varM 4))) (retM []))) (retM (.d (.int 1))))) (retM (.d .none))) (retM []))))
    (withS 2 (setM 2 (callM 4 F_moved (consM (varM 0) (consM (varM 1) (consM (varM 4) (consM (varM 2) (retM []))))))))) ρ := rfl
def f_walked : M Fl :=
    (seqM (setM 2 (lstM (retM [])))
    (seqM (setM 3 (lstM (retM [])))
    (seqM (forM (rg1 (consM (lenM (varM 1)) (retM []))) (.one 4) b_walked_1)
    (withS 3 (withS 2 (retS (dataM (tupM (consM (varM 3) (consM (varM 2) (retM [])))))))))))
def F_walked : Fn := bodyF 5 f_walked
/-! depths -/
def f_depths : M Fl :=
    (seqM (exprS (callM 1 F_look_stacked (consM (varM 0) (retM []))))
    (seqM (exprS (callM 1 F_look_row (consM (varM 1) (retM []))))
    (retS (bin2 ixD (frzM (callM 2 F_walked (consM (varM 0) (consM (varM 1) (retM []))))) (retM (.d (.int 0)))))))
def F_depths : Fn := bodyF 2 f_depths
/-! stack -/
def f_stack : M Fl :=
    (seqM (exprS (callM 1 F_look_stacked (consM (varM 0) (retM []))))
    (seqM (exprS (callM 1 F_look_row (consM (varM 1) (retM []))))
    (retS (bin2 ixD (frzM (callM 2 F_walked (consM (varM 0) (consM (varM 1) (retM []))))) (retM (.d (.int 1)))))))
def F_stack : Fn := bodyF 2 f_stack
/-! counts -/
def e_counts_1 : M Av :=
    (meM (lookD countD) (varM 2) (consM (varM 3) (retM [])))
theorem e_counts_1_ap (ρ : Ev) : e_counts_1 ρ =
    (meM (lookD countD) (varM 2) (consM (varM 3) (retM []))) ρ := rfl
def f_counts : M Fl :=
    (seqM (setM 2 (callM 2 F_depths (consM (varM 0) (consM (varM 1) (retM [])))))
    (retS (bin2 addD (frzM (lstM (consM (meM (lookD countD) (varM 2) (consM (retM (.d .none)) (retM []))) (retM [])))) (frzM (lcM (rg2 (consM (retM (.d (.int 1))) (consM (frzM (bin2 addD (retM (.d (.int 12))) (retM (.d (.int 1))))) (retM [])))) (.one 3) (retM true) e_counts_1)))))
def F_counts : Fn := bodyF 4 f_counts
/-! curve -/
def e_curve_1 : M Av :=
    (frzM (callM 3 F_misses (consM (varM 0) (consM (varM 3) (consM (varM 1) (retM []))))))
theorem e_curve_1_ap (ρ : Ev) : e_curve_1 ρ =
    (frzM (callM 3 F_misses (consM (varM 0) (consM (varM 3) (consM (varM 1) (retM [])))))) ρ := rfl
def t_curve_1 : M Bool :=
    (orM (isNT false (varM 4)) (cmpT gtI (varM 4) (varM 3)))
theorem t_curve_1_ap (ρ : Ev) : t_curve_1 ρ =
    (orM (isNT false (varM 4)) (cmpT gtI (varM 4) (varM 3))) ρ := rfl
def e_curve_2 : M Av :=
    (lenM (frzM (lcM (itM (varM 2)) (.one 4) t_curve_1 (varM 4))))
theorem e_curve_2_ap (ρ : Ev) : e_curve_2 ρ =
    (lenM (frzM (lcM (itM (varM 2)) (.one 4) t_curve_1 (varM 4)))) ρ := rfl
def f_curve : M Fl :=
    (seqM (exprS (callM 1 F_look_rule (consM (varM 0) (retM []))))
    (seqM (exprS (callM 1 F_look_row (consM (varM 1) (retM []))))
    (seqM (ifM (cmpT ninD (varM 0) (retM (.d (.tuple (l_STACKED.map PyData.str))))) (retS (lcM (rg1 (consM (frzM (bin2 addD (retM (.d (.int 12))) (retM (.d (.int 1))))) (retM []))) (.one 3) (retM true) e_curve_1)) (retM .nx))
    (seqM (setM 2 (callM 2 F_depths (consM (varM 0) (consM (varM 1) (retM [])))))
    (retS (lcM (rg1 (consM (frzM (bin2 addD (retM (.d (.int 12))) (retM (.d (.int 1))))) (retM []))) (.one 3) (retM true) e_curve_2))))))
def F_curve : Fn := bodyF 5 f_curve
/-! loses -/
def t_loses_1 : M Bool :=
    (cmpT gtI (frzM (bin2 ixD (varM 2) (frzM (bin2 addD (varM 3) (retM (.d (.int 1))))))) (frzM (bin2 ixD (varM 2) (varM 3))))
theorem t_loses_1_ap (ρ : Ev) : t_loses_1 ρ =
    (cmpT gtI (frzM (bin2 ixD (varM 2) (frzM (bin2 addD (varM 3) (retM (.d (.int 1))))))) (frzM (bin2 ixD (varM 2) (varM 3)))) ρ := rfl
def f_loses : M Fl :=
    (seqM (setM 2 (callM 2 F_curve (consM (varM 0) (consM (varM 1) (retM [])))))
    (retS (lcM (rg1 (consM (retM (.d (.int 12))) (retM []))) (.one 3) t_loses_1 (varM 3))))
def F_loses : Fn := bodyF 4 f_loses
/-! _law_depth -/
def t__law_depth_1 : M Bool :=
    (cmpT eqD (frzM (bin2 ixD (varM 0) (varM 4))) (frzM (bin2 ixD (varM 0) (varM 1))))
theorem t__law_depth_1_ap (ρ : Ev) : t__law_depth_1 ρ =
    (cmpT eqD (frzM (bin2 ixD (varM 0) (varM 4))) (frzM (bin2 ixD (varM 0) (varM 1)))) ρ := rfl
def t__law_depth_2 : M Bool :=
    (orM (cmpT eqD (varM 4) (retM (.d (.int 0)))) (cmpT neD (frzM (bin2 ixD (varM 3) (varM 4))) (frzM (bin2 ixD (varM 3) (frzM (bin2 subD (varM 4) (retM (.d (.int 1)))))))))
theorem t__law_depth_2_ap (ρ : Ev) : t__law_depth_2 ρ =
    (orM (cmpT eqD (varM 4) (retM (.d (.int 0)))) (cmpT neD (frzM (bin2 ixD (varM 3) (varM 4))) (frzM (bin2 ixD (varM 3) (frzM (bin2 subD (varM 4) (retM (.d (.int 1))))))))) ρ := rfl
def f__law_depth : M Fl :=
    (seqM (setM 2 (lcM (rg1 (consM (varM 1) (retM []))) (.one 4) t__law_depth_1 (varM 4)))
    (seqM (ifM (cmpT eqD (varM 2) (frzM (lstM (retM [])))) (retS (dataM (retM (.d .none)))) (retM .nx))
    (seqM (setM 3 (biM sortD (consM (frzM (sliceM (varM 0) (partS (frzM (bin2 ixD (varM 2) (frzM (un1 negD (retM (.d (.int 1)))))))) (partS (varM 1)))) (retM []))))
    (retS (dataM (lenM (frzM (lcM (rg1 (consM (lenM (varM 3)) (retM []))) (.one 4) t__law_depth_2 (varM 4)))))))))
def F__law_depth : Fn := bodyF 5 f__law_depth
def l_LOSING : List Int := [1, 2, 3, 4, 1, 2, 5, 1, 2, 3, 4, 5]
/-! losing_row -/
def f_losing_row : M Fl :=
    (seqM (exprS (callM 1 F_look_rule (consM (varM 0) (retM []))))
    (retS (ifM (cmpT inD (varM 0) (retM (.d (.tuple (l_STACKED.map PyData.str))))) (dataM (retM (.d .none))) (retM (.l (l_LOSING.map PyData.int))))))
def F_losing_row : Fn := bodyF 1 f_losing_row
/-! crowd -/
def t_crowd_1 : M Bool :=
    (chainT ltI ltI (frzM (bin2 ixD (varM 3) (retM (.d (.int 0))))) (varM 2) (frzM (bin2 ixD (varM 3) (retM (.d (.int 1))))))
theorem t_crowd_1_ap (ρ : Ev) : t_crowd_1 ρ =
    (chainT ltI ltI (frzM (bin2 ixD (varM 3) (retM (.d (.int 0))))) (varM 2) (frzM (bin2 ixD (varM 3) (retM (.d (.int 1)))))) ρ := rfl
def e_crowd_1 : M Av :=
    (lenM (frzM (lcM (itM (varM 1)) (.one 3) t_crowd_1 (varM 3))))
theorem e_crowd_1_ap (ρ : Ev) : e_crowd_1 ρ =
    (lenM (frzM (lcM (itM (varM 1)) (.one 3) t_crowd_1 (varM 3)))) ρ := rfl
def f_crowd : M Fl :=
    (retS (lcM (rg1 (consM (lenM (varM 0)) (retM []))) (.one 2) (retM true) e_crowd_1))
def F_crowd : Fn := bodyF 4 f_crowd
/-! are_kept -/
def f_are_kept : M Fl :=
    (seqM (exprS (callM 1 F_look_room (consM (varM 0) (retM []))))
    (seqM (setM 3 (callM 1 F_holds (consM (varM 1) (retM []))))
    (seqM (ifM (orM (notM (testM (frzM (biM allD (consM (frzM (lcM (itM (varM 2)) (.one 4) (retM true) (cmpM inD (varM 4) (varM 3)))) (retM [])))))) (cmpT ltI (disM (varM 2)) (lenM (varM 2)))) (retS (dataM (retM (.d (.bool false))))) (retM .nx))
    (retS (dataM (orV (notV (varM 2)) (cmpM ltI (frzM (biM (bestD PySem.W.maxD) (consM (frzM (callM 2 F_crowd (consM (varM 1) (consM (varM 2) (retM []))))) (retM [])))) (varM 0))))))))
def F_are_kept : Fn := bodyF 5 f_are_kept
/-! most_held -/
def b_most_held_1 : M Fl :=
    (ifM (testM (frzM (callM 3 F_are_kept (consM (varM 0) (consM (varM 1) (consM (frzM (bin2 addD (varM 2) (frzM (lstM (consM (varM 3) (retM [])))))) (retM []))))))) (exprS (mutM 2 appD (consM (varM 3) (retM [])))) (retM .nx))
theorem b_most_held_1_ap (ρ : Ev) : b_most_held_1 ρ =
    (ifM (testM (frzM (callM 3 F_are_kept (consM (varM 0) (consM (varM 1) (consM (frzM (bin2 addD (varM 2) (frzM (lstM (consM (varM 3) (retM [])))))) (retM []))))))) (exprS (mutM 2 appD (consM (varM 3) (retM [])))) (retM .nx)) ρ := rfl
def f_most_held : M Fl :=
    (seqM (exprS (callM 1 F_look_room (consM (varM 0) (retM []))))
    (seqM (setM 2 (lstM (retM [])))
    (seqM (forM (itM (frzM (sortKM (frzM (callM 1 F_holds (consM (varM 1) (retM []))))))) (.one 3) b_most_held_1)
    (retS (biM sortD (consM (varM 2) (retM [])))))))
def F_most_held : Fn := bodyF 4 f_most_held
/-! least -/
def f_least : M Fl :=
    (retS (callM 3 F_misses (consM (retM (.d (.str "far"))) (consM (varM 0) (consM (varM 1) (retM []))))))
def F_least : Fn := bodyF 2 f_least
/-! plan -/
def f_plan : M Fl :=
    (retS (callM 3 F_gone (consM (retM (.d (.str "far"))) (consM (varM 0) (consM (varM 1) (retM []))))))
def F_plan : Fn := bodyF 2 f_plan
/-! followed -/
def t_followed_1 : M Bool :=
    (cmpT neD (varM 8) (frzM (bin2 ixD (varM 2) (varM 5))))
theorem t_followed_1_ap (ρ : Ev) : t_followed_1 ρ =
    (cmpT neD (varM 8) (frzM (bin2 ixD (varM 2) (varM 5)))) ρ := rfl
def b_followed_1 : M Fl :=
    (seqM (setM 6 (dataM (cmpM inD (frzM (bin2 ixD (varM 1) (varM 5))) (varM 3))))
    (seqM (setM 7 (dataM (andV (notV (varM 6)) (andV (cmpM gtI (varM 0) (retM (.d (.int 0)))) (cmpM eqD (lenM (varM 3)) (varM 0))))))
    (seqM (ifM (orM (cmpT neD (varM 7) (isN true (frzM (bin2 ixD (varM 2) (varM 5))))) (andM (testM (varM 7)) (cmpT ninD (frzM (bin2 ixD (varM 2) (varM 5))) (varM 3)))) (raiseM 3) (retM .nx))
    (seqM (withS 3 (setM 3 (lcM (itM (varM 3)) (.one 8) t_followed_1 (varM 8))))
    (seqM (ifM (andM (notM (testM (varM 6))) (cmpT gtI (varM 0) (retM (.d (.int 0))))) (exprS (mutM 3 appD (consM (frzM (bin2 ixD (varM 1) (varM 5))) (retM [])))) (retM .nx))
    (exprS (mutM 4 appD (consM (varM 6) (retM [])))))))))
theorem b_followed_1_ap (ρ : Ev) : b_followed_1 ρ =
    (seqM (setM 6 (dataM (cmpM inD (frzM (bin2 ixD (varM 1) (varM 5))) (varM 3))))
    (seqM (setM 7 (dataM (andV (notV (varM 6)) (andV (cmpM gtI (varM 0) (retM (.d (.int 0)))) (cmpM eqD (lenM (varM 3)) (varM 0))))))
    (seqM (ifM (orM (cmpT neD (varM 7) (isN true (frzM (bin2 ixD (varM 2) (varM 5))))) (andM (testM (varM 7)) (cmpT ninD (frzM (bin2 ixD (varM 2) (varM 5))) (varM 3)))) (raiseM 3) (retM .nx))
    (seqM (withS 3 (setM 3 (lcM (itM (varM 3)) (.one 8) t_followed_1 (varM 8))))
    (seqM (ifM (andM (notM (testM (varM 6))) (cmpT gtI (varM 0) (retM (.d (.int 0))))) (exprS (mutM 3 appD (consM (frzM (bin2 ixD (varM 1) (varM 5))) (retM [])))) (retM .nx))
    (exprS (mutM 4 appD (consM (varM 6) (retM []))))))))) ρ := rfl
def f_followed : M Fl :=
    (seqM (exprS (callM 1 F_look_room (consM (varM 0) (retM []))))
    (seqM (exprS (callM 1 F_look_row (consM (varM 1) (retM []))))
    (seqM (ifM (cmpT neD (lenM (varM 2)) (lenM (varM 1))) (raiseM 3) (retM .nx))
    (seqM (setM 3 (lstM (retM [])))
    (seqM (setM 4 (lstM (retM [])))
    (seqM (forM (rg1 (consM (lenM (varM 1)) (retM []))) (.one 5) b_followed_1)
    (retO 4)))))))
def F_followed : Fn := bodyF 9 f_followed
/-! is_plan -/
def f_is_plan : M Fl :=
    (seqM (setM 3 (dataM (retM (.d (.bool true)))))
    (seqM (tryQ [0, 1, 3] g_BadPlan (setM 3 (dataM (retM (.d (.bool false))))) (exprS (callM 3 F_followed (consM (varM 0) (consM (varM 1) (consM (varM 2) (retM [])))))))
    (retO 3)))
def F_is_plan : Fn := bodyF 4 f_is_plan
/-! cost -/
def f_cost : M Fl :=
    (retS (dataM (meM (lookD countD) (frzM (callM 3 F_followed (consM (varM 0) (consM (varM 1) (consM (varM 2) (retM [])))))) (consM (retM (.d (.bool false))) (retM [])))))
def F_cost : Fn := bodyF 3 f_cost
/-! held -/
def t_held_1 : M Bool :=
    (testM (frzM (bin2 ixD (varM 3) (frzM (bin2 ixD (varM 4) (retM (.d (.int 1))))))))
theorem t_held_1_ap (ρ : Ev) : t_held_1 ρ =
    (testM (frzM (bin2 ixD (varM 3) (frzM (bin2 ixD (varM 4) (retM (.d (.int 1)))))))) ρ := rfl
def f_held : M Fl :=
    (seqM (setM 3 (callM 3 F_followed (consM (varM 0) (consM (varM 1) (consM (varM 2) (retM []))))))
    (retS (lcM (itM (frzM (callM 1 F_holds (consM (varM 1) (retM []))))) (.one 4) t_held_1 (varM 4))))
def F_held : Fn := bodyF 5 f_held
/-! is_held -/
def e_is_held_1 : M Av :=
    (andV (cmpM eqD (frzM (bin2 ixD (varM 0) (frzM (bin2 ixD (varM 4) (retM (.d (.int 0))))))) (varM 3)) (chainM ltI ltI (frzM (bin2 ixD (varM 4) (retM (.d (.int 0))))) (varM 2) (frzM (bin2 ixD (varM 4) (retM (.d (.int 1)))))))
theorem e_is_held_1_ap (ρ : Ev) : e_is_held_1 ρ =
    (andV (cmpM eqD (frzM (bin2 ixD (varM 0) (frzM (bin2 ixD (varM 4) (retM (.d (.int 0))))))) (varM 3)) (chainM ltI ltI (frzM (bin2 ixD (varM 4) (retM (.d (.int 0))))) (varM 2) (frzM (bin2 ixD (varM 4) (retM (.d (.int 1))))))) ρ := rfl
def f_is_held : M Fl :=
    (retS (biM anyD (consM (frzM (lcM (itM (varM 1)) (.one 4) (retM true) e_is_held_1)) (retM []))))
def F_is_held : Fn := bodyF 5 f_is_held
/-! can_be -/
def b_can_be_1 : M Fl :=
    (seqM (ifM (andM (isNT true (varM 2)) (notM (chainT leI leI (retM (.d (.int 1))) (varM 2) (varM 1)))) (retS (dataM (retM (.d (.bool false))))) (retM .nx))
    (setM 1 (bin2 addD (varM 1) (frzM (biM intD (consM (isN false (varM 2)) (retM [])))))))
theorem b_can_be_1_ap (ρ : Ev) : b_can_be_1 ρ =
    (seqM (ifM (andM (isNT true (varM 2)) (notM (chainT leI leI (retM (.d (.int 1))) (varM 2) (varM 1)))) (retS (dataM (retM (.d (.bool false))))) (retM .nx))
    (setM 1 (bin2 addD (varM 1) (frzM (biM intD (consM (isN false (varM 2)) (retM []))))))) ρ := rfl
def f_can_be : M Fl :=
    (seqM (ifM (cmpT gtI (lenM (varM 0)) (retM (.d (.int 24)))) (retS (dataM (retM (.d (.bool false))))) (retM .nx))
    (seqM (setM 1 (dataM (retM (.d (.int 0)))))
    (seqM (forM (itM (varM 0)) (.one 2) b_can_be_1)
    (retS (dataM (cmpM leI (varM 1) (frzM (bin2 addD (retM (.d (.int 19))) (retM (.d (.int 1)))))))))))
def F_can_be : Fn := bodyF 3 f_can_be
/-! row_of -/
def b_row_of_1 : M Fl :=
    (seqM (setM 5 (dataM (varM 3)))
    (seqM (ifM (isNT false (varM 4)) (setM 3 (bin2 addD (varM 3) (retM (.d (.int 1))))) (setM 5 (mutM 1 popAtD (consM (frzM (bin2 subD (varM 4) (retM (.d (.int 1))))) (retM [])))))
    (seqM (exprS (mutM 1 insD (consM (retM (.d (.int 0))) (consM (varM 5) (retM [])))))
    (exprS (mutM 2 appD (consM (varM 5) (retM [])))))))
theorem b_row_of_1_ap (ρ : Ev) : b_row_of_1 ρ =
    (seqM (setM 5 (dataM (varM 3)))
    (seqM (ifM (isNT false (varM 4)) (setM 3 (bin2 addD (varM 3) (retM (.d (.int 1))))) (setM 5 (mutM 1 popAtD (consM (frzM (bin2 subD (varM 4) (retM (.d (.int 1))))) (retM [])))))
    (seqM (exprS (mutM 1 insD (consM (retM (.d (.int 0))) (consM (varM 5) (retM [])))))
    (exprS (mutM 2 appD (consM (varM 5) (retM []))))))) ρ := rfl
def f_row_of : M Fl :=
    (seqM (ifM (notM (testM (frzM (callM 1 F_can_be (consM (varM 0) (retM [])))))) (raiseM 4) (retM .nx))
    (seqM (setM 1 (lstM (retM [])))
    (seqM (setM 2 (lstM (retM [])))
    (seqM (setM 3 (dataM (retM (.d (.int 0)))))
    (seqM (forM (itM (varM 0)) (.one 4) b_row_of_1)
    (retO 2))))))
def F_row_of : Fn := bodyF 6 f_row_of
/-! can_count -/
def e_can_count_1 : M Av :=
    (andV (cmpM gtI (frzM (bin2 ixD (varM 0) (varM 1))) (retM (.d (.int 0)))) (cmpM gtI (varM 1) (frzM (bin2 ixD (varM 0) (retM (.d (.int 0)))))))
theorem e_can_count_1_ap (ρ : Ev) : e_can_count_1 ρ =
    (andV (cmpM gtI (frzM (bin2 ixD (varM 0) (varM 1))) (retM (.d (.int 0)))) (cmpM gtI (varM 1) (frzM (bin2 ixD (varM 0) (retM (.d (.int 0))))))) ρ := rfl
def f_can_count : M Fl :=
    (seqM (ifM (orM (notM (testM (varM 0))) (orM (cmpT ltI (frzM (biM (bestD PySem.W.minD) (consM (varM 0) (retM [])))) (retM (.d (.int 0)))) (orM (cmpT gtI (frzM (biM sumD (consM (varM 0) (retM [])))) (retM (.d (.int 24)))) (cmpT gtI (frzM (bin2 ixD (varM 0) (retM (.d (.int 0))))) (frzM (bin2 addD (retM (.d (.int 19))) (retM (.d (.int 1))))))))) (retS (dataM (retM (.d (.bool false))))) (retM .nx))
    (retS (dataM (notV (frzM (biM anyD (consM (frzM (lcM (rg2 (consM (retM (.d (.int 1))) (consM (lenM (varM 0)) (retM [])))) (.one 1) (retM true) e_can_count_1)) (retM []))))))))
def F_can_count : Fn := bodyF 2 f_can_count
/-! row_with -/
def b_row_with_1 : M Fl :=
    (exprS (mutM 1 extD (consM (frzM (bin2 mulD (frzM (lstM (consM (varM 2) (retM [])))) (frzM (bin2 ixD (varM 0) (varM 2))))) (retM []))))
theorem b_row_with_1_ap (ρ : Ev) : b_row_with_1 ρ =
    (exprS (mutM 1 extD (consM (frzM (bin2 mulD (frzM (lstM (consM (varM 2) (retM [])))) (frzM (bin2 ixD (varM 0) (varM 2))))) (retM [])))) ρ := rfl
def f_row_with : M Fl :=
    (seqM (ifM (notM (testM (frzM (callM 1 F_can_count (consM (varM 0) (retM [])))))) (raiseM 4) (retM .nx))
    (seqM (setM 1 (bin2 mulD (frzM (lstM (consM (retM (.d .none)) (retM [])))) (frzM (bin2 ixD (varM 0) (retM (.d (.int 0)))))))
    (seqM (forM (rg3 (consM (frzM (bin2 subD (lenM (varM 0)) (retM (.d (.int 1))))) (consM (retM (.d (.int 0))) (consM (frzM (un1 negD (retM (.d (.int 1))))) (retM []))))) (.one 2) b_row_with_1)
    (withS 1 (retS (callM 1 F_row_of (consM (varM 1) (retM []))))))))
def F_row_with : Fn := bodyF 3 f_row_with
/-! how_many -/
def e_how_many_1 : M Av :=
    (frzM (bin2 addD (frzM (bin2 mulD (frzM (bin2 ixD (varM 2) (varM 4))) (varM 4))) (ifM (cmpT gtI (varM 4) (retM (.d (.int 0)))) (frzM (bin2 ixD (varM 2) (frzM (bin2 subD (varM 4) (retM (.d (.int 1))))))) (retM (.d (.int 0))))))
theorem e_how_many_1_ap (ρ : Ev) : e_how_many_1 ρ =
    (frzM (bin2 addD (frzM (bin2 mulD (frzM (bin2 ixD (varM 2) (varM 4))) (varM 4))) (ifM (cmpT gtI (varM 4) (retM (.d (.int 0)))) (frzM (bin2 ixD (varM 2) (frzM (bin2 subD (varM 4) (retM (.d (.int 1))))))) (retM (.d (.int 0)))))) ρ := rfl
def b_how_many_1 : M Fl :=
    (setM 2 (lcM (rg1 (consM (frzM (bin2 addD (varM 0) (retM (.d (.int 1))))) (retM []))) (.one 4) (retM true) e_how_many_1))
theorem b_how_many_1_ap (ρ : Ev) : b_how_many_1 ρ =
    (setM 2 (lcM (rg1 (consM (frzM (bin2 addD (varM 0) (retM (.d (.int 1))))) (retM []))) (.one 4) (retM true) e_how_many_1)) ρ := rfl
def f_how_many : M Fl :=
    (seqM (ifM (orM (notM (chainT leI leI (retM (.d (.int 0))) (varM 1) (retM (.d (.int 24))))) (notM (chainT leI leI (retM (.d (.int 0))) (varM 0) (frzM (biM (two2 fun i j => if j < i then j else i) (consM (varM 1) (consM (frzM (bin2 addD (retM (.d (.int 19))) (retM (.d (.int 1))))) (retM [])))))))) (raiseM 4) (retM .nx))
    (seqM (setM 2 (bin2 addD (frzM (lstM (consM (retM (.d (.int 1))) (retM [])))) (frzM (bin2 mulD (frzM (lstM (consM (retM (.d (.int 0))) (retM [])))) (varM 0)))))
    (seqM (forM (rg1 (consM (varM 1) (retM []))) (.one 3) b_how_many_1)
    (retS (bin2 ixD (varM 2) (varM 0))))))
def F_how_many : Fn := bodyF 5 f_how_many
/-! woven -/
def b_woven_1 : M Fl :=
    (exprS (mutM 4 appD (consM (frzM (bin2 ixD (frzM (bin2 ixD (varM 3) (varM 5))) (meM (lookD countD) (frzM (sliceM (varM 2) partN (partS (lenM (varM 4))))) (consM (varM 5) (retM []))))) (retM []))))
theorem b_woven_1_ap (ρ : Ev) : b_woven_1 ρ =
    (exprS (mutM 4 appD (consM (frzM (bin2 ixD (frzM (bin2 ixD (varM 3) (varM 5))) (meM (lookD countD) (frzM (sliceM (varM 2) partN (partS (lenM (varM 4))))) (consM (varM 5) (retM []))))) (retM [])))) ρ := rfl
def f_woven : M Fl :=
    (seqM (setM 3 (lstM (consM (frzM (callM 1 F_apart (consM (varM 0) (retM [])))) (consM (frzM (callM 1 F_apart (consM (varM 1) (retM [])))) (retM [])))))
    (seqM (ifM (cmpT neD (frzM (biM sortD (consM (varM 2) (retM [])))) (frzM (bin2 addD (frzM (bin2 mulD (frzM (lstM (consM (retM (.d (.int 0))) (retM [])))) (lenM (varM 0)))) (frzM (bin2 mulD (frzM (lstM (consM (retM (.d (.int 1))) (retM [])))) (lenM (varM 1))))))) (raiseM 5) (retM .nx))
    (seqM (setIt 3 (frzM (biM listD (consM (varM 0) (retM [])))) (retM (.d (.int 0))))
    (seqM (setM 4 (lstM (retM [])))
    (seqM (forM (itM (varM 2)) (.one 5) b_woven_1)
    (seqM (withS 4 (exprS (callM 1 F_look_row (consM (varM 4) (retM [])))))
    (retO 4)))))))
def F_woven : Fn := bodyF 6 f_woven
/-! shared -/
def f_shared : M Fl :=
    (seqM (exprS (callM 1 F_look_room (consM (varM 3) (retM []))))
    (retS (bin2 ixD (frzM (callM 2 F_curve (consM (retM (.d (.str "last"))) (consM (frzM (callM 3 F_woven (consM (varM 0) (consM (varM 1) (consM (varM 2) (retM [])))))) (retM []))))) (varM 3))))
def F_shared : Fn := bodyF 4 f_shared
/-! parted -/
def f_parted : M Fl :=
    (seqM (exprS (callM 1 F_look_room (consM (varM 2) (retM []))))
    (seqM (exprS (callM 1 F_look_room (consM (varM 3) (retM []))))
    (retS (bin2 addD (frzM (bin2 ixD (frzM (callM 2 F_curve (consM (retM (.d (.str "last"))) (consM (varM 0) (retM []))))) (varM 2))) (frzM (bin2 ixD (frzM (callM 2 F_curve (consM (retM (.d (.str "last"))) (consM (varM 1) (retM []))))) (varM 3)))))))
def F_parted : Fn := bodyF 4 f_parted
/-! best_parting -/
def e_best_parting_1 : M Av :=
    (tupM (consM (frzM (callM 4 F_parted (consM (varM 0) (consM (varM 1) (consM (varM 5) (consM (frzM (bin2 subD (varM 2) (varM 5))) (retM []))))))) (consM (varM 5) (retM []))))
theorem e_best_parting_1_ap (ρ : Ev) : e_best_parting_1 ρ =
    (tupM (consM (frzM (callM 4 F_parted (consM (varM 0) (consM (varM 1) (consM (varM 5) (consM (frzM (bin2 subD (varM 2) (varM 5))) (retM []))))))) (consM (varM 5) (retM [])))) ρ := rfl
def f_best_parting : M Fl :=
    (seqM (exprS (callM 1 F_look_room (consM (varM 2) (retM []))))
    (seqM (setM 3 (lcM (rg1 (consM (frzM (bin2 addD (varM 2) (retM (.d (.int 1))))) (retM []))) (.one 5) (retM true) e_best_parting_1))
    (seqM (asgM (frzM (biM (bestD PySem.W.minD) (consM (varM 3) (retM [])))) (.tup [4, 5]))
    (retS (dataM (tupM (consM (varM 5) (consM (varM 4) (retM [])))))))))
def F_best_parting : Fn := bodyF 6 f_best_parting
/-! best_of_many -/
def e_best_of_many_1 : M Av :=
    (frzM (bin2 ixD (varM 2) (frzM (bin2 subD (varM 6) (varM 8)))))
theorem e_best_of_many_1_ap (ρ : Ev) : e_best_of_many_1 ρ =
    (frzM (bin2 ixD (varM 2) (frzM (bin2 subD (varM 6) (varM 8))))) ρ := rfl
def e_best_of_many_2 : M Av :=
    (tupM (consM (frzM (bin2 addD (frzM (bin2 ixD (frzM (bin2 ixD (varM 7) (varM 8))) (retM (.d (.int 0))))) (frzM (bin2 ixD (varM 4) (varM 8))))) (consM (frzM (bin2 addD (frzM (bin2 ixD (frzM (bin2 ixD (varM 7) (varM 8))) (retM (.d (.int 1))))) (frzM (lstM (consM (varM 8) (retM [])))))) (retM []))))
theorem e_best_of_many_2_ap (ρ : Ev) : e_best_of_many_2 ρ =
    (tupM (consM (frzM (bin2 addD (frzM (bin2 ixD (frzM (bin2 ixD (varM 7) (varM 8))) (retM (.d (.int 0))))) (frzM (bin2 ixD (varM 4) (varM 8))))) (consM (frzM (bin2 addD (frzM (bin2 ixD (frzM (bin2 ixD (varM 7) (varM 8))) (retM (.d (.int 1))))) (frzM (lstM (consM (varM 8) (retM [])))))) (retM [])))) ρ := rfl
def b_best_of_many_1 : M Fl :=
    (seqM (setM 7 (lcM (rg1 (consM (frzM (bin2 addD (varM 6) (retM (.d (.int 1))))) (retM []))) (.one 8) (retM true) e_best_of_many_1))
    (exprS (mutM 5 appD (consM (frzM (biM (bestD PySem.W.minD) (consM (frzM (lcM (rg1 (consM (frzM (bin2 addD (varM 6) (retM (.d (.int 1))))) (retM []))) (.one 8) (retM true) e_best_of_many_2)) (retM [])))) (retM [])))))
theorem b_best_of_many_1_ap (ρ : Ev) : b_best_of_many_1 ρ =
    (seqM (setM 7 (lcM (rg1 (consM (frzM (bin2 addD (varM 6) (retM (.d (.int 1))))) (retM []))) (.one 8) (retM true) e_best_of_many_1))
    (exprS (mutM 5 appD (consM (frzM (biM (bestD PySem.W.minD) (consM (frzM (lcM (rg1 (consM (frzM (bin2 addD (varM 6) (retM (.d (.int 1))))) (retM []))) (.one 8) (retM true) e_best_of_many_2)) (retM [])))) (retM []))))) ρ := rfl
def b_best_of_many_2 : M Fl :=
    (seqM (setM 4 (callM 2 F_curve (consM (retM (.d (.str "last"))) (consM (varM 3) (retM [])))))
    (seqM (setM 5 (lstM (retM [])))
    (seqM (forM (rg1 (consM (frzM (bin2 addD (varM 1) (retM (.d (.int 1))))) (retM []))) (.one 6) b_best_of_many_1)
    (withS 5 (setM 2 (dataM (varM 5)))))))
theorem b_best_of_many_2_ap (ρ : Ev) : b_best_of_many_2 ρ =
    (seqM (setM 4 (callM 2 F_curve (consM (retM (.d (.str "last"))) (consM (varM 3) (retM [])))))
    (seqM (setM 5 (lstM (retM [])))
    (seqM (forM (rg1 (consM (frzM (bin2 addD (varM 1) (retM (.d (.int 1))))) (retM []))) (.one 6) b_best_of_many_1)
    (withS 5 (setM 2 (dataM (varM 5))))))) ρ := rfl
def f_best_of_many : M Fl :=
    (seqM (exprS (callM 1 F_look_room (consM (varM 1) (retM []))))
    (seqM (setM 2 (bin2 mulD (frzM (lstM (consM (tupM (consM (retM (.d (.int 0))) (consM (frzM (lstM (retM []))) (retM [])))) (retM [])))) (frzM (bin2 addD (varM 1) (retM (.d (.int 1)))))))
    (seqM (forM (itM (varM 0)) (.one 3) b_best_of_many_2)
    (retS (dataM (tupM (consM (frzM (bin2 ixD (frzM (bin2 ixD (varM 2) (varM 1))) (retM (.d (.int 1))))) (consM (frzM (bin2 ixD (frzM (bin2 ixD (varM 2) (varM 1))) (retM (.d (.int 0))))) (retM [])))))))))
def F_best_of_many : Fn := bodyF 9 f_best_of_many
/-! levels -/
def b_levels_1 : M Fl :=
    (seqM (exprS (mutM 5 appD (consM (ifM (cmpT inD (varM 6) (varM 3)) (retM (.d (.str "near"))) (ifM (cmpT inD (varM 6) (varM 4)) (retM (.d (.str "far"))) (retM (.d (.str "none"))))) (retM []))))
    (seqM (withS 3 (setM 3 (bin2 addD (frzM (lstM (consM (varM 6) (retM [])))) (frzM (lcM (itM (varM 3)) (.one 7) (cmpT neD (varM 7) (varM 6)) (varM 7))))))
    (seqM (withS 4 (setM 4 (bin2 addD (frzM (sliceM (varM 3) (partS (varM 0)) partN)) (frzM (lcM (itM (varM 4)) (.one 7) (cmpT neD (varM 7) (varM 6)) (varM 7))))))
    (seqM (setM 3 (sliceM (varM 3) partN (partS (varM 0))))
    (setM 4 (sliceM (varM 4) partN (partS (varM 1))))))))
theorem b_levels_1_ap (ρ : Ev) : b_levels_1 ρ =
    (seqM (exprS (mutM 5 appD (consM (ifM (cmpT inD (varM 6) (varM 3)) (retM (.d (.str "near"))) (ifM (cmpT inD (varM 6) (varM 4)) (retM (.d (.str "far"))) (retM (.d (.str "none"))))) (retM []))))
    (seqM (withS 3 (setM 3 (bin2 addD (frzM (lstM (consM (varM 6) (retM [])))) (frzM (lcM (itM (varM 3)) (.one 7) (cmpT neD (varM 7) (varM 6)) (varM 7))))))
    (seqM (withS 4 (setM 4 (bin2 addD (frzM (sliceM (varM 3) (partS (varM 0)) partN)) (frzM (lcM (itM (varM 4)) (.one 7) (cmpT neD (varM 7) (varM 6)) (varM 7))))))
    (seqM (setM 3 (sliceM (varM 3) partN (partS (varM 0))))
    (setM 4 (sliceM (varM 4) partN (partS (varM 1)))))))) ρ := rfl
def f_levels : M Fl :=
    (seqM (exprS (callM 1 F_look_room (consM (varM 0) (retM []))))
    (seqM (exprS (callM 1 F_look_room (consM (varM 1) (retM []))))
    (seqM (exprS (callM 1 F_look_row (consM (varM 2) (retM []))))
    (seqM (setM 3 (lstM (retM [])))
    (seqM (setM 4 (lstM (retM [])))
    (seqM (setM 5 (lstM (retM [])))
    (seqM (forM (itM (varM 2)) (.one 6) b_levels_1)
    (retO 5))))))))
def F_levels : Fn := bodyF 8 f_levels
/-! filtered -/
def t_filtered_1 : M Bool :=
    (notM (testM (frzM (bin2 ixD (varM 2) (varM 3)))))
theorem t_filtered_1_ap (ρ : Ev) : t_filtered_1 ρ =
    (notM (testM (frzM (bin2 ixD (varM 2) (varM 3))))) ρ := rfl
def f_filtered : M Fl :=
    (seqM (setM 2 (callM 3 F_run (consM (retM (.d (.str "last"))) (consM (varM 0) (consM (varM 1) (retM []))))))
    (retS (lcM (rg1 (consM (lenM (varM 1)) (retM []))) (.one 3) t_filtered_1 (frzM (bin2 ixD (varM 1) (varM 3))))))
def F_filtered : Fn := bodyF 4 f_filtered
/-! below -/
def b_below_1 : M Fl :=
    (seqM (setM 7 (dataM (meM (lookD countD) (frzM (sliceM (varM 3) partN (partS (varM 6)))) (consM (retM (.d (.bool false))) (retM [])))))
    (exprS (mutM 5 appD (consM (ifM (testM (frzM (bin2 ixD (varM 3) (varM 6)))) (retM (.d (.str "near"))) (ifM (testM (frzM (bin2 ixD (varM 4) (varM 7)))) (retM (.d (.str "far"))) (retM (.d (.str "none"))))) (retM [])))))
theorem b_below_1_ap (ρ : Ev) : b_below_1 ρ =
    (seqM (setM 7 (dataM (meM (lookD countD) (frzM (sliceM (varM 3) partN (partS (varM 6)))) (consM (retM (.d (.bool false))) (retM [])))))
    (exprS (mutM 5 appD (consM (ifM (testM (frzM (bin2 ixD (varM 3) (varM 6)))) (retM (.d (.str "near"))) (ifM (testM (frzM (bin2 ixD (varM 4) (varM 7)))) (retM (.d (.str "far"))) (retM (.d (.str "none"))))) (retM []))))) ρ := rfl
def f_below : M Fl :=
    (seqM (exprS (callM 1 F_look_room (consM (varM 0) (retM []))))
    (seqM (exprS (callM 1 F_look_room (consM (varM 1) (retM []))))
    (seqM (exprS (callM 1 F_look_row (consM (varM 2) (retM []))))
    (seqM (setM 3 (callM 3 F_run (consM (retM (.d (.str "last"))) (consM (varM 0) (consM (varM 2) (retM []))))))
    (seqM (setM 4 (callM 3 F_run (consM (retM (.d (.str "last"))) (consM (varM 1) (consM (frzM (callM 2 F_filtered (consM (varM 0) (consM (varM 2) (retM []))))) (retM []))))))
    (seqM (setM 5 (lstM (retM [])))
    (seqM (forM (rg1 (consM (lenM (varM 2)) (retM []))) (.one 6) b_below_1)
    (retO 5))))))))
def F_below : Fn := bodyF 8 f_below
/-! plan_of -/
def t_plan_of_1 : M Bool :=
    (notM (testM (frzM (callM 4 F_is_held (consM (varM 1) (consM (varM 2) (consM (varM 5) (consM (varM 8) (retM [])))))))))
theorem t_plan_of_1_ap (ρ : Ev) : t_plan_of_1 ρ =
    (notM (testM (frzM (callM 4 F_is_held (consM (varM 1) (consM (varM 2) (consM (varM 5) (consM (varM 8) (retM []))))))))) ρ := rfl
def b_plan_of_1 : M Fl :=
    (seqM (setM 6 (dataM (retM (.d .none))))
    (seqM (ifM (andM (cmpT ninD (frzM (bin2 ixD (varM 1) (varM 5))) (varM 3)) (cmpT gtI (varM 0) (retM (.d (.int 0))))) (seqM (ifM (cmpT eqD (lenM (varM 3)) (varM 0)) (seqM (setThaw 7 3 (lcM (itM (varM 3)) (.one 8) t_plan_of_1 (varM 8)))
    (seqM (setM 6 (bin2 ixD (varM 7) (retM (.d (.int 0)))))
    (exprS (mutM 3 remD (consM (varM 6) (retM [])))))) (retM .nx))
    (exprS (mutM 3 appD (consM (frzM (bin2 ixD (varM 1) (varM 5))) (retM []))))) (retM .nx))
    (exprS (mutM 4 appD (consM (varM 6) (retM []))))))
theorem b_plan_of_1_ap (ρ : Ev) : b_plan_of_1 ρ =
    (seqM (setM 6 (dataM (retM (.d .none))))
    (seqM (ifM (andM (cmpT ninD (frzM (bin2 ixD (varM 1) (varM 5))) (varM 3)) (cmpT gtI (varM 0) (retM (.d (.int 0))))) (seqM (ifM (cmpT eqD (lenM (varM 3)) (varM 0)) (seqM (setThaw 7 3 (lcM (itM (varM 3)) (.one 8) t_plan_of_1 (varM 8)))
    (seqM (setM 6 (bin2 ixD (varM 7) (retM (.d (.int 0)))))
    (exprS (mutM 3 remD (consM (varM 6) (retM [])))))) (retM .nx))
    (exprS (mutM 3 appD (consM (frzM (bin2 ixD (varM 1) (varM 5))) (retM []))))) (retM .nx))
    (exprS (mutM 4 appD (consM (varM 6) (retM [])))))) ρ := rfl
def f_plan_of : M Fl :=
    (seqM (ifM (notM (testM (frzM (callM 3 F_are_kept (consM (varM 0) (consM (varM 1) (consM (varM 2) (retM [])))))))) (raiseM 3) (retM .nx))
    (seqM (setM 3 (lstM (retM [])))
    (seqM (setM 4 (lstM (retM [])))
    (seqM (forM (rg1 (consM (lenM (varM 1)) (retM []))) (.one 5) b_plan_of_1)
    (retO 4)))))
def F_plan_of : Fn := bodyF 9 f_plan_of
end
end G8
namespace L2
open PySem PySem.Spec PyProof.Rows
/-! a comprehension whose items may raise -/
/-- a frame notes an exception, whatever the mark of its traceback -/
theorem note_any {M : Model} {A : Around} {E : Value → Shared → Prop} {s : Shared} {base : Heap} {env : Env} {outer : List Env} {a L : Addr} {Z : Obj → Prop} {fl : Value} {Q : Unit → Shared → Prop} (hZ : HandSPX.Steady Z)
    (fr : A.frames = some (env :: outer)) (hf : env.frame = some L) (k : base.StaysIn s.heap) (n : base.get? a = none) (l : s.heap.FunFrames base (env :: outer)) (t : HandSPX.TracedZ s.heap base a Z fl)
    (hQ : ∀ h', HandSPX.HeldZ base (env :: outer) a Z L h' → s.heap.UpToSlots h' → Q () { s with heap := h' }) : wpAny M A (noteFrame (.ref a) env) Q E s := by
  by_cases hm : fl = rawInt L
  · subst hm
    exact HandSPX.againZ hf t (hQ s.heap ⟨k, n, l, t⟩ (Heap.UpToSlots.refl _))
  obtain ⟨x, xs, R, r, rs, e1, e2, e3, e4, e5, e6, e7, e8, e9⟩ := t
  have off : ∀ c, c ≠ R → (s.heap.update R (Obj.mapFields fun z => z.setIfInBounds 3 Value.none)).get? c = s.heap.get? c := fun c hc => Heap.get?_update_other _ _ (Ne.symm hc)
  have rec_ne : ∀ c u, s.heap.get? c = some u → (∀ zs, u.data ≠ .fields zs) → c ≠ R := fun c u hc hu q => by
    subst q
    rw [e7] at hc
    cases hc
    exact hu rs e8
  unfold noteFrame
  simp only [hf]
  refine wpAny_bind (wpAny_field e1 e3 e4 ?_)
  rw [if_pos (by simp : (Value.ref R != Value.none) = true)]
  refine wpAny_bind (wpAny_field e7 e8 e9 ?_)
  rw [if_neg (by simpa using hm : ¬ (fl == rawInt L) = true)]
  refine wpAny_bind (wpAny_setField e7 e8 (Array.getElem?_eq_some_iff.mp e9).1 ?_)
  have k2 : base.StaysIn (s.heap.update R (Obj.mapFields fun z => z.setIfInBounds 3 Value.none)) := fun c u hc => by
    rw [off c (fun q => by rw [q, e5] at hc; cases hc)]
    exact k c u hc
  have l2 := l.of_keeps (h' := s.heap.update R (Obj.mapFields fun z => z.setIfInBounds 3 Value.none)) fun c u hc hu => ⟨u, by rw [off c (rec_ne c u hc hu)]; exact hc, rfl⟩
  refine HandSPX.wpAny_entryZ hZ fr l2 hf (by rw [off a (Ne.symm e6)]; exact e1) k2 n e3 (Array.getElem?_eq_some_iff.mp e4).1 e2 fun h' z => ?_
  exact hQ h' ⟨z.1, n, z.2.1, z.2.2.1⟩ fun c u hc hu => z.2.2.2 c u (by rw [off c (rec_ne c u hc hu)]; exact hc) hu
/-- what is behind a block: its env told where it raised -/
def CEnd (M : Model) (A : Around) (E : Value → Shared → Prop) (use : Option (Value → Sem Unit)) (Q : Value → Shared → Prop) (acc : Value) (ce : Env) (r : Result) (s' : Shared) : Prop :=
  match r with
  | .ok f => compPost M A E use Q acc ce.locals (.ok f) s'
  | .error x => ∃ m, s'.heap.Ns ce.locals m ∧ ∀ h', Heap.SameBut ce.locals s'.heap h' → wpAny M A (passOn "comprehension.variables-let-go" x ce : Sem Value) (fun _ _ => False) E { s' with heap := h' }
theorem comp_run {M : Model} {A : Around} {E : Value → Shared → Prop} {s : Shared} {env : Env} {e : Expr} {scope : Scope} {pos : Pos} {mk first : Sem Value} {g : Comprehension} {gs : List Comprehension} {cl : List (Str × Addr)} {use : Option (Value → Sem Unit)} {Q : Value → Shared → Prop}
    (c1 : clausesOf e = g :: gs) (c2 : ∀ x, foldedSetIterable g.iter env x = pure x) (c3 : closureFor scope env = pure cl) (c4 : scope.kind = .function) (c5 : ∀ x ∈ scope.names, x.2 = .local → scope.names.lookup x.1 = some .local)
    (h : wpAny M A first (fun x s1 => wpAny M A (pyIter x) (fun it s2 => wpAny M A mk (fun acc s3 => wpAny M A (newFunctionEnv scope env.globals cl [] env.qual none .none (some env))
      (fun ce s4 => codeAny M A (.compStart e 0 it acc { ce with scope := relabel scope env }) (CEnd M A E use Q acc { ce with scope := relabel scope env }) s4) E s3) E s2) E s1) E s) :
    wpAny M A (comprehension e scope env pos mk false first use) Q E s := by
  unfold comprehension
  rw [c3, c1]
  refine wpAny_bind (thn h fun x s1 h1 => ?_)
  refine wpAny_bind (wpAny_standAt ?_)
  refine wpAny_bind (wpAny_of_eq (c2 x) ?_)
  refine wpAny_bind (wpAny_holding (thn h1 fun it s2 h2 => ?_))
  refine wpAny_standIf ?_
  refine wpAny_bind (thn h2 fun acc s3 h3 => ?_)
  refine wpAny_bind (wpAny_pure ?_)
  refine wpAny_bind (thn h3 fun ce s4 h4 => ?_)
  dsimp only
  have lc : ∀ y ∈ scope.names, y.2 = .local → Env.kindOf { ce with scope := relabel scope env } y.1 = some .local := fun y hy hl => lookup_relabel_local (c5 y hy hl)
  have mem1 : ∀ {p : Str × NameKind → Bool} {y : Str × NameKind}, y ∈ (scope.names.filter p).reverse → y ∈ scope.names := fun hy => (List.mem_filter.mp (List.mem_reverse.mp hy)).1
  refine wpAny_holding (wpAny_bind ?_)
  refine wpAny_attempt (wpAny_holding (wpAny_run (codeAny_mono h4 fun r s5 hr => ?_)))
  cases r with
  | error x =>
    obtain ⟨m, hn, hr⟩ := hr
    refine wpAny_bind (wpAny_holding ?_)
    exact wpAny_comp_letGo (cenv := { ce with scope := relabel scope env }) c4 _ s5 m (fun y hy => lc y (mem1 hy)) hn fun h' m' _ sb => wpAny_mono (hr h' sb) (fun _ _ z => z.elim) fun _ _ z => z
  | ok f =>
    cases use with
    | none =>
      obtain ⟨m, hn, hr⟩ := hr
      refine wpAny_bind (wpAny_holding ?_)
      exact wpAny_comp_letGo (cenv := { ce with scope := relabel scope env }) c4 _ s5 m (fun y hy => lc y (mem1 hy)) hn fun h' m' _ sb => wpAny_pure (hr h' sb)
    | some u =>
      refine wpAny_bind (wpAny_rule ?_)
      refine wpAny_bind (wpAny_holding (thn hr fun _ s6 h6 => ?_))
      obtain ⟨m, hn, h6⟩ := h6
      refine wpAny_bind ?_
      refine wpAny_comp_letGo (cenv := { ce with scope := relabel scope env }) c4 _ s6 m (fun y hy => lc y ?_) hn fun h' m' _ sb => wpAny_pure (h6 h' sb)
      rcases List.mem_append.mp hy with z | z
      · exact mem1 (List.mem_of_mem_drop z)
      · exact mem1 (List.mem_of_mem_take z)
theorem frames_off {h h' base : Heap} {c : Addr} : ∀ {l : List Env}, c ∉ frs l → (∀ b v, b ≠ c → h.get? b = some v → h'.get? b = some v) → h.FunFrames base l → h'.FunFrames base l
  | [], _, _, _ => trivial
  | env :: rest, hc, k, ⟨h1, ⟨L, o, h2, h3, h4, h5⟩, h6⟩ => by
    have hL : L ∈ frs (env :: rest) := List.mem_filterMap.mpr ⟨env, List.mem_cons_self .., h2⟩
    refine ⟨h1, ⟨L, o, h2, h3, k L o (fun z => hc (by rw [← z]; exact hL)) h4, h5⟩, frames_off (fun z => hc ?_) k h6⟩
    obtain ⟨e, he, q⟩ := List.mem_filterMap.mp z
    exact List.mem_filterMap.mpr ⟨e, List.mem_cons_of_mem _ he, q⟩
section
variable {X : Cx}
/-- a block's exception, noted and passed on, is in the def's air -/
theorem blk_takes {s3 : Shared} {H3 : Hp} {pins pn : List (Addr × Obj)} {σ : St} {scope : Scope} {cl : List (Str × Addr)} {fp : List Addr} {W : WX} {use : Option (Value → Sem Unit)} {Qf : Value → Shared → Prop} {acc : Value} (hst : X.stack = X.env :: X.outer) (hfm : X.env.frame = some X.env.locals) (tk : Takes X W)
    (I3 : Inv X pins σ H3 s3) (f3 : ∀ b ∈ fp, FpOk X pins H3 b) :
    Takes ((X.blk s3 H3 scope (compEnvC scope cl s3.heap.objs.size X.env) fp).tr pn (notedBy (model X.prog X.w) X.A (compEnvC scope cl s3.heap.objs.size X.env) fun e s' => CEnd (model X.prog X.w) X.A X.xe use Qf acc (compEnvC scope cl s3.heap.objs.size X.env) (.error e) s'))
      (fun cls d _ H' => W cls d σ H') := by
  intro u s' ⟨a, B, sI, pins', σ', H', cls, d, eu, J, nb, up, sky, na, os, ag, w⟩
  subst eu
  have fr : X.A.frames = some (X.env :: X.outer) := by rw [I3.ok.frames, hst]
  have nC : s3.heap.objs.size ∉ frs X.stack := fun z => by
    rcases List.mem_cons.mp (I3.stkSub _ z) with q | q
    · have := I3.lt
      rw [← q] at this
      exact Nat.lt_irrefl _ this
    · exact I3.nofs (Nat.le_refl _) q
  obtain ⟨m, ⟨o, es, ep, g1, g2, g3⟩, _⟩ := J.loc
  have g1 : sI.heap.get? s3.heap.objs.size = some o := g1
  have hC : H' s3.heap.objs.size = none := J.free
  have IX : Inv X pins σ H' sI := I3.call' (ch := fp) J.os J.base J.hok J.bare fun b hb => ⟨(f3 b hb).2.2.2.1, (f3 b hb).2.1, (f3 b hb).2.2.2.2.1, (f3 b hb).2.2.2.2.2⟩
  obtain ⟨q0, q1, q2, q3, q4, q5⟩ := IX.fpOk (H' := H') (b := s3.heap.objs.size) |> fun _ => I3.fpOk (H' := H') (Nat.le_refl _) hC
  have goB : B.get? s3.heap.objs.size = some o := nb _ _ g1 nC
  have fin : ∀ h1, HandSPX.HeldZ B (X.env :: X.outer) a (Zc cls d) X.env.locals h1 → s'.heap.UpToSlots h1 → CEnd (model X.prog X.w) X.A X.xe use Qf acc (compEnvC scope cl s3.heap.objs.size X.env) (.error (.ref a)) { s' with heap := h1 } := by
    intro h1 ⟨k1, k2, k3, x, xs, R, r, rs, e1, e2, e3, e4, e5, e6, e7, e8, e9⟩ up1
    refine ⟨m, ⟨o, es, ep, k1 _ _ goB, g2, g3⟩, fun h2 sb => ?_⟩
    have aC : a ≠ s3.heap.objs.size := fun z => by
      rw [z, goB] at k2
      cases k2
    have RC : R ≠ s3.heap.objs.size := fun z => by
      rw [z, goB] at e5
      cases e5
    have stay : ∀ c v, c ≠ s3.heap.objs.size → h1.get? c = some v → h2.get? c = some v := fun c v hc hv => (sb.2 c hc).trans hv
    have bin : ∀ c v, (PySem.W.hideAll B [s3.heap.objs.size]).get? c = some v → c ≠ s3.heap.objs.size ∧ B.get? c = some v := fun c v hv => by
      refine ⟨fun z => ?_, PySem.W.of_hideAll _ hv⟩
      rw [z, PySem.W.hideAll_none _ (List.mem_singleton.mpr rfl)] at hv
      cases hv
    have S2 : (PySem.W.hideAll B [s3.heap.objs.size]).StaysIn h2 := fun c v hv => stay c v (bin c v hv).1 (k1 c v (bin c v hv).2)
    have hidn : ∀ c, B.get? c = none → (PySem.W.hideAll B [s3.heap.objs.size]).get? c = none := fun c hc => by
      cases q : (PySem.W.hideAll B [s3.heap.objs.size]).get? c with
      | none => rfl
      | some v => rw [(bin c v q).2] at hc; cases hc
    have F2 : h2.FunFrames (PySem.W.hideAll B [s3.heap.objs.size]) (X.env :: X.outer) := by
      refine frames_off (c := s3.heap.objs.size) (fun z => nC (by rw [hst]; exact z)) stay ?_
      exact funFrames_none k3 fun b hb => hidn b (k3.mem hb).1
    unfold PySem.passOn
    refine wpAny_bind (wpAny_field (stay a x aC e1) e3 e4 ?_)
    rw [if_neg (by simp : ¬ (Value.ref R == Value.none) = true)]
    have tz : HandSPX.TracedZ h2 (PySem.W.hideAll B [s3.heap.objs.size]) a (Zc cls d) (rawInt X.env.locals) := ⟨x, xs, R, r, rs, stay a x aC e1, e2, e3, e4, hidn R e5, e6, stay R r RC e7, e8, e9⟩
    have goOn : wpAny (model X.prog X.w) X.A (setFlight (.ref a) (some X.env.locals)) (fun _ s7 => wpAny (model X.prog X.w) X.A (throw (.ref a) : Sem Value) (fun _ _ => False) X.xe s7) X.xe { s' with heap := h2 } := by
      refine HandSPX.setFlight_onZ (base := PySem.W.hideAll B [s3.heap.objs.size]) (l := X.env :: X.outer) (Z := Zc cls d) ⟨S2, hidn a k2, F2, tz⟩ fun h3 hh up3 => wpAny_throw (tk _ _ ?_)
      have IY := IX.turned (it := s3.heap.objs.size) (t' := sI.toks) (h' := PySem.W.hideAll sI.heap [s3.heap.objs.size]) (fun b v hb e => PySem.W.hideAll_get _ e (by simpa using hb)) q0 q1 q3 q4 q5
      refine ⟨a, PySem.W.hideAll B [s3.heap.objs.size], _, pins, σ, H', cls, d, rfl, IY, fun b v e hb => ?_, ?_, .inr (.inr (by rw [hst]; exact hh)), na, os, ag, w⟩
      · have e : (PySem.W.hideAll sI.heap [s3.heap.objs.size]).get? b = some v := e
        have nb' : b ≠ s3.heap.objs.size := fun z => by
          rw [z, PySem.W.hideAll_none _ (List.mem_singleton.mpr rfl)] at e
          cases e
        exact PySem.W.hideAll_get _ (nb b v (PySem.W.of_hideAll _ e) hb) (by simpa using nb')
      · intro b v e hv
        have e : (PySem.W.hideAll sI.heap [s3.heap.objs.size]).get? b = some v := e
        have nb' : b ≠ s3.heap.objs.size := fun z => by
          rw [z, PySem.W.hideAll_none _ (List.mem_singleton.mpr rfl)] at e
          cases e
        obtain ⟨sl, w1⟩ := up b v (PySem.W.of_hideAll _ e) hv
        obtain ⟨sl2, w2⟩ := up1 b _ w1 hv
        obtain ⟨sl3, w3⟩ := up3 b _ (stay b _ nb' w2) hv
        exact ⟨sl3, w3⟩
    have ef : (compEnvC scope cl s3.heap.objs.size X.env).frame = some X.env.locals := hfm
    rw [ef]
    first
      | exact wpAny_bind (wpAny_pure (wpAny_bind goOn))
      | exact wpAny_bind goOn
  show wpAny (model X.prog X.w) X.A (noteFrame (.ref a) X.env) _ _ _
  have sky : Sky B (X.env :: X.outer) a (Zc cls d) s3.heap.objs.size s'.heap := by
    rw [← hst]
    exact sky
  rcases sky with ⟨b1, b2, b3, oe, vs, b4, b5, b6, b7⟩ | b | b
  · exact HandSPX.look_newZ Zc.steady fr b3 hfm b4 b1 b2 b6 b7 b5 fin
  · exact HandSPX.looks_onZ Zc.steady fr hfm b fin
  · exact note_any Zc.steady fr hfm b.1 b.2.1 b.2.2.1 b.2.2.2 fin
/-- the items' rounds -/
theorem blk_rounds {s3 s4 : Shared} {H3 : Hp} {pins : List (Addr × Obj)} {σ : St} {Q : VK} {elt tg iter : Expr} {ifs : List Expr} {scope : Scope} {cl : List (Str × Addr)} {fp : List Addr} {pos : Pos} {vs : List Nat} {D it : Addr} {tn : Nat → Heap → Prop} {J : It} {g : TG} {tt : TT} {te : WX → TE} {W : WX} {use : Option (Value → Sem Unit)} {Qf : Value → Shared → Prop}
    {Wi : Nat → Nat → Hp → Prop} {m0 : Nat} (hst : X.stack = X.env :: X.outer) (hfm : X.env.frame = some X.env.locals) (tk : Takes X W) (calm : X.calm = true) (I3 : Inv X pins σ H3 s3) (f3 : ∀ b ∈ fp, FpOk X pins H3 b) (T : Turn X.prog X.w X.K tg J fp it tn)
    (pg : PG (X.blk s3 H3 scope (compEnvC scope cl s3.heap.objs.size X.env) fp) tg g) (pt : PTs (X.blk s3 H3 scope (compEnvC scope cl s3.heap.objs.size X.env) fp) ifs tt)
    (pe : ∀ (V : WX) (pn : List (Addr × Obj)) (xe : Value → Shared → Prop), Takes ((X.blk s3 H3 scope (compEnvC scope cl s3.heap.objs.size X.env) fp).tr pn xe) V → PE ((X.blk s3 H3 scope (compEnvC scope cl s3.heap.objs.size X.env) fp).tr pn xe) elt (te V))
    (I4 : Inv (X.blk s3 H3 scope (compEnvC scope cl s3.heap.objs.size X.env) fp) [] (wipe σ vs) H3 s4) (t0 : tn 0 s4.heap) (w0 : Wi 0 m0 H3)
    (step : ∀ i m H, Wi i m H → (J.stop i H ∧ Q (.ref D) H) ∨ (J.go i H ∧ ∃ Nx : Hp → Prop, (∀ H', Nx H' → ∃ m', m' < m ∧ Wi (i + 1) m' H') ∧ ∀ x H', J.yld i H x H' → g x (wipe σ vs) H' fun σ2 H2 => wipe σ2 vs = wipe σ vs ∧ tt σ2 H2 fun b H3 =>
      if b = true then te (fun cls d _ H' => W cls d σ H') σ2 H3 fun y H4 => ∃ acc, H4 D = some (.lst acc) ∧ acc.length < sizeLine ∧ Nx (upd H4 D (.lst (acc ++ [y]))) else Nx H3))
    (hR : ∀ s' m H', Inv X pins σ H' s' → Q (.ref D) H' → s'.heap.Ns s3.heap.objs.size m → FpOk X pins H' s3.heap.objs.size → compPost (model X.prog X.w) X.A X.xe use Qf (.ref D) s3.heap.objs.size (.ok .next) s') :
    codeAny (model X.prog X.w) X.A (.compLoop (.ListComp elt [⟨tg, iter, ifs, 0⟩] scope pos) 0 (.ref it) (.ref D) (compEnvC scope cl s3.heap.objs.size X.env)) (CEnd (model X.prog X.w) X.A X.xe use Qf (.ref D) (compEnvC scope cl s3.heap.objs.size X.env)) s4 := by
  have tkY : ∀ pn, Takes ((X.blk s3 H3 scope (compEnvC scope cl s3.heap.objs.size X.env) fp).tr pn (notedBy (model X.prog X.w) X.A (compEnvC scope cl s3.heap.objs.size X.env) fun e s' => CEnd (model X.prog X.w) X.A X.xe use Qf (.ref D) (compEnvC scope cl s3.heap.objs.size X.env) (.error e) s')) (fun cls d _ H' => W cls d σ H') :=
    fun pn => blk_takes hst hfm tk I3 f3
  have loc : (compEnvC scope cl s3.heap.objs.size X.env).locals = s3.heap.objs.size := rfl
  generalize hce : compEnvC scope cl s3.heap.objs.size X.env = ce at *
  have fpY : ∀ {σ' : St} {H' : Hp} {s' : Shared}, Inv (X.blk s3 H3 scope ce fp) [] σ' H' s' → (∀ b ∈ fp, H' b = none) → ∀ b ∈ fp, FpOk (X.blk s3 H3 scope ce fp) [] H' b := fun {σ' H' s'} K hn b hb => by
    obtain ⟨k1, k2⟩ := K.ok.exf b hb
    refine ⟨hn b hb, k1, K.ok.exfs b hb, .inl hb, k2, fun p hp => ?_⟩
    have hp : p ∈ ([] : List (Addr × Obj)) ++ [] := hp
    cases hp
  refine compLoop_any (fun n s' => ∃ i H', Inv (X.blk s3 H3 scope ce fp) [] (wipe σ vs) H' s' ∧ tn i s'.heap ∧ (∀ b ∈ fp, H' b = none) ∧ Wi i n H') ?_ m0 ⟨0, H3, I4, t0, fun b hb => (f3 b hb).1, w0⟩
  intro n s5 ⟨i, H5, I5, t5, z5, w5⟩
  rcases step i n H5 w5 with ⟨hstop, hq⟩ | ⟨hgo, Nx, hNx, go⟩
  · refine thnF (T.done (X.blk s3 H3 scope ce fp) rfl rfl rfl calm i [] s5 _ H5 (fun _ _ => False) I5 (fpY I5 z5) t5 hstop) fun r s6 hr => ?_
    obtain ⟨rfl, I6⟩ := hr
    have IX : Inv X pins σ H5 s6 := I3.call' (ch := fp) I6.os I6.base I6.hok I6.bare fun b hb => ⟨(f3 b hb).2.2.2.1, (f3 b hb).2.1, (f3 b hb).2.2.2.2.1, (f3 b hb).2.2.2.2.2⟩
    have zC : H5 s3.heap.objs.size = none := by
      rw [← loc]
      exact I6.free
    obtain ⟨m, hn, _⟩ := I6.loc
    have hn : s6.heap.Ns ce.locals m := hn
    show compPost _ _ _ _ _ _ ce.locals _ _
    rw [loc] at hn ⊢
    exact hR s6 m H5 IX hq hn (I3.fpOk (Nat.le_refl _) zC)
  · refine thnF (T.item (X.blk s3 H3 scope ce fp) rfl rfl rfl calm i [] s5 _ H5 (fun _ _ => False) I5 (fpY I5 z5) t5 hgo) fun r s6 hr => ?_
    obtain ⟨u, rfl, h6⟩ := hr
    refine thnF h6 fun _ s7 h7 => ?_
    obtain ⟨x, H7, I7, r7, y7, t7, z7⟩ := h7
    have P7 := I7.pinned (fpY I7 z7) (T.obj _ _ t7)
    refine thnF (pg.run _ s7 _ H7 x u _ P7 r7 (go x H7 y7)) fun _ s8 h8 => ?_
    obtain ⟨σ8, H8, I8, e8, q8⟩ := h8
    refine thnF (pt.run _ s8 σ8 H8 _ I8 q8) fun b s9 h9 => ?_
    obtain ⟨H9, I9, q9⟩ := h9
    have over : ∀ {s' : Shared} {H' : Hp}, Inv (X.blk s3 H3 scope ce fp) ([] ++ pinsAt fp s7.heap) σ8 H' s' → Nx H' → ∃ k, k < n ∧ ∃ i H', Inv (X.blk s3 H3 scope ce fp) [] (wipe σ vs) H' s' ∧ tn i s'.heap ∧ (∀ b ∈ fp, H' b = none) ∧ Wi i k H' := by
      intro s' H' K nx
      obtain ⟨k, hk, wk⟩ := hNx H' nx
      have at_ : ∀ b ∈ fp, ∀ o, s7.heap.get? b = some o → s'.heap.get? b = some o ∧ H' b = none := fun b hb o e => by
        have := K.pin (b, o) (List.mem_append_right _ (List.mem_append_right _ (mem_pinsAt hb e)))
        exact ⟨this.1, this.2.1⟩
      refine ⟨k, hk, i + 1, H', (K.unpinned (pins := [])).weak (by rw [← e8, wipe_length]) (fun j v e => ?_), T.keep _ _ _ t7 fun b hb o e => (at_ b hb o e).1, fun b hb => ?_, wk⟩
      · rw [← e8] at e
        exact (wipe_some e).1
      · obtain ⟨o, e, _⟩ := T.obj _ _ t7 b hb
        exact (at_ b hb o e).2
    cases b with
    | false =>
      rw [if_neg (by decide)] at q9 ⊢
      exact over I9 q9
    | true =>
      rw [if_pos rfl] at q9 ⊢
      have py := pe _ ((X.blk s3 H3 scope ce fp).pn ++ ([] ++ pinsAt fp s7.heap)) _ (tkY _)
      refine wpAny_mono (py.run [] s9 σ8 H9 _ (I9.toTry _) q9) (fun z s10 hz => ?_) fun e s10 hx => hx
      obtain ⟨yv, H10, I10, r10, acc, d10, l10, nx⟩ := hz
      have K10 : Inv (X.blk s3 H3 scope ce fp) ([] ++ pinsAt fp s7.heap) σ8 H10 s10 := I10.ofTry I9.ok
      exact app_ok (X := X.blk s3 H3 scope ce fp) K10 d10 l10 r10 fun s11 K11 => over K11 nx
theorem lcX_core {pins : List (Addr × Obj)} {s : Shared} {σ : St} {H : Hp} {Q : VK} {elt tg iter : Expr} {ifs : List Expr} {scope : Scope} {own : List (Str × Nat)} {pos pos' : Pos} {wi : TI} {g : TG} {tt : TT} {te : WX → TE} {W : WX} {use : Option (Value → Sem Unit)} {Qf : Value → Shared → Prop}
    (hst : X.stack = X.env :: X.outer) (hfm : X.env.frame = some X.env.locals) (tk : Takes X W) (calm : X.calm = true) (nd : X.N.Nodup) (I : Inv X pins σ H s) (hi : PI X tg iter wi) (ok : BlkOk X.N X.env.scope scope own)
    (hg : ∀ (s : Shared) (H : Hp) (C : Addr) (cl : List (Str × Addr)) (fp : List Addr), PG (X.blk s H scope (compEnvC scope cl C X.env) fp) tg g)
    (ht : ∀ (s : Shared) (H : Hp) (C : Addr) (cl : List (Str × Addr)) (fp : List Addr), PTs (X.blk s H scope (compEnvC scope cl C X.env) fp) ifs tt)
    (he : ∀ (s : Shared) (H : Hp) (C : Addr) (cl : List (Str × Addr)) (fp : List Addr) (V : WX) (pn : List (Addr × Obj)) (xe : Value → Shared → Prop), Takes ((X.blk s H scope (compEnvC scope cl C X.env) fp).tr pn xe) V → PE ((X.blk s H scope (compEnvC scope cl C X.env) fp).tr pn xe) elt (te V))
    (hs : ∀ x, foldedSetIterable iter X.env x = pure x) (h : tLc wi g tt (te fun cls d _ H' => W cls d σ H') (own.map fun q => q.2) σ H Q)
    (hR : ∀ D C s' m H', Inv X pins σ H' s' → Q (.ref D) H' → s'.heap.Ns C m → FpOk X pins H' C → compPost (model X.prog X.w) X.A X.xe use Qf (.ref D) C (.ok .next) s') :
    wpAny (model X.prog X.w) X.A (comprehension (.ListComp elt [⟨tg, iter, ifs, 0⟩] scope pos) scope X.env pos' (newList []) false (eval iter X.env) use) Qf X.xe s := by
  have clo := closure_ok (scope := scope) (env := X.env) fun y hy e => (ok.free y hy e).elim (fun k => I.ok.has _ (.inl k)) fun k => I.ok.has _ (.inr k)
  refine comp_run rfl hs clo ok.kind (fun y hy e => by rw [ok.uniq y hy, e]) ?_
  refine thn (hi.run pins s σ H _ I h) fun xv s1 h1 => thn h1 fun itv s2 h2 => ?_
  obtain ⟨it, fp, tn, J, H2, rfl, I2, T, t2, f2, q⟩ := h2
  refine wpAny_newObj_type (newEnv_comp ?_) (by show 0 ≤ sizeLine; decide)
  have zD : H2 s2.heap.objs.size = none := I2.hok.fresh (Nat.le_refl _)
  obtain ⟨Wi, ⟨m0, w0⟩, step⟩ := q s2.heap.objs.size zD
  have I3 : Inv X pins σ (upd H2 s2.heap.objs.size (.lst [])) { s2 with heap := s2.heap.push { cls := .type "list", data := .seq ([] : List Value).toArray } } :=
    I2.laid (t' := s2.toks) (fun b o e => Heap.get?_push_of_some _ e) (Nat.le_refl _) ⟨Nat.zero_le _, [], 0, .nil, Heap.get?_push_size _ rfl⟩
  have low : ∀ b ∈ fp, b < s2.heap.objs.size := fun b hb => by
    obtain ⟨o, e, _⟩ := T.obj _ _ t2 b hb
    exact Heap.lt_size e
  have f3 : ∀ b ∈ fp, FpOk X pins (upd H2 s2.heap.objs.size (.lst [])) b := fun b hb => ⟨by
    rw [upd_ne (Nat.ne_of_lt (low b hb))]
    exact (f2 b hb).1, (f2 b hb).2⟩
  have I4 := block_start I3 ok nd (fp := fp) fun b hb => ⟨f3 b hb, by
    show b < (s2.heap.push _).objs.size
    rw [Heap.size_push]
    exact Nat.lt_succ_of_lt (low b hb)⟩
  have t4 : tn 0 (pushCells ((s2.heap.push { cls := .type "list", data := .seq ([] : List Value).toArray }).push { cls := .type "dict", data := .dict #[] }) scope.names) := T.keep _ _ _ t2 fun b _ o e => pushCells_keeps _ _ _ _ (Heap.get?_push_of_some _ (Heap.get?_push_of_some _ e))
  have loop := blk_rounds (use := use) (Qf := Qf) (pos := pos) (iter := iter) (elt := elt) (ifs := ifs) (D := s2.heap.objs.size) (Q := Q) hst hfm tk calm I3 f3 T (hg _ _ _ _ _) (ht _ _ _ _ _) (he _ _ _ _ _) I4 t4 w0 step fun s' m H' K q hn f => hR _ _ s' m H' K q hn f
  exact codeAny_compStart_list loop (T.self X.A 0 _ _ _ t4 loop)
/-- name = [..], the items may raise -/
theorem ps_setLcX {i : Nat} {y : Str} {py : Pos} {elt tg iter : Expr} {ifs : List Expr} {scope : Scope} {own : List (Str × Nat)} {pos spos : Pos} {wi : TI} {g : TG} {tt : TT} {te : WX → TE} {W : WX} (hst : X.stack = X.env :: X.outer) (hfm : X.env.frame = some X.env.locals) (tk : Takes X W) (calm : X.calm = true) (nd : X.N.Nodup) (hy : X.N[i]? = some y) (hyl : X.env.scope.names.lookup y = some .local)
    (hsw : swapsWith (.ListComp elt [⟨tg, iter, ifs, 0⟩] scope pos) (some (.Name y py)) spos.line X.env = pure true) (hi : PI X tg iter wi) (ok : BlkOk X.N X.env.scope scope own)
    (hg : ∀ (s : Shared) (H : Hp) (C : Addr) (cl : List (Str × Addr)) (fp : List Addr), PG (X.blk s H scope (compEnvC scope cl C X.env) fp) tg g)
    (ht : ∀ (s : Shared) (H : Hp) (C : Addr) (cl : List (Str × Addr)) (fp : List Addr), PTs (X.blk s H scope (compEnvC scope cl C X.env) fp) ifs tt)
    (he : ∀ (s : Shared) (H : Hp) (C : Addr) (cl : List (Str × Addr)) (fp : List Addr) (V : WX) (pn : List (Addr × Obj)) (xe : Value → Shared → Prop), Takes ((X.blk s H scope (compEnvC scope cl C X.env) fp).tr pn xe) V → PE ((X.blk s H scope (compEnvC scope cl C X.env) fp).tr pn xe) elt (te V))
    (hs : ∀ x, foldedSetIterable iter X.env x = pure x := by intro _; rfl) :
    PS X (.Assign [.Name y py] (.ListComp elt [⟨tg, iter, ifs, 0⟩] scope pos) spos) (fun D σ H => tLc wi g tt (te fun cls d _ H' => W cls d σ H') (own.map fun q => q.2) σ H (fun x H1 => gName i x σ H1 D.nx)) := by
  refine ⟨fun pins s σ H D I h => ?_⟩
  rw [exec_Assign_Name_used _ _ _ _ hsw]
  refine wpAny_bind (wpAny_standAt (wpAny_bind ?_))
  show wpAny _ X.A (do let _ ← comprehension (.ListComp elt [⟨tg, iter, ifs, 0⟩] scope pos) scope X.env (firstIterPos [⟨tg, iter, ifs, 0⟩] pos) (newList []) false (eval iter X.env) (some (assign (.Name y py) X.env))) _ _ s
  refine wpAny_bind (thn (lcX_core (Qf := fun _ s' => SP X pins D .next s') hst hfm tk calm nd I hi ok hg ht he hs h fun L C s' m H' K q hn f => ?_) fun _ s' hq => wpAny_pure (wpAny_pure hq))
  obtain ⟨f0, f1, f2, f3, f4, f5⟩ := f
  show wpAny _ _ (assign (.Name y py) X.env (.ref L)) _ _ _
  refine wpAny_assign_Name (store_ok2 (v := V.ref L) K nd hy (.inl hyl) rfl (fun s2 K2 a => ?_) (.inr hyl))
  obtain ⟨a, sb, ha⟩ := a
  have aC : C ≠ a := by
    rcases ha with z | z
    · rw [z]
      exact f1
    · exact fun e => f4 y a z e.symm
  refine ⟨m, hn.sameBut sb aC, fun h3 sb3 => ?_⟩
  exact ⟨_, H', K2.turned (t' := s2.toks) (fun b o hb e => (sb3.2 b hb).trans e) f0 f1 f3 f4 f5, q⟩
end
end L2
namespace G8
open PySem L2
/-! a comprehension without tests, whose items may raise -/
def stepX (t : Tgt) (fe : M Av) (d : Dt) : M Dt := fun ρ => if anyOwn ρ t.slots then .bad else match putT t d (wipeE ρ t.slots) with
  | .ok _ ρ1 => (match fe ρ1 with
    | .ok a ρ2 => (match fzv ρ2 a with
      | some x => .ok x (backE ρ ρ2 t.slots)
      | none => .bad)
    | .err k ρ2 => .err k (backE ρ ρ2 t.slots)
    | .bad => .bad)
  | _ => .bad
def compX (t : Tgt) (fe : M Av) : List Dt → List Dt → M (List Dt)
  | [], acc => retM acc
  | d :: ds, acc => bindM (stepX t fe d) fun x => if acc.length < 1000000 then compX t fe ds (acc ++ [x]) else badM
def lcX (fi : M (List Dt)) (t : Tgt) (fe : M Av) : M Rv := bindM fi fun ds => bindM (compX t fe ds []) fun xs => retM (.l xs)
section
variable {X : Cx} {b : Bs} {W : WX} {fi : M (List Dt)} {t : Tgt} {fe : M Av}
theorem lcX_sound {σ : St} {H : Hp} {Q : VK} (h : tV b W (lcX fi t fe) σ H Q) : tLc (tI b W fi) (gRaw b.K t) (tT b W0 (retM true)) (tE b (fun cls d _ H' => W cls d σ H') fe) t.slots σ H Q := by
  obtain ⟨c, G, ρ, S, q⟩ := h
  refine ⟨c, G, ρ, S, (Post.bind q).imp fun ds ρ1 G1 H1 e1 S1 q1 J hJ => ?_⟩
  intro D hD
  have h0 : c.H0 D = none := S1.fresh0 hD
  let P : Rv → Ev → Hp → Hp → Prop := fun r ρ' G' H' => ∀ v, RN b c G' H' v r → Apart ρ' σ v r → Q v H'
  refine ⟨fun i m H' => ∃ G' ρ' accV acc, Same G1 G' ∧ SIG b c G' ρ' σ H' ∧ i + m = ds.length ∧ H' D = some (.lst accV) ∧ G' D = none ∧ Rps b.K G' accV acc ∧ NoOwn ρ' σ D ∧ Post b c W G' σ P (bindM (compX t fe (ds.drop i) acc) (fun xs => retM (.l xs)) ρ'),
    ⟨ds.length, G1, ρ1, [], [], Same.refl _, S1.alloc hD, Nat.zero_add _, upd_same, S1.free hD, .nil, S1.noOwn hD, q1⟩, ?_⟩
  rintro i m H' ⟨G', ρ', accV, acc, e', S', em, hA, gD, rA, no, q'⟩
  have gh : SameG G1 H' := SameG.tr e' S'.gh
  by_cases hi : i < ds.length
  · have ed : ds.drop i = ds[i] :: ds.drop (i + 1) := List.drop_eq_getElem_cons hi
    rw [ed] at q'
    refine .inr ⟨hJ.go i H' gh hi, fun H2 => ∃ G' ρ' accV acc, Same G1 G' ∧ SIG b c G' ρ' σ H2 ∧ H2 D = some (.lst accV) ∧ G' D = none ∧ Rps b.K G' accV acc ∧ NoOwn ρ' σ D ∧ Post b c W G' σ P (bindM (compX t fe (ds.drop (i + 1)) acc) (fun xs => retM (.l xs)) ρ'), ?_, fun x H2 hy => ?_⟩
    · rintro H2 ⟨G2, ρ2, av, ac, a1, a2, a3, a4, a5, a6, a7⟩
      exact ⟨m - 1, by omega, G2, ρ2, av, ac, a1, a2, by omega, a3, a4, a5, a6, a7⟩
    · obtain ⟨rfl, d, hd, rd⟩ := hJ.yl i H' x H2 gh hi hy
      have ed2 : d = ds[i] := by
        rw [List.getElem?_eq_getElem hi] at hd
        exact (Option.some.inj hd).symm
      rw [ed2] at rd
      rw [show compX t fe (ds[i] :: ds.drop (i + 1)) acc = bindM (stepX t fe ds[i]) (fun x => if acc.length < 1000000 then compX t fe (ds.drop (i + 1)) (acc ++ [x]) else badM) from rfl, bindM_assoc] at q'
      have ha : anyOwn ρ' t.slots = false := by
        cases z : anyOwn ρ' t.slots with
        | false => rfl
        | true =>
          have : stepX t fe ds[i] ρ' = .bad := by
            unfold stepX
            rw [z]
            rfl
          rw [bindM_bad this] at q'
          exact q'.elim
      cases hp : putT t ds[i] (wipeE ρ' t.slots) with
      | bad =>
        have : stepX t fe ds[i] ρ' = .bad := by
          unfold stepX
          rw [ha, hp]
          rfl
        rw [bindM_bad this] at q'
        exact q'.elim
      | err k ρn => exact absurd hp (putT_noerr k ρn)
      | ok un ρ3 =>
        have S2 := (S'.enter).wipe t.slots ha
        refine putT_ok S2 (Rp.mono e' _ _ rd) hp fun σ3 S3 hw => ?_
        have hw' : wipe σ3 t.slots = wipe σ t.slots := hw.trans (wipe_wipe σ t.slots t.slots fun _ z => z)
        refine ⟨hw', inner G' H2 ρ' σ, G', ρ3, S3, ?_⟩
        have fin : ∀ {G4 H4 ρ4}, Same G' G4 → SIG b (inner G' H2 ρ' σ) G4 ρ4 σ3 H4 → SIG b c G4 (backE ρ' ρ4 t.slots) σ H4 ∧ H4 D = some (.lst accV) ∧ G4 D = none ∧ NoOwn (backE ρ' ρ4 t.slots) σ D := fun {G4 H4 ρ4} e4 S4 => by
          refine ⟨S'.leave ha S4 e4 hw', S4.fr D _ hA (S'.notT hA rfl) (fun j f hj => ?_) (S'.notZ gD), ?_, noOwn_back S' ha S4 hw' hA no⟩
          · obtain ⟨s, r1, r2, r3, r4⟩ := mem_refsOf.mp hj
            exact no j s r1 r2 r4
          · cases z : G4 D with
            | none => rfl
            | some o =>
              rcases S4.gn D o z with y | y | ⟨_, _, y⟩
              · rw [show (inner G' H2 ρ' σ).G0 D = G' D from rfl, gD] at y; cases y
              · rw [show (inner G' H2 ρ' σ).H0 D = H2 D from rfl, hA] at y; cases y
              · rw [show (inner G' H2 ρ' σ).H0 D = H2 D from rfl, hA] at y; cases y
        intro H4 G4 ee4 S4
        refine iteT ⟨inner G' H2 ρ' σ, G4, ρ3, S4, ?_⟩
        cases hf : fe ρ3 with
        | bad =>
          have : stepX t fe ds[i] ρ' = .bad := by
            unfold stepX
            rw [ha, hp, if_neg (by decide)]
            dsimp only
            rw [hf]
          rw [bindM_bad this] at q'
          exact q'.elim
        | err k ρ5 =>
          have : stepX t fe ds[i] ρ' = .err k (backE ρ' ρ5 t.slots) := by
            unfold stepX
            rw [ha, hp, if_neg (by decide)]
            dsimp only
            rw [hf]
          rw [bindM_err this] at q'
          intro H5 G5 ee5 S5
          exact q' H5 G5 (ee4.trans ee5) (fin (ee4.trans ee5) S5).1
        | ok a ρ5 =>
          cases hz : fzv ρ5 a with
          | none =>
            have : stepX t fe ds[i] ρ' = .bad := by
              unfold stepX
              rw [ha, hp, if_neg (by decide)]
              dsimp only
              rw [hf]
              dsimp only
              rw [hz]
            rw [bindM_bad this] at q'
            exact q'.elim
          | some xx =>
            have : stepX t fe ds[i] ρ' = .ok xx (backE ρ' ρ5 t.slots) := by
              unfold stepX
              rw [ha, hp, if_neg (by decide)]
              dsimp only
              rw [hf]
              dsimp only
              rw [hz]
            rw [bindM_ok this] at q'
            intro H5 G5 ee5 S5 y hy'
            by_cases hl : acc.length < 1000000
            · rw [if_pos hl] at q'
              obtain ⟨f1, f2, f3, f4⟩ := fin (ee4.trans ee5) S5
              have hzz : accV.length < sizeLine := by rw [rA.length]; exact Nat.lt_of_lt_of_le hl (by decide)
              refine ⟨accV, f2, hzz, G5, _, accV ++ [y], acc ++ [xx], (e'.trans ee4).trans ee5, f1.poke f3 h0 f4 f2, upd_same, f3, ?_, f4, Post.mono (ee4.trans ee5) q'⟩
              exact (Rps.mono (ee4.trans ee5) _ _ rA).append (.cons (hy'.fz S5 hz) .nil)
            · rw [if_neg hl] at q'
              exact q'.elim
  · have ei : i = ds.length := by omega
    subst ei
    refine .inl ⟨hJ.st H' gh, ?_⟩
    rw [List.drop_length] at q'
    exact q' H' G' (Same.refl _) S' (.ref D) ⟨D, accV, rfl, hA, gD, rA, h0⟩ fun p ep _ => by cases ep; exact no
theorem s_setLcX {i : Nat} {y : Str} {py : Pos} {elt tg iter : Expr} {scope : Scope} {own : List (Str × Nat)} {pos spos : Pos} (hst : X.stack = X.env :: X.outer) (hfm : X.env.frame = some X.env.locals) (tk : Takes X W) (hK : X.K = b.K) (hv : own.map (·.2) = t.slots) (hc : X.calm = true) (hN : X.N.Nodup) (hy : X.N[i]? = some y) (hyl : X.env.scope.names.lookup y = some .local)
    (hsw : swapsWith (.ListComp elt [⟨tg, iter, [], 0⟩] scope pos) (some (.Name y py)) spos.line X.env = pure true) (hi : PI X tg iter (tI b W fi)) (ok : BlkOk X.N X.env.scope scope own)
    (hg : ∀ (s : Shared) (H : Hp) (C : Addr) (cl : List (Str × Addr)) (fp : List Addr), PG (X.blk s H scope (compEnvC scope cl C X.env) fp) tg (gRaw X.K t))
    (he : ∀ (s : Shared) (H : Hp) (C : Addr) (cl : List (Str × Addr)) (fp : List Addr) (V : WX) (pn : List (Addr × Obj)) (xe : Value → Shared → Prop), Takes ((X.blk s H scope (compEnvC scope cl C X.env) fp).tr pn xe) V → PE ((X.blk s H scope (compEnvC scope cl C X.env) fp).tr pn xe) elt (tE b V fe))
    (hs : ∀ x, foldedSetIterable iter X.env x = pure x := by intro _; rfl) :
    PS X (.Assign [.Name y py] (.ListComp elt [⟨tg, iter, [], 0⟩] scope pos) spos) (tS b W (setM i (lcX fi t fe))) :=
  weakS (ps_setLcX hst hfm tk hc hN hy hyl hsw hi ok hg (fun _ _ _ _ _ => ts_nil) he hs) fun D σ H h => by
    rw [show (own.map fun q => q.2) = t.slots from hv, hK]
    exact lcX_sound (setM_core h)
end
end G8
namespace G8
open PySem L2
/-! a list lent to a call, and one's own again behind it -/
open Classical in
noncomputable def thawE (i : Nat) (f : M Rv) : M Fl := fun ρ => match ρ[i]? with
  | some (some (.ls false xs)) => (match f (ρ.set i (some (.d (.list xs)))) with
    | .ok _ ρ1 => if ownFlat i ρ = true ∧ ρ1 = ρ.set i (some (.d (.list xs))) then .ok .nx ρ else .bad
    | _ => .bad)
  | _ => .bad
noncomputable def exprThaw (r i : Nat) (f : M Rv) : M Fl := fun ρ => if refAt ρ[r]? then .bad else thawE i f (ρ.set r none)
section
variable {X : Cx} {b : Bs} {W : WX} {e : Expr} {pos : Pos}
theorem exprThaw_core {r i : Nat} {f : M Rv} {D : Ends} {σ : St} {H : Hp} (h : tS b W (exprThaw r i f) D σ H) : tV b W f σ H fun _ H' => D.nx σ H' := by
  obtain ⟨c, G, ρ, hb, S, q⟩ := h
  unfold exprThaw at q
  by_cases hr0 : refAt ρ[r]? = true
  · rw [if_pos hr0] at q
    exact q.elim
  rw [if_neg hr0] at q
  have S := S.drop (refAt_of hb hr0) ((σ[r]?).getD none)
  rw [set_same] at S
  generalize ρ.set r none = ρ at S q
  unfold thawE at q
  split at q
  · rename_i xs hx
    obtain ⟨G', e', S'⟩ := S.share hb hx
    refine ⟨c, G', _, S', ?_⟩
    split at q
    · rename_i z ρ1 hf
      rw [hf]
      by_cases hc : ownFlat i ρ = true ∧ ρ1 = ρ.set i (some (.d (.list xs)))
      · rw [if_pos hc] at q
        obtain ⟨c2, rfl⟩ := hc
        intro H1 G1 e1 S1 v hv ap
        have hp : ∀ p vs, H p = some (.lst vs) → σ[i]? = some (some (.ref p)) → G1 p = some (.lst vs) := fun p vs h1 h2 => by
          have hl : i < ρ.length := (List.getElem?_eq_some_iff.mp hx).1
          obtain ⟨v', hv', r'⟩ := S'.sl i (.d (.list xs)) (by rw [List.getElem?_set_self hl])
          rw [h2] at hv'
          cases hv'
          cases r' with
          | lst g1 g2 =>
            have := S'.gh _ _ g1 rfl
            rw [h1] at this
            cases this
            exact e1 _ _ g1
        exact q σ H1 G (Same.refl G) (S.thaw hx c2 (e'.trans e1) hp S1)
      · rw [if_neg hc] at q
        exact q.elim
    · exact q.elim
  · exact q.elim
theorem s_exprThaw {r i : Nat} {f : M Rv} (he : PE X e (tV b W f)) (hs : swapsWith e none pos.line X.env = pure false := by rfl) : PS X (.Expr e pos) (tS b W (exprThaw r i f)) := weakS (ps_expr he hs) fun D σ H h => exprThaw_core h
/-! append on what a call gave -/
def tmpE (xs : List Dt) (fl : M (List Av)) : M Rv := bindM fl fun as => optM fun ρ => match fzs ρ as with
  | some [_] => if xs.length < 1000000 then some (.d .none) else none
  | _ => none
def tmpM (f : M Rv) (fl : M (List Av)) : M Rv := bindM f fun r => match r with
  | .l xs => tmpE xs fl
  | _ => badM
theorem m_tmpApp {o : Expr} {f : M Rv} {fl : M (List Av)} (hK : X.K = b.K) (h : PE X e (tBM X.K "list" rAppend (tV b W f) (tL b W fl))) : PE X e (tV b W (tmpM f fl)) :=
  weakE h fun σ H Q ⟨c, G, ρ, S, q⟩ => by
    rw [hK]
    refine ⟨c, G, ρ, S, (Post.bind q).imp fun r ρ1 G1 H1 e1 S1 q1 v hv ap => ?_⟩
    cases r with
    | l xs =>
      obtain ⟨p, vs, rfl, a1, a2, a3, a4⟩ := hv
      have no := ap p rfl rfl
      have q2 := Post.bind (show Post b c W G1 σ _ (tmpE xs fl ρ1) from q1)
      refine ⟨.inl ⟨rfl, vs, SqL.of a1⟩, inner G1 H1 ρ1 σ, G1, ρ1, S1.enter, ?_⟩
      cases hf : fl ρ1 with
      | bad => rw [hf] at q2; exact q2.elim
      | err k ρ2 =>
        rw [hf] at q2
        intro H2 G2 e2 S2
        exact q2 H2 G2 e2 (S1.leave (is := []) rfl S2 e2 rfl)
      | ok as ρ2 =>
        rw [hf] at q2
        intro H2 G2 e2 S2 us hus
        have S2c : SIG b c G2 ρ2 σ H2 := S1.leave (is := []) rfl S2 e2 rfl
        obtain ⟨w, hw, q3⟩ := (q2 H2 G2 e2 S2c).opt S2c
        cases hz : fzs ρ2 as with
        | none => rw [hz] at hw; cases hw
        | some ds =>
          rw [hz] at hw
          have rp := fzs_of S2c hus hz
          match ds, hw, rp with
          | [d0], hw, rp =>
            have hl : xs.length < 1000000 := by
              by_cases z : xs.length < 1000000
              · exact z
              · dsimp only at hw
                rw [if_neg z] at hw
                cases hw
            dsimp only at hw
            rw [if_pos hl] at hw
            cases hw
            cases rp with
            | cons k1 k2 =>
              cases k2
              have hp2 : H2 p = some (.lst vs) := S2.fr p _ a1 (S1.notT a1 rfl) (fun j fl hj => by
                obtain ⟨s, r1, r2, r3, r4⟩ := mem_refsOf.mp hj
                exact no j s r1 r2 r4) (S1.notZ a2)
              have gp : G2 p = none := by
                cases z : G2 p with
                | none => rfl
                | some o =>
                  rcases S2.gn p o z with y | y | ⟨_, _, y⟩
                  · rw [show (inner G1 H1 ρ1 σ).G0 p = G1 p from rfl, a2] at y; cases y
                  · rw [show (inner G1 H1 ρ1 σ).H0 p = H1 p from rfl, a1] at y; cases y
                  · rw [show (inner G1 H1 ρ1 σ).H0 p = H1 p from rfl, a1] at y; cases y
              have no2 : NoOwn ρ2 σ p := noOwn_back S1 (is := []) rfl S2 rfl a1 no
              refine ⟨p, vs, _, rfl, rfl, hp2, by rw [a3.length]; exact Nat.lt_of_lt_of_le hl (by decide), ?_⟩
              have q4 := q2 H2 G2 e2 S2c
              dsimp only at q4
              rw [optM_ap, hz] at q4
              dsimp only at q4
              rw [if_pos hl] at q4
              exact q4 _ G2 (Same.refl _) (S2c.poke gp a4 no2 hp2) .non .non fun p' z => by cases z
          | [], hw, _ => cases hw
          | _ :: _ :: _, hw, _ => cases hw
    | d x => exact (show False from q1).elim
    | k x => exact (show False from q1).elim
    | t x => exact (show False from q1).elim
end
end G8
namespace G8
open PySem L2 PySem.Spec PyProof.Rows
/-! the keys of a dict with tuple keys -/
/-- where the key i lies -/
def keyAt (o : Obj) (i : Nat) : Option Addr := match o.data with
  | .dict es _ => (es[i]?).bind fun n => match n.key with
    | .ref q => some q
    | _ => none
  | _ => none
def Ita (D : Addr) (o : Obj) (ks : List (List Key × V)) : It := ⟨(Itkt D o ks).go, fun i H x H' => H' = H ∧ ∃ q, keyAt o i = some q ∧ x = .ref q, (Itkt D o ks).stop⟩
theorem turn_a {P : Program} {w : World} {K : Fg} {tg : Expr} {D : Addr} {o : Obj} {es : Array DictEntry} {ep : Nat} {ks : List (List Key × V)} (n : Addr) (he : o.data = .dict es ep) :
    Turn P w K tg (Ita D o ks) [n] n (fun i h => h.IsKeyIter n D i ks.length ep) := by
  have T : Turn P w K tg (Itkt D o ks) [n] n (fun i h => h.IsKeyIter n D i ks.length ep) := turn_keysT n he
  refine ⟨T.mem, T.obj, T.keep, ?_, T.done, T.self⟩
  rintro X rfl rfl rfl hc i pins s σ H E I hf st ⟨g1, g2⟩
  obtain ⟨a0, a1, a2, a3, a4, a5⟩ := hf n (List.mem_singleton.mpr rfl)
  obtain ⟨b1, b2, b3, es2, ep2, b4, b5, b6⟩ := I.frzT g1
  rw [he] at b4
  cases b4
  have hp : ks[i]? = some (ks[i].1, ks[i].2) := List.getElem?_eq_getElem g2
  obtain ⟨m, q, c1, c2, c3⟩ := b6 i _ _ hp
  refine next_key_item st b2 he b5 c1 fun h2 t2 sb => ⟨m.key, rfl, ?_⟩
  have J := I.turned (t' := s.toks) (h' := h2) (fun y oy ny ey => by rw [← ey]; exact sb.2 y ny) a0 a1 a3 a4 a5
  obtain ⟨oi, d1, d2, d3⟩ := id t2
  refine go_of (s := { s with heap := h2 }) d1 d2 d3 (by decide) ⟨.ref q, H, J, c2, ⟨rfl, q, ?_, rfl⟩, t2, fun y hy => (hf y hy).1⟩
  unfold keyAt
  rw [he]
  show (es[i]?).bind _ = _
  rw [c1]
  show (match m.key with | .ref q => some q | _ => none) = _
  rw [c2]
section
variable {prog : Program} {w : World} {A : Around} {E : Value → Shared → Prop} {s : Shared}
theorem keysRaw {D : Addr} {es : Array DictEntry} {ep : Nat} (hd : (D == sysModules) = false) : MeetsIn prog w (Builtin.«dict.keys» ⟨[.ref D], []⟩) (fun _ R z => DT.Raw z.heap D es ep ∧
    R (.ok (.ret (.ref z.heap.objs.size))) { z with heap := z.heap.push { cls := .type "dict_keys", data := .fields #[.ref D] } }) := .of_wp fun A R z ⟨x, r⟩ => by
  unfold Builtin.«dict.keys»
  refine wpAny_bind ?_
  unfold Builtin.Dict.noArgs
  refine wpAny_bind (wpAny_notOrdered_dict x.typeIs ?_)
  show wpAny _ _ (pure D) _ _ z
  refine wpAny_pure ?_
  show wpAny _ _ (Builtin.Dict.showsAll D >>= _) _ _ z
  unfold Builtin.Dict.showsAll
  rw [if_neg (fun y => by rw [hd] at y; cases y)]
  refine wpAny_bind (wpAny_pure ?_)
  refine wpAny_bind ?_
  exact wpAny_newObj_type (wpAny_pure ⟨_, rfl, r⟩)
theorem iterRaw {v D : Addr} {es : Array DictEntry} {ep : Nat} {Q : Value → Shared → Prop} (hv : PySem.W.KdlKeysView s.heap v D) (hm : DT.Raw s.heap D es ep)
    (q : Q (.ref s.heap.objs.size) { s with heap := s.heap.push { cls := .type "dict_keyiterator", data := .fields #[.ref D, .int 0 0, .int es.size 0, .int ep 0] } }) : wpAny (model prog w) A (pyIter (.ref v)) Q E s := by
  obtain ⟨u, u1, u2, u3⟩ := id hv
  obtain ⟨o, o1, o2, o3⟩ := id hm
  have sl := PySem.W.kdl_slot_keys_iter
  have nx := PySem.F.slot_dict_keyiterator_next.lookup
  refine wpAny_pyIter_slot hv.typeIs sl ?_
  refine wpAny_call_entry sl hv.typeIs PySem.W.kdl_entry_keys_iter ?_ (PySem.W.kdl_args_keys_iter _)
  unfold Builtin.«dict_keys.__iter__»
  refine wpAny_bind (wpAny_pure ?_)
  refine wpAny_bind ?_
  unfold Builtin.Dict_items.dictOf
  refine wpAny_bind (wpAny_field u1 u3 (x := .ref D) rfl (wpAny_pure ?_))
  refine wpAny_bind ?_
  unfold Builtin.Dict_items.newIterator
  refine wpAny_bind (wpAny_dictEntries o1 o3 ?_)
  refine wpAny_bind (wpAny_dictEpoch o1 o3 ?_)
  simp only [show Builtin.Dict_items.ownsTuple "dict_keyiterator" = false from by decide, Bool.false_eq_true, if_false]
  refine wpAny_newObj_type (wpAny_pure ⟨_, rfl, "dict_keyiterator", _, ⟨_, Heap.get?_push_size _ rfl, rfl⟩, nx, ?_⟩)
  simpa [rawInt] using q
end
def iKeysA (td : TE) : TI := fun σ H R => td σ H fun x H1 => ∃ (D : Addr) (o : Obj) (ks : List (List Key × V)), x = .ref D ∧ H1 D = some (.frz o (.dT ks)) ∧
  ((∀ i k v, ks[i]? = some (k, v) → ∃ q, keyAt o i = some q ∧ H1 q = some (.tup (k.map kV))) → R (Ita D o ks) H1)
theorem pi_keysA {X : Cx} {tg e : Expr} {td : TE} {ap cp : Pos} (he : PE X e td) (hb : attributeBase e "keys" X.env (eval e X.env) = eval e X.env := by rfl) (hl : (ap.endLine == cp.line) = true := by rfl) : PI X tg (.Call (.Attribute e "keys" ap) [] [] cp) (iKeysA td) := by
  refine ⟨fun pins s σ H R I h => ?_⟩
  refine wpAny_Call_method (T := "dict") (id := "dict.keys") hb rfl hl PySem.F.plainAttrs_dict PySem.F.slot_dict_keys PySem.F.type_dict_keys ?_
  refine thn (he.run pins s σ H _ I h) fun u s1 ⟨x, H1, I1, rx, D, o, ks, ex, hD, q⟩ => ?_
  subst ex
  obtain rfl : u = Value.ref D := rx
  obtain ⟨b1, b2, b3, es, ep, b4, b5, b6⟩ := I1.frzT hD
  have raw : DT.Raw s1.heap D es ep := ⟨o, b2, b3, b4⟩
  refine ⟨raw.typeIs, (fun y ey => by cases ey; exact ⟨o, b2, b3.2.1⟩), ?_⟩
  have I2 := I1.kept (t' := s1.toks) (h' := s1.heap.push { cls := .type "dict_keys", data := .fields #[.ref D] }) fun y oy ey => Heap.get?_push_of_some _ ey
  have q' := q fun i k v hi => by
    obtain ⟨m, a, c1, c2, c3⟩ := b6 i k v hi
    refine ⟨a, ?_, c3⟩
    unfold keyAt
    rw [b4]
    show (es[i]?).bind _ = _
    rw [c1]
    show (match m.key with | .ref q => some q | _ => none) = _
    rw [c2]
  have fin : wpAny (model X.prog X.w) X.A (pyIter (.ref s1.heap.objs.size)) (PIE X pins σ tg R) X.xe { s1 with heap := s1.heap.push { cls := .type "dict_keys", data := .fields #[.ref D] } } := by
    refine iterRaw ⟨_, Heap.get?_push_size _ rfl, rfl, rfl⟩ (raw.push _) (pi_one (tk := s1.toks) I2 _ (turn_a _ b4) ⟨_, Heap.get?_push_size _ rfl, rfl, ?_⟩ q')
    rw [b5] <;> rfl
  show wpAny _ _ (callWith cp (.builtin "dict.keys") [.ref D] [] []) _ X.xe s1
  refine method_meetsIn PySem.F.slot_dict_keys PySem.F.entry_dict_keys rfl (PySem.evalArgs_none ⟨rfl, raw.typeIs, PySem.F.args_dict_keys_1 _, ?_⟩)
  exact ⟨_, keysRaw (es := es) (ep := ep) b1, raw, fin⟩
end G8
namespace G8
open PySem L2
/-! dicts whose keys are tuples of ints -/
def tkey : Dt → Option (List Key)
  | .tuple ds => (intsO ds).map fun is => is.map Sum.inl
  | _ => none
theorem ints_kV (is : List Int) : (is.map (Sum.inl : Int → Key)).map kV = is.map V.int := by
  rw [List.map_map]
  exact List.map_congr_left fun i _ => rfl
theorem rp_tkey {K : Fg} {G : Hp} {v : V} {x : Dt} {k : List Key} (h : Rp K G v x) (e : tkey x = some k) : ∃ q, v = .ref q ∧ G q = some (.tup (k.map kV)) := by
  cases x with
  | tuple ds =>
    cases h with
    | @tup a vs _ h1 h2 =>
      cases hi : intsO ds with
      | none => simp [tkey, hi] at e
      | some is =>
        have hv := intsO_of hi h2
        simp [tkey, hi] at e
        subst e hv
        refine ⟨a, rfl, ?_⟩
        rw [ints_kV]
        rcases h1 with h1 | ⟨_, x, r, h1⟩
        · exact h1
        · cases is with
          | nil => cases h1
          | cons i is => cases h1
  | _ => cases e
theorem ro_tkey {K : Fg} {G H : Hp} {v : V} {x : Dt} {k : List Key} (s : SameG G H) (h : RO K G H v x) (e : tkey x = some k) : ∃ q, v = .ref q ∧ H q = some (.tup (k.map kV)) := by
  rcases h with h | ⟨p, vs, xs, rfl, rfl, _, _⟩
  · obtain ⟨q, h1, h2⟩ := rp_tkey h e
    exact ⟨q, h1, s _ _ h2 rfl⟩
  · cases e
/-- the dict in a slot -/
def slotTD : Option (Option Sv) → Option (List (List Key × Dt))
  | some (some (.dt _ kvs)) => some kvs
  | some (some (.ft kvs)) => some kvs
  | _ => none
theorem slotTD_rd {b : Bs} {c : Fc} {G H : Hp} {ρ : Ev} {σ : St} {i : Nat} {kvs : List (List Key × Dt)} (S : SIG b c G ρ σ H) (e : slotTD ρ[i]? = some kvs) : ∃ p vs, σ[i]? = some (some (.ref p)) ∧ Rd H p (.dT vs) ∧ RpK b.K G vs kvs := by
  unfold slotTD at e
  split at e
  · rename_i r ks q
    cases e
    obtain ⟨u, hu, p, vs, rfl, e2, e3, e4⟩ := S.sl i _ q
    exact ⟨p, vs, hu, .inl e2, e4⟩
  · rename_i ks q
    cases e
    obtain ⟨u, hu, p, od, vs, rfl, e2, e3⟩ := S.sl i _ q
    exact ⟨p, vs, hu, .inr ⟨od, S.gh _ _ e2 rfl⟩, e3⟩
  · cases e
def tGet (kvs : List (List Key × Dt)) (k : List Key) : Option Dt := (kvs.find? fun kv => decide (kv.1 = k)).map (·.2)
def tPut (kvs : List (List Key × Dt)) (k : List Key) (d : Dt) : List (List Key × Dt) := if (kvs.any fun kv => decide (kv.1 = k)) = true then kvs.map (fun kv => if kv.1 = k then (kv.1, d) else kv) else kvs ++ [(k, d)]
section
variable {K : Fg} {G : Hp} {vs : List (List Key × V)} {kvs : List (List Key × Dt)} {k : List Key}
theorem rt_get (h : RpK K G vs kvs) (k : List Key) : (valV vs k = none ∧ tGet kvs k = none) ∨ ∃ v d, valV vs k = some v ∧ tGet kvs k = some d ∧ Rp K G v d := by
  unfold RpK at h
  induction h with
  | nil => exact .inl ⟨rfl, rfl⟩
  | @cons p q ps qs r t ih =>
    by_cases e : p.1 = k
    · have e2 : q.1 = k := by rw [← r.1]; exact e
      exact .inr ⟨p.2, q.2, valV_pos e, by simp [tGet, e2], r.2⟩
    · have e2 : ¬ q.1 = k := by rw [← r.1]; exact e
      rw [valV_neg e, show tGet (q :: qs) k = tGet qs k by simp [tGet, e2]]
      exact ih
theorem rt_put (h : RpK K G vs kvs) (k : List Key) {v : V} {d : Dt} (r : Rp K G v d) : RpK K G (L2.putK vs k v) (tPut kvs k d) := by
  have ha : (vs.any fun kv => decide (kv.1 = k)) = (kvs.any fun kv => decide (kv.1 = k)) := by
    unfold RpK at h
    induction h with
    | nil => rfl
    | @cons p q ps qs r t ih => rw [List.any_cons, List.any_cons, ih, r.1]
  unfold L2.putK tPut
  rw [ha]
  unfold RpK at h ⊢
  by_cases hh : (kvs.any fun kv => decide (kv.1 = k)) = true
  · rw [if_pos hh, if_pos hh]
    clear ha hh
    induction h with
    | nil => exact .nil
    | @cons p q ps qs rr t ih =>
      refine .cons ?_ ih
      by_cases e : p.1 = k
      · have e2 : q.1 = k := by rw [← rr.1]; exact e
        dsimp only
        rw [if_pos e, if_pos e2]
        exact ⟨rr.1, r⟩
      · have e2 : ¬ q.1 = k := by rw [← rr.1]; exact e
        dsimp only
        rw [if_neg e, if_neg e2]
        exact rr
  · rw [if_neg hh, if_neg hh]
    clear ha hh
    induction h with
    | nil => exact .cons ⟨rfl, r⟩ .nil
    | @cons p q ps qs rr t ih => exact .cons rr ih
theorem rt_len (h : RpK K G vs kvs) : vs.length = kvs.length := Paired.length h
end
def getT (i : Nat) (fb : M Av) : M Av := bindM (varM i) fun _ => bindM fb fun a => optM fun ρ => (slotTD ρ[i]?).bind fun kvs => ((res ρ a).bind tkey).bind fun k => (tGet kvs k).map Av.d
def getT2 (i : Nat) (fb fx : M Av) : M Av := bindM (optM fun ρ => slotTD ρ[i]?) fun _ => bindM fb fun a => bindM fx fun z => optM fun ρ => (slotTD ρ[i]?).bind fun kvs => ((res ρ a).bind tkey).bind fun k => (fzv ρ z).map fun y => Av.d ((tGet kvs k).getD y)
def putTM (i : Nat) (fe fk : M Av) : M Fl := bindM fe fun a => bindM (varM i) fun _ => bindM fk fun k ρ => match ρ[i]?, fzv ρ a, (res ρ k).bind tkey with
  | some (some (.dt r kvs)), some d, some kk => if kvs.length < 1000000 then .ok .nx (ρ.set i (some (.dt r (tPut kvs kk d)))) else .bad
  | _, _, _ => .bad
section
variable {X : Cx} {b : Bs} {W : WX} {a : Expr} {fa : M Av} {x : Str} {pn pos : Pos}
theorem getT_core {c : Fc} {G H : Hp} {ρ : Ev} {σ : St} {i : Nat} {z : Av} {v : V} {kvs : List (List Key × Dt)} {k : List Key} (S : SIG b c G ρ σ H) (hz : RA b.K G σ v z) (e1 : slotTD ρ[i]? = some kvs) (e2 : (res ρ z).bind tkey = some k) :
    ∃ p o, σ[i]? = some (some (.ref p)) ∧ DGet H p v o ∧ ((o = none ∧ tGet kvs k = none) ∨ ∃ w d, o = some w ∧ tGet kvs k = some d ∧ Rp b.K G w d) := by
  obtain ⟨p, vs, hp, rd, rk⟩ := slotTD_rd S e1
  cases hr : res ρ z with
  | none => rw [hr] at e2; cases e2
  | some y =>
    rw [hr] at e2
    obtain ⟨q, rfl, hq⟩ := ro_tkey S.gh (hz.res S hr) e2
    exact ⟨p, valV vs k, hp, .inr ⟨vs, k, q, rd, rfl, hq, rfl⟩, rt_get rk k⟩
theorem m_getT (hu : X.A.units + 1 < cLine) (hs : NoSl a) (i : Nat) (hv : PE X (.Name x pn) (tVar i)) (ha : PE X a (tE b W fa)) : PE X (.Subscript (.Name x pn) a pos) (tE b W (getT i fa)) := weakE (pe_dget hu hv ha hs) fun σ H Q ⟨c, G, ρ, S, q⟩ => by
  have q' := Post.bind q
  unfold varM at q'
  split at q'
  · rename_i sv hs
    obtain ⟨v0, hv0, _⟩ := S.sl i sv hs
    have q2 := q' H G (Same.refl G) S
    refine ⟨v0, hv0, c, G, ρ, S, (Post.bind q2).imp fun z ρ1 G1 H1 e1 S1 q1 v hv => ?_⟩
    obtain ⟨k, h1, h2⟩ := q1.opt S1
    cases e1 : slotTD ρ1[i]? with
    | none => rw [e1] at h1; cases h1
    | some kvs =>
      cases e2 : (res ρ1 z).bind tkey with
      | none => rw [e1, e2] at h1; cases h1
      | some kk =>
        rw [e1, e2] at h1
        obtain ⟨p, o, hp, g, cs⟩ := getT_core S1 hv e1 e2
        rw [hv0] at hp
        cases hp
        rcases cs with ⟨_, c2⟩ | ⟨w, d, rfl, c2, c3⟩
        · simp [c2] at h1
        · simp [c2] at h1
          subst h1
          exact ⟨p, w, rfl, g, h2 w c3⟩
  · exact q'.elim
theorem m_getT2 {f : Expr} {fx : M Av} {apos cpos : Pos} (hu : X.A.units + 1 < cLine) (i : Nat) (hv : PE X (.Name x pn) (tVar i)) (ha : PE X a (tE b W fa)) (hf : PE X f (tE b W fx)) (m : M2 X (.Name x pn) "get" apos a f cpos) :
    PE X (.Call (.Attribute (.Name x pn) "get" apos) [a, f] [] cpos) (tE b W (getT2 i fa fx)) := weakE (pe_dget2 hu hv ha hf m) fun σ H Q ⟨c, G, ρ, S, q⟩ => by
  obtain ⟨kvs0, h1, h2⟩ := (Post.bind q).opt S
  obtain ⟨p, vs, hp, rd, rk⟩ := slotTD_rd S h1
  refine ⟨.ref p, hp, p, rfl, .inr ⟨vs, rd⟩, c, G, ρ, S, (Post.bind h2).imp fun z ρ1 G1 H1 e1 S1 q1 v hv => ?_⟩
  refine ⟨c, G1, ρ1, S1, (Post.bind q1).imp fun y ρ2 G2 H2 e2 S2 q2 w hw => ?_⟩
  obtain ⟨k, h3, h4⟩ := q2.opt S2
  cases e3 : slotTD ρ2[i]? with
  | none => rw [e3] at h3; cases h3
  | some kvs =>
    cases e4 : (res ρ2 z).bind tkey with
    | none => rw [e3, e4] at h3; cases h3
    | some kk =>
      cases e5 : fzv ρ2 y with
      | none => rw [e3, e4, e5] at h3; cases h3
      | some d0 =>
        rw [e3, e4, e5] at h3
        cases h3
        obtain ⟨p2, o, hp2, g, cs⟩ := getT_core S2 (hv.mono e2) e3 e4
        rw [hp] at hp2
        cases hp2
        refine ⟨o, g, h4 _ ?_⟩
        rcases cs with ⟨rfl, c2⟩ | ⟨w2, d, rfl, c2, c3⟩
        · rw [c2]
          exact hw.fz S2 e5
        · rw [c2]
          exact c3
theorem m_newT : PE X (.Dict [] [] pos) (tV b W (retM (.t []))) := weakE pe_dnewT fun σ H Q ⟨c, G, ρ, S, q⟩ p hp =>
  q (upd H p (.dT [])) G (Same.refl G) (S.alloc hp) (.ref p) ⟨p, [], rfl, upd_same, S.free hp, .nil, S.fresh0 hp⟩ fun p' e _ => by cases e; exact S.noOwn hp
theorem s_putT {e k : Expr} {fe fk : M Av} {tp : Pos} (hu : X.A.units + 1 < cLine) (i : Nat) (hv : PE X (.Name x pn) (tVar i)) (he : PE X e (tE b W fe)) (hk : PE X k (tE b W fk)) (hs : swapsWith e (some (.Subscript (.Name x pn) k tp)) pos.line X.env = pure false := by rfl) :
    PS X (.Assign [.Subscript (.Name x pn) k tp] e pos) (tS b W (putTM i fe fk)) := weakS (ps_dput hu hv hk he hs) fun D σ H ⟨c, G, ρ, hb, S, q⟩ =>
  ⟨c, G, ρ, S, (PostS.bind σ q).imp fun a ρ1 G1 H1 e1 S1 q1 v hv => by
    have q1' := PostS.bind σ q1
    unfold varM at q1'
    split at q1'
    · rename_i sv hs0
      obtain ⟨w, hw, _⟩ := S1.sl i sv hs0
      have q1'' := q1' H1 G1 (Same.refl G1) S1
      refine ⟨w, hw, c, G1, ρ1, S1, (PostS.bind σ q1'').imp fun kk ρ2 G2 H2 e2 S2 q2 u hu => ?_⟩
      split at q2
      · rename_i r kvs d key hsl hf hkk
        split at q2
        · rename_i hlen
          obtain ⟨v', hv', p', vs', e', b2, b3, b4⟩ := S2.sl i _ hsl
          rw [hw] at hv'
          cases hv'
          subst e'
          cases hr : res ρ2 kk with
          | none => rw [hr] at hkk; cases hkk
          | some y =>
            rw [hr] at hkk
            obtain ⟨qq, rfl, hq⟩ := ro_tkey S2.gh (hu.res S2 hr) hkk
            have S3 := S2.mut (o := .dT (L2.putK vs' key v)) (sv' := .dt r (tPut kvs key d)) hsl rfl hw rfl rfl ⟨p', _, rfl, upd_same, b3, rt_put b4 key ((hv.mono e2).fz S2 hf)⟩
            exact ⟨p', _, rfl, .inr ⟨vs', key, qq, b2, rfl, hq, by rw [rt_len b4, sizeLine_eq]; omega, rfl⟩, q2 σ _ G2 (Same.refl G2) S3⟩
        · exact q2.elim
      · exact q2.elim
    · exact q1'.elim⟩
/-! a dict goes from one name to another -/
def moveM (i j : Nat) : M Fl := fun ρ => match ρ[j]? with
  | some (some (.dt false kvs)) => if i = j ∨ refAt ρ[i]? = true then .bad else .ok .nx ((ρ.set j none).set i (some (.dt false kvs)))
  | _ => .bad
theorem s_move {y : Str} {pos' : Pos} {i j : Nat} (hN : X.N.Nodup) (hi : X.N[i]? = some y) (hx : Loc X.env.scope y) (hv : PE X (.Name x pn) (tVar j)) (hs : swapsWith (.Name x pn) (some (.Name y pos')) pos.line X.env = pure false := by rfl)
    (hf : X.fn y = true ∨ X.env.scope.names.lookup y = some .local := by first | exact .inl rfl | exact .inr rfl | assumption) : PS X (.Assign [.Name y pos'] (.Name x pn) pos) (tS b W (moveM i j)) := weakS (ps_set hN hi hx hv hs hf) fun D σ H ⟨c, G, ρ, hb, S, q⟩ => by
  unfold moveM at q
  split at q
  · rename_i kvs hj
    by_cases h0 : i = j ∨ refAt ρ[i]? = true
    · rw [if_pos h0] at q
      exact q.elim
    · rw [if_neg h0] at q
      have hij : i ≠ j := fun z => h0 (.inl z)
      have hr : ¬ refAt ρ[i]? = true := fun z => h0 (.inr z)
      obtain ⟨v, hv, rs⟩ := S.sl j _ hj
      refine ⟨v, hv, ?_⟩
      obtain ⟨p, vs, rfl, h1, h2, h3⟩ := id rs
      have oj : Open c ρ j := fun s e => by rw [hj] at e; cases e; exact .inr ⟨hb, rfl⟩
      have p0 : c.H0 p = none := by
        rcases S.nw j _ p hj rfl hv with z | ⟨f, z⟩
        · exact z
        · exact absurd z (S.noRef oj p f)
      have S1 := S.drop oj ((σ[j]?).getD none)
      rw [set_same] at S1
      have no : NoOwn (ρ.set j none) σ p := fun l s e o1 a1 => by
        by_cases hl : j = l
        · subst hl
          rw [getElem?_set_eq', if_pos rfl] at e
          split at e <;> cases e
        · rw [List.getElem?_set_ne hl] at e
          exact hl (S.sp j l _ s p hj e rfl o1 hv a1)
      have oi : Open c (ρ.set j none) i := by
        intro s e
        rw [List.getElem?_set_ne (fun z => hij z.symm)] at e
        exact refAt_of hb hr s e
      have S2 := S1.set (i := i) (v := .ref p) (sv := .dt false kvs) ⟨p, vs, rfl, h1, h2, h3⟩ oi fun p' e _ => by cases e; exact ⟨no, p0⟩
      exact q _ H G (Same.refl G) S2
  · exact q.elim
end
end G8
namespace G8
open PySem L2
/-! the keys of a locked dict -/
def tupT (k : List Key) : Dt := .tuple (k.map keyD)
def keysT (i : Nat) : M (List Dt) := optM fun ρ => match ρ[i]? with
  | some (some (.ft kvs)) => some (kvs.map fun kv => tupT kv.1)
  | _ => none
theorem rps_keys {K : Fg} {G : Hp} : ∀ k : List Key, Rps K G (k.map kV) (k.map keyD)
  | [] => .nil
  | k :: ks => .cons (rp_key k) (rps_keys ks)
section
variable {X : Cx} {b : Bs} {W : WX} {x : Str} {pn pos : Pos}
theorem SIG.layKeys {c : Fc} {G H : Hp} {ρ : Ev} {σ : St} {o : Obj} {ks : List (List Key × V)} (S : SIG b c G ρ σ H) (h : ∀ i k v, ks[i]? = some (k, v) → ∃ q, keyAt o i = some q ∧ H q = some (.tup (k.map kV))) : ∀ n, n ≤ ks.length →
    ∃ G', Same G G' ∧ SIG b c G' ρ σ H ∧ ∀ i k v, i < n → ks[i]? = some (k, v) → ∃ q, keyAt o i = some q ∧ G' q = some (.tup (k.map kV))
  | 0, _ => ⟨G, Same.refl G, S, fun i k v hi => absurd hi (Nat.not_lt_zero _)⟩
  | n + 1, hn => by
    obtain ⟨G1, e1, S1, h1⟩ := SIG.layKeys S h n (Nat.le_of_succ_le hn)
    obtain ⟨q, hq, ht⟩ := h n ks[n].1 ks[n].2 (List.getElem?_eq_getElem hn)
    obtain ⟨G2, e2, g2, S2⟩ := S1.layT ht
    refine ⟨G2, e1.trans e2, S2, fun i k v hi hk => ?_⟩
    by_cases z : i = n
    · subst z
      rw [List.getElem?_eq_getElem hn] at hk
      have hk := Option.some.inj hk
      rw [show k = ks[i].1 by rw [hk]]
      exact ⟨q, hq, g2⟩
    · obtain ⟨q', a1, a2⟩ := h1 i k v (by omega) hk
      exact ⟨q', a1, e2 _ _ a2⟩
theorem i_keysT {tg : Expr} {apos cpos : Pos} (hK : X.K = b.K) (i : Nat) (hv : PE X (.Name x pn) (tVar i)) (hbase : attributeBase (.Name x pn) "keys" X.env (eval (.Name x pn) X.env) = eval (.Name x pn) X.env := by rfl) (hline : (apos.endLine == cpos.line) = true := by rfl) :
    PI X tg (.Call (.Attribute (.Name x pn) "keys" apos) [] [] cpos) (tI b W (keysT i)) := weakI (pi_keysA hv hbase hline) fun σ H R ⟨c, G, ρ, S, q⟩ => by
  unfold keysT optM at q
  dsimp only at q
  cases hs : ρ[i]? with
  | none => rw [hs] at q; exact q.elim
  | some s0 =>
    cases s0 with
    | none => rw [hs] at q; exact q.elim
    | some sv =>
      cases sv with
      | ft kvs =>
        rw [hs] at q
        obtain ⟨u, hu, p, od, vs, e1, e2, e3⟩ := S.sl i _ hs
        subst e1
        refine ⟨.ref p, hu, p, od, vs, rfl, S.gh _ _ e2 rfl, fun hk => ?_⟩
        obtain ⟨G', s1, S1, h1⟩ := S.layKeys hk vs.length (Nat.le_refl _)
        have hl : vs.length = kvs.length := rt_len e3
        refine q H G' s1 S1 _ ⟨fun j H' e hj => ⟨e _ _ (s1 _ _ e2) rfl, by simp at hj; omega⟩, fun j H' z H'' e hj hy => ?_, fun H' e => ⟨e _ _ (s1 _ _ e2) rfl, by simp; omega⟩⟩
        obtain ⟨rfl, q1, k1, rfl⟩ := hy
        have hj' : j < vs.length := by simp at hj; omega
        obtain ⟨q2, k2, k3⟩ := h1 j _ _ hj' (List.getElem?_eq_getElem hj')
        rw [k1] at k2
        cases k2
        have hjk : j < kvs.length := by omega
        have ek : vs[j].1 = kvs[j].1 := by
          have key : ∀ {l : List (List Key × V)} {m : List (List Key × Dt)}, Paired (fun p q => p.1 = q.1 ∧ Rp b.K G p.2 q.2) l m → l.map (·.1) = m.map (·.1) := by
            intro l m r
            induction r with
            | nil => rfl
            | cons a _ ih => rw [List.map_cons, List.map_cons, ih, a.1]
          have e4 : (vs.map (·.1))[j]? = (kvs.map (·.1))[j]? := by rw [key e3]
          rw [List.getElem?_map, List.getElem?_map, List.getElem?_eq_getElem hj', List.getElem?_eq_getElem hjk] at e4
          exact Option.some.inj e4
        refine ⟨rfl, tupT kvs[j].1, ?_, ?_⟩
        · rw [List.getElem?_map, List.getElem?_eq_getElem hjk]
          rfl
        · rw [← ek]
          exact .tup (.inl k3) (rps_keys _)
      | _ => rw [hs] at q; exact q.elim
/-! a statement while a dict is locked -/
def isFt : Option Sv → Bool
  | some (.ft _) => true
  | _ => false
def noFt (ρ : Ev) (i : Nat) : Bool := (List.range ρ.length).all fun j => decide (j = i) || !isFt (ρ.getD j none)
def okFl : Fl → Bool
  | .nx => true
  | .rt (.d _) => true
  | _ => false
def lockT (i : Nat) (f : M Fl) : M Fl := fun ρ => match ρ[i]? with
  | some (some (.dt false kvs)) => (match f (ρ.set i (some (.ft kvs))) with
    | .ok r ρ' => if noFt ρ' i && okFl r then .ok r (ρ'.set i none) else .bad
    | _ => .bad)
  | _ => .bad
section
variable {K : Fg} {G : Hp} {p : Addr} {od : Obj} {vs : List (List Key × V)} (hp : G p = some (.frz od (.dT vs)))
include hp
theorem TupK.offT {a : Addr} {xs : List V} (h : TupK K G a xs) : TupK K (offG G p) a xs := by
  rcases h with h | h
  · refine .inl ?_
    rw [offG_ne (fun z => by subst z; rw [hp] at h; cases h)]
    exact h
  · exact .inr h
mutual
theorem Rp.offT : ∀ (d : Dt) (v : V), Rp K G v d → Rp K (offG G p) v d
  | .none, _, h => by cases h; exact .non
  | .bool b, _, h => by cases h; exact .bl b
  | .int i, _, h => by cases h; exact .int i
  | .str x, _, h => by cases h; exact .str x
  | .list ds, _, h => by
    cases h with
    | @lst a xs _ h1 h2 =>
      refine .lst ?_ (Rps.offT ds _ h2)
      rw [offG_ne (fun z => by subst z; rw [hp] at h1; cases h1)]
      exact h1
  | .tuple ds, _, h => by
    cases h with
    | tup h1 h2 => exact .tup (h1.offT hp) (Rps.offT ds _ h2)
  | .dict _, _, h => by cases h
theorem Rps.offT : ∀ (ds : List Dt) (vs : List V), Rps K G vs ds → Rps K (offG G p) vs ds
  | [], _, h => by cases h; exact .nil
  | d :: ds, _, h => by
    cases h with
    | cons h1 h2 => exact .cons (Rp.offT d _ h1) (Rps.offT ds _ h2)
end
theorem RpK.offT {κ : Type} {ws : List (κ × V)} {kvs : List (κ × Dt)} (h : RpK K G ws kvs) : RpK K (offG G p) ws kvs := Paired.mapP h fun _ _ z => ⟨z.1, Rp.offT hp _ _ z.2⟩
end
theorem SIG.lockT {c : Fc} {G H : Hp} {ρ : Ev} {σ : St} {i : Nat} {kvs : List (List Key × Dt)} (S : SIG b c G ρ σ H) (hb : c.Fn) (e : ρ[i]? = some (some (.dt false kvs))) :
    ∃ p vs, σ[i]? = some (some (.ref p)) ∧ H p = some (.dT vs) ∧ G p = none ∧ c.H0 p = none ∧ RpK b.K G vs kvs ∧ ∀ od, Same G (upd G p (.frz od (.dT vs))) ∧ SIG b c (upd G p (.frz od (.dT vs))) (ρ.set i (some (.ft kvs))) σ (upd H p (.frz od (.dT vs))) := by
  obtain ⟨v, hv, p, vs, rfl, hp, gp, rk⟩ := S.sl i _ e
  have op : Open c ρ i := fun s q => by rw [e] at q; cases q; exact .inr ⟨hb, rfl⟩
  have h0 : c.H0 p = none := by
    rcases S.nw i _ p e rfl hv with z | ⟨f, z⟩
    · exact z
    · exact absurd z (S.noRef op p f)
  refine ⟨p, vs, hv, hp, gp, h0, rk, fun od => ?_⟩
  have s1 : Same G (upd G p (.frz od (.dT vs))) := fun a u q => by rw [upd_ne (ne_of_none q gp)]; exact q
  have hil : i < ρ.length := (List.getElem?_eq_some_iff.mp e).1
  have get : ∀ {j s}, (ρ.set i (some (.ft kvs)))[j]? = some (some s) → (j = i ∧ s = .ft kvs) ∨ (i ≠ j ∧ ρ[j]? = some (some s)) := fun {j s} q => by
    by_cases hj : i = j
    · subst hj
      rw [getElem?_set_eq', if_pos rfl, if_pos hil] at q
      cases q
      exact .inl ⟨rfl, rfl⟩
    · rw [List.getElem?_set_ne hj] at q
      exact .inr ⟨hj, q⟩
  have gmt : ∀ {j : Nat} {s : Sv}, (ρ.set i (some (.ft kvs)))[j]? = some (some s) → s.isMt = true → ρ[j]? = some (some s) := fun {j s} q hs => by
    rcases get q with ⟨_, rfl⟩ | ⟨_, q⟩
    · cases hs
    · exact q
  refine ⟨s1, by rw [List.length_set]; exact S.len, S.g0.trans s1, fun a u q hm => ?_, fun a hm => ?_, fun a u q m n zz => ?_, fun a u q => ?_, fun j s q => ?_, fun j k sj sk a q1 q2 o1 o2 a1 a2 => ?_, fun j s a q o1 a1 => ?_, fun j a f hj => ?_, tabs_mut S.tb hp (fun _ z => by cases z) (fun _ z => by cases z), S.ct, S.mzk s1 (fun a u ha q => ?_) (fun j r m a h1 h2 => ⟨j, r, gmt h1 rfl, h2⟩), fun j k sj sk h1 h2 g1 g2 => S.m1 j k sj sk (gmt h1 g1) (gmt h2 g2) g1 g2, S.zz, fun j a f s h1 h2 h3 => S.rk j a f s h1 (gmt h2 h3) h3⟩
  case refine_9 =>
    rw [upd_ne ?_]
    · exact q
    intro z
    rcases ha with ha | ⟨ys, ha⟩ | ⟨j, s, h1, h2, h3⟩
    · exact ha.ne gp z
    · subst ha
      rw [z, hp] at q
      cases q
    · obtain ⟨r, m, rfl⟩ := isMt_of h2
      have ei := S.sp i j _ _ p e h1 rfl rfl hv (by rw [h3, z])
      subst ei
      rw [e] at h1
      cases h1
  · by_cases ha : a = p
    · subst ha
      rw [upd_same] at q ⊢
      exact q
    · rw [upd_ne ha] at q ⊢
      exact S.gh a u q hm
  · obtain ⟨u, h1, h2⟩ := hm
    have ha : a ≠ p := fun z => by
      subst z
      rw [upd_same] at h1
      cases h1
      cases h2
    rw [upd_ne ha] at h1 ⊢
    exact S.gm a ⟨u, h1, h2⟩
  · have ha : a ≠ p := fun z => by subst z; rw [h0] at q; cases q
    rw [upd_ne ha]
    exact S.fr a u q m n zz
  · by_cases ha : a = p
    · subst ha
      exact .inr (.inl h0)
    · rw [upd_ne ha] at q
      exact S.gn a u q
  · rcases get q with ⟨rfl, rfl⟩ | ⟨hj, q⟩
    · exact ⟨.ref p, hv, p, od, vs, rfl, upd_same, rk.mono s1⟩
    · obtain ⟨w, hw, z⟩ := S.sl j s q
      refine ⟨w, hw, z.keep s1 fun a u oo ev ha => ?_⟩
      have hne : a ≠ p := fun y => hj (S.sp i j _ s p e q rfl oo hv (by rw [hw, ev, y]))
      obtain ⟨q', _, e', _, g'⟩ := z.at oo
      rw [ev] at e'
      cases e'
      exact ⟨by rw [upd_ne hne]; exact ha, by rw [upd_ne hne]; exact g'⟩
  · rcases get q1 with ⟨_, w1⟩ | ⟨_, y1⟩
    · rw [w1] at o1; cases o1
    · rcases get q2 with ⟨_, w2⟩ | ⟨_, y2⟩
      · rw [w2] at o2; cases o2
      · exact S.sp j k sj sk a y1 y2 o1 o2 a1 a2
  · rcases get q with ⟨_, w1⟩ | ⟨_, y1⟩
    · rw [w1] at o1; cases o1
    · exact S.nw j s a y1 o1 a1
  · obtain ⟨h1, s, h2, h3⟩ := S.rf j a f hj
    have hne : i ≠ j := fun z => by subst z; exact S.noRef op a f hj
    exact ⟨h1, s, by rw [List.getElem?_set_ne hne]; exact h2, h3⟩
theorem SIG.unlockT {c : Fc} {G H : Hp} {ρ : Ev} {σ : St} {i : Nat} {p : Addr} {od : Obj} {vs : List (List Key × V)} {G0 : Hp} (S : SIG b c G ρ σ H) (hG : G p = some (.frz od (.dT vs))) (h0 : c.H0 p = none) (nr : ∀ a f, (i, a, f) ∉ c.refs)
    (hf : ∀ j, j < ρ.length → j ≠ i → isFt (ρ.getD j none) = false) (s0 : Same G0 G) (g0 : G0 p = none) (c0 : Same c.G0 G0) : Same G0 (offG G p) ∧ SIG b c (offG G p) (ρ.set i none) σ (upd H p (.dT vs)) := by
  have hH : H p = some (.frz od (.dT vs)) := S.gh _ _ hG rfl
  have s1 : Same G0 (offG G p) := fun a u q => by
    rw [offG_ne (fun z => by subst z; rw [g0] at q; cases q)]
    exact s0 a u q
  have get : ∀ {j s}, (ρ.set i none)[j]? = some (some s) → i ≠ j ∧ ρ[j]? = some (some s) := fun {j s} q => by
    by_cases hj : i = j
    · subst hj
      rw [getElem?_set_eq', if_pos rfl] at q
      split at q <;> cases q
    · rw [List.getElem?_set_ne hj] at q
      exact ⟨hj, q⟩
  have own_ne : ∀ {j : Nat} {s : Sv}, ρ[j]? = some (some s) → s.own = true → σ[j]? ≠ some (some (V.ref p)) := fun {j s} q o1 z => by
    obtain ⟨w, hw, r⟩ := S.sl j s q
    obtain ⟨q', _, e', h', g'⟩ := r.at o1
    rw [hw, e'] at z
    cases z
    rw [hG] at g'
    cases g'
  have gmt : ∀ {j : Nat} {s : Sv}, (ρ.set i none)[j]? = some (some s) → s.isMt = true → ρ[j]? = some (some s) := fun {j s} q hs => (get q).2
  have mko : ∀ q, Mk G q → Mk (offG G p) q := fun q h => by
    obtain ⟨u, h1, h2⟩ := h
    have ha : q ≠ p := fun z => by
      subst z
      rw [hG] at h1
      cases h1
      cases h2
    exact ⟨u, by rw [offG_ne ha]; exact h1, h2⟩
  refine ⟨s1, by rw [List.length_set]; exact S.len, c0.trans s1, fun a u q hm => ?_, fun a hm => ?_, fun a u q m n zz => ?_, fun a u q => ?_, fun j s q => ?_, fun j k sj sk a q1 q2 o1 o2 a1 a2 => ?_, fun j s a q o1 a1 => ?_, fun j a f hj => ?_, tabs_mut S.tb hH (fun _ z => by cases z) (fun _ z => by cases z), S.ct, S.mzk' mko (fun a u ha q => ?_) (fun j r m a h1 h2 => ⟨j, r, gmt h1 rfl, h2⟩), fun j k sj sk h1 h2 g1 g2 => S.m1 j k sj sk (gmt h1 g1) (gmt h2 g2) g1 g2, S.zz, fun j a f s h1 h2 h3 => S.rk j a f s h1 (gmt h2 h3) h3⟩
  case refine_9 =>
    rw [upd_ne ?_]
    · exact q
    intro z
    rcases ha with ha | ⟨ys, ha⟩ | ⟨j, s, h1, h2, h3⟩
    · obtain ⟨u2, w1, w2⟩ := ha
      rw [z, hG] at w1
      cases w1
      cases w2
    · subst ha
      rw [z, hH] at q
      cases q
    · obtain ⟨r, m, rfl⟩ := isMt_of h2
      exact own_ne h1 rfl (by rw [h3, z])
  · have ha : a ≠ p := fun z => by subst z; rw [offG_eq] at q; cases q
    rw [offG_ne ha] at q
    rw [upd_ne ha]
    exact S.gh a u q hm
  · obtain ⟨u, h1, h2⟩ := hm
    have ha : a ≠ p := fun z => by subst z; rw [offG_eq] at h1; cases h1
    rw [offG_ne ha] at h1
    rw [upd_ne ha]
    exact S.gm a ⟨u, h1, h2⟩
  · have ha : a ≠ p := fun z => by subst z; rw [h0] at q; cases q
    rw [upd_ne ha]
    exact S.fr a u q m n zz
  · have ha : a ≠ p := fun z => by subst z; rw [offG_eq] at q; cases q
    rw [offG_ne ha] at q
    exact S.gn a u q
  · obtain ⟨hj, q⟩ := get q
    · obtain ⟨w, hw, z⟩ := S.sl j s q
      refine ⟨w, hw, ?_⟩
      cases s with
      | d x => exact Rp.offT hG _ _ z
      | ls r xs =>
        obtain ⟨a, ws, q1, h1, h2, h3⟩ := z
        have ha : a ≠ p := fun y => by subst y; rw [hG] at h2; cases h2
        exact ⟨a, ws, q1, by rw [upd_ne ha]; exact h1, by rw [offG_ne ha]; exact h2, Rps.offT hG _ _ h3⟩
      | dk r xs =>
        obtain ⟨a, ws, q1, h1, h2, h3⟩ := z
        have ha : a ≠ p := fun y => by subst y; rw [hG] at h2; cases h2
        exact ⟨a, ws, q1, by rw [upd_ne ha]; exact h1, by rw [offG_ne ha]; exact h2, h3.offT hG⟩
      | dt r xs =>
        obtain ⟨a, ws, q1, h1, h2, h3⟩ := z
        have ha : a ≠ p := fun y => by subst y; rw [hG] at h2; cases h2
        exact ⟨a, ws, q1, by rw [upd_ne ha]; exact h1, by rw [offG_ne ha]; exact h2, h3.offT hG⟩
      | ex k =>
        obtain ⟨a, q1, h1⟩ := z
        have ha : a ≠ p := fun y => by subst y; rw [hG] at h1; cases h1
        exact ⟨a, q1, by rw [offG_ne ha]; exact h1⟩
      | scr ns =>
        obtain ⟨a, q1, h1⟩ := z
        refine ⟨a, q1, ?_⟩
        rcases h1 with (h | ⟨o, h⟩) | h
        · refine .inl (.inl ?_)
          rw [offG_ne (fun y => by subst y; rw [hG] at h; cases h)]
          exact h
        · refine .inl (.inr ⟨o, ?_⟩)
          rw [offG_ne (fun y => by subst y; rw [hG] at h; cases h)]
          exact h
        · exact .inr h
      | mt r m =>
        obtain ⟨a, dx, fs, q1, h1, h2⟩ := z
        have ha : a ≠ p := fun y => by subst y; rw [hG] at h2; cases h2
        exact ⟨a, dx, fs, q1, by rw [upd_ne ha]; exact h1, by rw [offG_ne ha]; exact h2⟩
      | fk ks =>
        obtain ⟨a, od', ws, q1, h1, h2⟩ := z
        have ha : a ≠ p := fun y => by subst y; rw [hG] at h1; cases h1
        exact ⟨a, od', ws, q1, by rw [offG_ne ha]; exact h1, h2.offT hG⟩
      | ft ks =>
        have hj2 : j < ρ.length := (List.getElem?_eq_some_iff.mp q).1
        have := hf j hj2 (fun y => hj y.symm)
        rw [List.getD_eq_getElem?_getD, q] at this
        cases this
  · exact S.sp j k sj sk a (get q1).2 (get q2).2 o1 o2 a1 a2
  · exact S.nw j s a (get q).2 o1 a1
  · obtain ⟨h1, s, h2, h3, h4⟩ := S.rf j a f hj
    have z : i ≠ j := fun z => by subst z; exact nr a f hj
    exact ⟨h1, s, by rw [List.getElem?_set_ne z]; exact h2, h3, h4⟩
theorem s_lockT {f : M Fl} {st : Stmt} (i : Nat) (h : PS X st (tS b W f)) : PS X st (tS b W (lockT i f)) := weakS (ps_lock h) fun D σ H ⟨c, G, ρ, hb, S, q⟩ => by
  unfold lockT at q
  cases e0 : ρ[i]? with
  | none => rw [e0] at q; exact q.elim
  | some o0 =>
    rw [e0] at q
    cases o0 with
    | none => exact q.elim
    | some sv =>
      cases sv with
      | dt r0 kvs =>
        cases r0 with
        | true => exact q.elim
        | false =>
          obtain ⟨p, vs, hσ, hp, gp, h0, rk, lk⟩ := S.lockT hb e0
          refine ⟨p, .dT vs, hp, trivial, fun od => ?_⟩
          obtain ⟨s1, S1⟩ := lk od
          refine ⟨c, _, _, hb, S1, ?_⟩
          dsimp only at q
          cases ef : f (ρ.set i (some (.ft kvs))) with
          | bad => rw [ef] at q; exact q.elim
          | err k ρ' => rw [ef] at q; exact q.elim
          | ok r ρ' =>
            rw [ef] at q
            dsimp only at q
            cases en : noFt ρ' i with
            | false => rw [en] at q; exact q.elim
            | true =>
              cases eo : okFl r with
              | false => rw [en, eo] at q; exact q.elim
              | true =>
                rw [en, eo, Bool.and_self, if_pos rfl] at q
                have hno : ∀ l, l < ρ'.length → l ≠ i → isFt (ρ'.getD l none) = false := fun l hl hne => by
                  unfold noFt at en
                  rw [List.all_eq_true] at en
                  have := en l (List.mem_range.mpr hl)
                  simpa [hne] using this
                have op : Open c ρ i := fun s q => by rw [e0] at q; cases q; exact .inr ⟨hb, rfl⟩
                have fin : ∀ {σ' H' G'}, Same (upd G p (.frz od (.dT vs))) G' → SIG b c G' ρ' σ' H' → H' p = some (.frz od (.dT vs)) ∧ Same G (offG G' p) ∧ SIG b c (offG G' p) (ρ'.set i none) σ' (upd H' p (.dT vs)) ∧ G' p = some (.frz od (.dT vs)) := by
                  intro σ' H' G' e' S'
                  have hG : G' p = some (.frz od (.dT vs)) := e' _ _ upd_same
                  obtain ⟨f1, f2⟩ := S'.unlockT hG h0 (fun a f => S.noRef op a f) hno (s1.trans e') gp S.g0
                  exact ⟨S'.gh _ _ hG rfl, f1, f2, hG⟩
                cases r with
                | nx =>
                  intro σ' H' G' e' S'
                  obtain ⟨f1, f2, f3, _⟩ := fin e' S'
                  exact ⟨f1, q _ _ _ f2 f3⟩
                | bk => cases eo
                | ct => cases eo
                | rt r =>
                  cases r with
                  | d x =>
                    intro v σ' H' G' e' S' hv
                    obtain ⟨f1, f2, f3, f4⟩ := fin e' S'
                    exact ⟨f1, q v _ _ _ f2 f3 (Rp.offT f4 _ _ hv)⟩
                  | _ => cases eo
      | _ => exact q.elim
end
end G8
namespace G8
open PySem L2 PySem.Spec PyProof.Rows
/-! sorted(t), t a tuple of ints -/
def rSortTI (K : Fg) : List V → Hp → VK → Prop := fun vs H Q => ∃ (a : Addr) (ns : List Int), vs = [V.ref a] ∧ SqT K H a (ns.map V.int) ∧ ∀ (ms : List Int) (p : Addr), ms.Perm ns → ms.Pairwise (· ≤ ·) → H p = none → Q (.ref p) (upd H p (.lst (ms.map V.int)))
theorem cr_sortTI {X : Cx} : CallR X (.builtin "sorted") (rSortTI X.K) := by
  intro pins s σ H vs us Q I r ⟨a, ns, e, hs, q⟩
  subst e
  obtain ⟨its, rv, pl, hz0⟩ := I.tuple hs
  obtain rfl := Vals.ref1 r
  have hi := rv.ints
  have hz : its.length ≤ sizeLine := by rw [← rv.length]; exact hz0
  obtain ⟨o, ho, hc, n, hd⟩ := id pl
  have en := entry_sorted
  refine Calls.call_function_entry kind_sorted plain_sorted en (args_sorted1 _) ?_
  unfold Builtin.«sorted»
  refine wpAny_bind (m := checkCount "sorted" 1 1 _) ?_
  refine wpAny_pure ?_
  refine wpAny_bind (wpAny_collect_seq a (.inr rfl) ho hc hd (fun h1 k1 => ?_) (by rw [List.size_toArray]; exact hz))
  refine wpAny_bind (wpAny_newList ?_ hz)
  have I1 := I.kept (t' := s.toks) (h' := h1) k1
  have hL : (h1.push (seqObj "list" its.toArray 0)).get? h1.objs.size = some (seqObj "list" its.toArray 0) := Heap.get?_push_size _ rfl
  refine wpAny_bind (wpAny_holding (wpAny_call_entry slot_list_sort ⟨_, hL, rfl⟩ entry_list_sort ?_ (args_list_sort _)))
  refine SrtO.list_sort_ord SrtO.swo_int hL hz (fun h2 => SrtO.ints_sortable hi h2) fun out g1 g2 => ⟨_, rfl, ?_⟩
  refine wpAny_pure ⟨_, rfl, ?_⟩
  obtain ⟨k2, k3, k4⟩ := SrtO.ints_out hi g1 g2
  obtain ⟨ep, he⟩ := sortedHeap_at (vs := its) (out := out.toArray) hL
  have hl : ((out.map SrtO.iv).map V.int).length ≤ sizeLine := by
    rw [List.length_map, k3.length_eq, ← List.length_map (f := V.int)]
    exact hz0
  refine ⟨.ref h1.objs.size, upd H h1.objs.size (.lst ((out.map SrtO.iv).map V.int)), I1.laid (t' := s.toks) (fun b u hu => ?_) (Nat.le_refl _) ⟨hl, out, ep, vals_of_ints k2, he⟩, rfl, q _ _ k3 k4 (I1.hok.fresh (Nat.le_refl _))⟩
  have hlt : b < h1.objs.size := Heap.lt_size hu
  rw [sortedHeap_old (Nat.ne_of_lt hlt) (by rw [size_push']; exact Nat.lt_succ_of_lt hlt)]
  exact Heap.get?_push_of_some _ hu
def sortTD : List Dt → Option Rv
  | [.tuple ds] => (intsO ds).map fun is => .l ((is.mergeSort fun a b => decide (a ≤ b)).map PyData.int)
  | _ => none
theorem rps_intsT {K : Fg} {G : Hp} : ∀ is : List Int, Rps K G (is.map V.int) (is.map PyData.int)
  | [] => .nil
  | i :: is => .cons (.int i) (rps_intsT is)
theorem d_sortT {b : Bs} : DoesN b (rSortTI b.K) sortTD := fun {c G H ρ σ xs ds z Q} S hx e q => by
  unfold sortTD at e
  split at e
  · rename_i ys
    cases hi : intsO ys with
    | none => rw [hi] at e; cases e
    | some is =>
      rw [hi] at e
      cases e
      obtain ⟨v, rfl, h1⟩ := ros1 hx
      obtain ⟨p, vs, rfl, r1, r2⟩ := h1.tup
      obtain rfl := intsO_of hi r2
      refine ⟨p, is, rfl, same_sqT S.gh r1, fun ms l k1 k2 hl => ?_⟩
      have sm : (is.mergeSort fun a b => decide (a ≤ b)).Pairwise (· ≤ ·) := by
        have := List.pairwise_mergeSort (le := fun a b : Int => decide (a ≤ b)) (fun a b c h1 h2 => by simp at *; omega) (fun a b => by simp; omega) is
        exact this.imp fun h => by simpa using h
      obtain rfl := sorted_unique (k1.trans (List.mergeSort_perm is _).symm) k2 sm
      exact fin_l S q hl (rps_intsT _)
  · cases e
def catTD (x y : Dt) : Option Rv := match x, y with
  | .tuple xs, .tuple ys => if xs.length + ys.length ≤ 1000000 then some (.d (.tuple (xs ++ ys))) else none
  | _, _ => none
theorem d_catT {b : Bs} : Does2 b (rCatA b.K) catTD := fun {c G H ρ σ x y dx dy z Q} S hx hy e q => by
  unfold catTD at e
  split at e
  · rename_i xs ys
    split at e
    · rename_i hl
      cases e
      have hx' := hx
      have hy' := hy
      obtain ⟨p, vs, rfl, h1, h2⟩ := hx'.tup
      obtain ⟨p2, vs2, rfl, h3, h4⟩ := hy'.tup
      have rx : Rp b.K G (.ref p) (.tuple xs) := by
        rcases hx with h | ⟨_, _, _, _, z, _⟩
        · exact h
        · cases z
      have ry : Rp b.K G (.ref p2) (.tuple ys) := by
        rcases hy with h | ⟨_, _, _, _, z, _⟩
        · exact h
        · cases z
      refine ⟨p, p2, vs, vs2, rfl, rfl, same_sqT S.gh h1, same_sqT S.gh h3, by rw [h2.length, h4.length]; exact le_line hl, fun z => ?_, fun _ z => ?_, fun _ _ l hl => fin_t S q hl (h2.append h4)⟩
      · subst z
        cases h2
        exact fin_d S q ry
      · subst z
        cases h4
        rw [List.append_nil] at q
        exact fin_d S q rx
    · cases e
  · cases e
section
variable {X : Cx} {b : Bs} {W : WX} {a a2 e : Expr} {fa fb : M Av} {fl : M (List Av)} {p pos : Pos}
theorem m_catT (hK : X.K = b.K) (ha : PE X a (tE b W fa)) (hb : PE X a2 (tE b W fb)) : PE X (.BinOp a .Add a2 pos) (tV b W (bin2 catTD fa fb)) := m_op op_catA (by rw [hK]; exact d_catT) ha hb
theorem m_sortT (hK : X.K = b.K) (hg : Gl X "sorted") (hm : X.mg "sorted" = none) (ha : PA X [e] (tL b W fl)) (hs : starEach [e] X.env = (false, eval e X.env) :: starEach [] X.env := by rfl) : PE X (.Call (.Name "sorted" p) [e] [] pos) (tV b W (biM sortTD fl)) :=
  m_bi cr_sortTI (by rw [hK]; exact d_sortT) hg hm (by decide +kernel) ha (by decide) (by decide) hs
end
end G8
namespace G8
open PySem L2
/-! meters: a meter in a slot is changed, is made -/
section
variable {b : Bs} {c : Fc} {G H : Hp} {ρ : Ev} {σ : St}
theorem SIG.mtr (S : SIG b c G ρ σ H) {i : Nat} {r : Bool} {m : Ms} (e : ρ[i]? = some (some (.mt r m))) : ∃ p, σ[i]? = some (some (.ref p)) ∧ G p = none ∧ ∃ Z, MeterAt b.mc H p m Z ∧ ∀ q ∈ Z, Mk G q ∧ (c.H0 q = none ∨ c.Z q) := by
  obtain ⟨v, hv, p, dx, fs, rfl, h1, h2⟩ := S.sl i _ e
  exact ⟨p, hv, h2, S.mz i r m p e hv⟩
/-- the ground with the marks of some addresses -/
def mark (G : Hp) (Z : List Addr) : Hp := fun a => match G a with
  | some o => some o
  | none => if a ∈ Z then some mkO else none
theorem mark_same (G : Hp) (Z : List Addr) : Same G (mark G Z) := fun a o e => by
  unfold mark
  rw [e]
theorem mark_in {G : Hp} {Z : List Addr} {a : Addr} (h : a ∈ Z) (hg : Mk G a ∨ G a = none) : Mk (mark G Z) a := by
  rcases hg with h1 | h1
  · exact h1.mono (mark_same G Z)
  · exact ⟨mkO, by unfold mark; rw [h1]; exact if_pos h, rfl⟩
theorem mark_of {G : Hp} {Z : List Addr} {a : Addr} {o : HO} (h : mark G Z a = some o) : G a = some o ∨ (G a = none ∧ a ∈ Z ∧ o = mkO) := by
  unfold mark at h
  cases e : G a with
  | some u => rw [e] at h; cases h; exact .inl rfl
  | none =>
    rw [e] at h
    dsimp only at h
    split at h
    · cases h; exact .inr ⟨rfl, by assumption, rfl⟩
    · cases h
theorem mark_none {G : Hp} {Z : List Addr} {a : Addr} (h : G a = none) (n : a ∉ Z) : mark G Z a = none := by
  unfold mark
  rw [h]
  exact if_neg n
theorem SIG.meter (S : SIG b c G ρ σ H) {i : Nat} {r : Bool} {m m' : Ms} {p : Addr} {Z Z' : List Addr} {H' : Hp} (e : ρ[i]? = some (some (.mt r m))) (hp : σ[i]? = some (some (.ref p))) (hM : MeterAt b.mc H p m Z) (h' : MeterAt b.mc H' p m' Z')
    (k : ∀ a o, H a = some o → a ≠ p → a ∉ Z → H' a = some o) (kl : ∀ a ∈ Z, ∃ xs, H' a = some (.lst xs)) (nz : ∀ q ∈ Z', q ∈ Z ∨ (G q = none ∧ c.H0 q = none ∧ NoOwn ρ σ q)) : Same G (mark G Z') ∧ SIG b c (mark G Z') (ρ.set i (some (.mt r m'))) σ H' := by
  obtain ⟨p0, hp0, gp, Z0, hZ0, z0⟩ := S.mtr e
  rw [hp] at hp0
  cases hp0
  rw [hZ0.uniq hM] at z0
  clear hZ0
  have hil : i < ρ.length := (List.getElem?_eq_some_iff.mp e).1
  have get : ∀ {j : Nat} {s : Sv}, (ρ.set i (some (.mt r m')))[j]? = some (some s) → (j = i ∧ s = .mt r m') ∨ (i ≠ j ∧ ρ[j]? = some (some s)) := fun {j s} q => by
    by_cases hj : i = j
    · subst hj
      rw [getElem?_set_eq', if_pos rfl, if_pos hil] at q
      cases q
      exact .inl ⟨rfl, rfl⟩
    · rw [List.getElem?_set_ne hj] at q
      exact .inr ⟨hj, q⟩
  have s1 := mark_same G Z'
  have pz : ∀ {H : Hp} {m : Ms} {Z : List Addr}, MeterAt b.mc H p m Z → p ∉ Z := fun {H m Z} h q => by
    obtain ⟨dx, fs, h1⟩ := h.main
    obtain ⟨xs, h2⟩ := h.lsts p q
    rw [h1] at h2
    cases h2
  have kk : ∀ a o, H a = some o → G a = none → a ≠ p → ¬ NoOwn ρ σ a → H' a = some o ∧ mark G Z' a = none := fun a o h1 h2 h3 h4 => by
    have n1 : a ∉ Z := fun z => (z0 a z).1.ne h2 rfl
    refine ⟨k a o h1 h3 n1, mark_none h2 fun z => ?_⟩
    rcases nz a z with y | y
    · exact n1 y
    · exact h4 y.2.2
  have lent : ∀ {j : Nat} {s : Sv}, (ρ.set i (some (.mt r m')))[j]? = some (some s) → s.isMt = true → j = i := fun {j s} q hs => by
    rcases get q with ⟨z, _⟩ | ⟨_, z⟩
    · exact z
    · exact S.m1 j i s _ z e hs rfl
  refine ⟨s1, by rw [List.length_set]; exact S.len, S.g0.trans s1, fun a o q hm => ?_, fun a hm => ?_, fun a o q hT hR hZ => ?_, fun a o q => ?_, fun j s q => ?_, fun j l sj sl a q1 q2 o1 o2 a1 a2 => ?_, fun j s a q o1 a1 => ?_, fun j a f hj => ?_, fun t ht => ?_, S.ct, fun j rj mj a q1 q2 => ?_, fun j l sj sl q1 q2 g1 g2 => (lent q1 g1).trans (lent q2 g2).symm, S.zz, fun j a f s h1 h2 h3 => ?_⟩
  · rcases mark_of q with q | ⟨_, _, rfl⟩
    · refine k a o (S.gh a o q hm) (fun z => by rw [z, gp] at q; cases q) fun z => ?_
      obtain ⟨u, w1, w2⟩ := (z0 a z).1
      rw [q] at w1
      cases w1
      rw [hm] at w2
      cases w2
    · cases hm
  · obtain ⟨o, h1, h2⟩ := hm
    rcases mark_of h1 with q | ⟨_, q, _⟩
    · obtain ⟨xs, w⟩ := S.gm a ⟨o, q, h2⟩
      by_cases hz : a ∈ Z
      · exact kl a hz
      · exact ⟨xs, k a _ w (fun z => by rw [z, gp] at q; cases q) hz⟩
    · exact h'.lsts a q
  · refine k a o (S.fr a o q hT hR hZ) (fun z => ?_) fun z => ?_
    · subst z
      rcases S.nw i _ a e rfl hp with y | ⟨f, y⟩
      · rw [q] at y; cases y
      · exact hR i f y
    · rcases (z0 a z).2 with y | y
      · rw [q] at y; cases y
      · exact hZ y
  · rcases mark_of q with q | ⟨q1, q2, _⟩
    · exact S.gn a o q
    · rcases nz a q2 with y | y
      · exact absurd rfl ((z0 a y).1.ne q1)
      · exact .inr (.inl y.2.1)
  · rcases get q with ⟨rfl, rfl⟩ | ⟨hj, q⟩
    · obtain ⟨dx, fs, h1⟩ := h'.main
      exact ⟨.ref p, hp, p, (b.mc, dx), fs, rfl, h1, mark_none gp (pz h')⟩
    · obtain ⟨v, hv, rs⟩ := S.sl j s q
      refine ⟨v, hv, rs.keep s1 fun a u ho ev ha => ?_⟩
      subst ev
      obtain ⟨a', _, e', _, g'⟩ := rs.at ho
      cases e'
      exact kk a u ha g' (fun z => hj (S.sp i j _ s p e q rfl ho hp (by rw [hv, z]))) fun no => no j s q ho hv
  · rcases get q1 with ⟨z1, w1⟩ | ⟨hj, y1⟩
    · rcases get q2 with ⟨z2, w2⟩ | ⟨hk, y2⟩
      · rw [z1, z2]
      · rw [z1] at a1 ⊢
        exact S.sp i l _ sl a e y2 rfl o2 a1 a2
    · rcases get q2 with ⟨z2, w2⟩ | ⟨hk, y2⟩
      · rw [z2] at a2 ⊢
        exact S.sp j i sj _ a y1 e o1 rfl a1 a2
      · exact S.sp j l sj sl a y1 y2 o1 o2 a1 a2
  · rcases get q with ⟨rfl, rfl⟩ | ⟨hj, q⟩
    · exact S.nw _ _ a e rfl a1
    · exact S.nw j s a q o1 a1
  · obtain ⟨h1, s, h2, h3⟩ := S.rf j a f hj
    by_cases z : i = j
    · subst z
      rw [e] at h2
      cases h2
      exact ⟨h1, .mt r m', by rw [getElem?_set_eq', if_pos rfl, if_pos hil], rfl, h3.2⟩
    · exact ⟨h1, s, by rw [List.getElem?_set_ne z]; exact h2, h3⟩
  · obtain ⟨ps, h1, h2, h3⟩ := S.tb t ht
    have ne : ∀ {a : Addr} {o : HO}, H a = some o → (∀ xs, o ≠ .lst xs) → (∀ C dx fs, o ≠ .ins C dx fs) → H' a = some o := fun {a o} q n1 n2 => by
      refine k a o q (fun z => ?_) fun z => ?_
      · subst z
        obtain ⟨dx, fs, w⟩ := hM.main
        rw [q] at w
        exact n2 _ _ _ (Option.some.inj w)
      · obtain ⟨xs, w⟩ := hM.lsts a z
        rw [q] at w
        exact n1 _ (Option.some.inj w)
    refine ⟨ps, ne h1 (fun _ z => by cases z) (fun _ _ _ z => by cases z), h2, fun pos cv hc => ?_⟩
    obtain ⟨kk, e1, e2⟩ := h3 pos cv hc
    exact ⟨kk, e1, ne e2 (fun _ z => by cases z) (fun _ _ _ z => by cases z)⟩
  · have ej : j = i := lent q1 rfl
    subst ej
    rw [hp] at q2
    cases q2
    rcases get q1 with ⟨_, z⟩ | ⟨z, _⟩
    · cases z
      refine ⟨Z', h', fun q hq => ?_⟩
      rcases nz q hq with y | y
      · exact ⟨(z0 q y).1.mono s1, (z0 q y).2⟩
      · exact ⟨mark_in hq (.inr y.1), .inl y.2.1⟩
    · exact absurd rfl z
  · have ej : j = i := lent h2 h3
    subst ej
    exact S.rk j a f _ h1 e rfl
theorem SIG.newA (S : SIG b c G ρ σ H) {q : Addr} (h : H q = none) : G q = none ∧ c.H0 q = none ∧ NoOwn ρ σ q := ⟨S.free h, S.fresh0 h, S.noOwn h⟩
theorem SIG.born0 (S : SIG b c G ρ σ H) {i : Nat} {m : Ms} {p : Addr} {Z : List Addr} {H' : Hp} (e : ρ[i]? = some none) (hp : σ[i]? = some (some (.ref p))) (nm : ∀ (j : Nat) (s : Sv), ρ[j]? = some (some s) → s.isMt = false) (np : H p = none) (h' : MeterAt b.mc H' p m Z)
    (k : ∀ a o, H a = some o → H' a = some o) (nz : ∀ q ∈ Z, H q = none) : Same G (mark G Z) ∧ SIG b c (mark G Z) (ρ.set i (some (.mt false m))) σ H' := by
  have hil : i < ρ.length := (List.getElem?_eq_some_iff.mp e).1
  have get : ∀ {j : Nat} {s : Sv}, (ρ.set i (some (.mt false m)))[j]? = some (some s) → (j = i ∧ s = .mt false m) ∨ (i ≠ j ∧ ρ[j]? = some (some s)) := fun {j s} q => by
    by_cases hj : i = j
    · subst hj
      rw [getElem?_set_eq', if_pos rfl, if_pos hil] at q
      cases q
      exact .inl ⟨rfl, rfl⟩
    · rw [List.getElem?_set_ne hj] at q
      exact .inr ⟨hj, q⟩
  have s1 := mark_same G Z
  have gp : G p = none := S.free np
  have pz : p ∉ Z := fun q => by
    obtain ⟨dx, fs, h1⟩ := h'.main
    obtain ⟨xs, h2⟩ := h'.lsts p q
    rw [h1] at h2
    cases h2
  have lent : ∀ {j : Nat} {s : Sv}, (ρ.set i (some (.mt false m)))[j]? = some (some s) → s.isMt = true → j = i := fun {j s} q hs => by
    rcases get q with ⟨z, _⟩ | ⟨_, z⟩
    · exact z
    · rw [nm j s z] at hs
      cases hs
  have no := S.noOwn np
  refine ⟨s1, by rw [List.length_set]; exact S.len, S.g0.trans s1, fun a o q hm => ?_, fun a hm => ?_, fun a o q hT hR hZ => k a o (S.fr a o q hT hR hZ), fun a o q => ?_, fun j s q => ?_, fun j l sj sl a q1 q2 o1 o2 a1 a2 => ?_, fun j s a q o1 a1 => ?_, fun j a f hj => ?_, S.tb.ext k, S.ct, fun j rj mj a q1 q2 => ?_, fun j l sj sl q1 q2 g1 g2 => (lent q1 g1).trans (lent q2 g2).symm, S.zz, fun j a f s h1 h2 h3 => ?_⟩
  · rcases mark_of q with q | ⟨_, _, rfl⟩
    · exact k a o (S.gh a o q hm)
    · cases hm
  · obtain ⟨o, h1, h2⟩ := hm
    rcases mark_of h1 with q | ⟨_, q, _⟩
    · obtain ⟨xs, w⟩ := S.gm a ⟨o, q, h2⟩
      exact ⟨xs, k a _ w⟩
    · exact h'.lsts a q
  · rcases mark_of q with q | ⟨q1, q2, _⟩
    · exact S.gn a o q
    · exact .inr (.inl (S.fresh0 (nz a q2)))
  · rcases get q with ⟨rfl, rfl⟩ | ⟨hj, q⟩
    · obtain ⟨dx, fs, h1⟩ := h'.main
      exact ⟨.ref p, hp, p, (b.mc, dx), fs, rfl, h1, mark_none gp pz⟩
    · obtain ⟨v, hv, rs⟩ := S.sl j s q
      refine ⟨v, hv, rs.keep s1 fun a u ho ev ha => ⟨k a u ha, ?_⟩⟩
      subst ev
      obtain ⟨a', _, e', _, g'⟩ := rs.at ho
      cases e'
      exact mark_none g' fun z => by rw [nz a z] at ha; cases ha
  · rcases get q1 with ⟨z1, w1⟩ | ⟨hj, y1⟩
    · rcases get q2 with ⟨z2, w2⟩ | ⟨hk, y2⟩
      · rw [z1, z2]
      · rw [z1, hp] at a1
        cases a1
        exact absurd a2 (no l sl y2 o2)
    · rcases get q2 with ⟨z2, w2⟩ | ⟨hk, y2⟩
      · rw [z2, hp] at a2
        cases a2
        exact absurd a1 (no j sj y1 o1)
      · exact S.sp j l sj sl a y1 y2 o1 o2 a1 a2
  · rcases get q with ⟨rfl, rfl⟩ | ⟨hj, q⟩
    · rw [hp] at a1
      cases a1
      exact .inl (S.fresh0 np)
    · exact S.nw j s a q o1 a1
  · obtain ⟨h1, s, h2, h3⟩ := S.rf j a f hj
    have z : i ≠ j := fun z => by
      subst z
      rw [e] at h2
      cases h2
    exact ⟨h1, s, by rw [List.getElem?_set_ne z]; exact h2, h3⟩
  · have ej : j = i := lent q1 rfl
    subst ej
    rw [hp] at q2
    cases q2
    rcases get q1 with ⟨_, z⟩ | ⟨z, _⟩
    · cases z
      exact ⟨Z, h', fun q hq => ⟨mark_in hq (.inr (S.free (nz q hq))), .inl (S.fresh0 (nz q hq))⟩⟩
    · exact absurd rfl z
  · have ej : j = i := lent h2 h3
    subst ej
    obtain ⟨_, s', w, _⟩ := S.rf j a f h1
    rw [e] at w
    cases w
theorem SIG.born (S : SIG b c G ρ σ H) {i : Nat} {m : Ms} {p : Addr} {Z : List Addr} {H' : Hp} (op : Open c ρ i) (hil : i < ρ.length) (nm : ∀ (j : Nat) (s : Sv), ρ[j]? = some (some s) → s.isMt = false) (np : H p = none) (h' : MeterAt b.mc H' p m Z)
    (k : ∀ a o, H a = some o → H' a = some o) (nz : ∀ q ∈ Z, H q = none) : Same G (mark G Z) ∧ SIG b c (mark G Z) (ρ.set i (some (.mt false m))) (σ.set i (some (.ref p))) H' := by
  have D := S.drop op (some (.ref p))
  have r := D.born0 (i := i) (by rw [getElem?_set_eq', if_pos rfl, if_pos hil]) (by rw [getElem?_set_eq', if_pos rfl, if_pos (by rw [← S.len]; exact hil)]) (fun j s q => by
    by_cases hj : i = j
    · subst hj
      rw [getElem?_set_eq', if_pos rfl] at q
      split at q <;> cases q
    · rw [List.getElem?_set_ne hj] at q
      exact nm j s q) np h' k nz
  rw [List.set_set] at r
  exact r
end
/-! methods of a meter -/
def mtAt : Option (Option Sv) → Option (Bool × Ms)
  | some (some (.mt r m)) => some (r, m)
  | _ => none
theorem mtAt_of {o : Option (Option Sv)} {r : Bool} {m : Ms} (h : mtAt o = some (r, m)) : o = some (some (.mt r m)) := by
  unfold mtAt at h
  split at h
  · cases h; rfl
  · cases h
theorem mf_no {a b c : Addr} {x : Str} (h1 : ¬ x = "names") (h2 : ¬ x = "told") (h3 : ¬ x = "past") : (mf a b c).lookup x = none := by
  unfold mf
  have n1 : (x == ("names" : Str)) = false := beq_eq_false_iff_ne.mpr h1
  have n2 : (x == ("told" : Str)) = false := beq_eq_false_iff_ne.mpr h2
  have n3 : (x == ("past" : Str)) = false := beq_eq_false_iff_ne.mpr h3
  simp only [List.lookup_cons, n1, n2, n3, List.lookup_nil]
section
variable {X : Cx} {CX : CXT} {k : Nat} {f C : Addr} {fd : FuncData} {ps : List Str} {sp : Sp} {E : St → XK} {m : Str} {pos apos : Pos} {e o : Expr} {es : List Expr} {ta : TE} {t : TA}
def tMeS (C : Addr) (m : Str) (sp : Sp) (E : St → XK) (ta : TE) (t : TA) : TE := fun σ H Q => ta σ H fun x H1 => ∃ p dx fs, x = .ref p ∧ H1 p = some (.ins C dx fs) ∧ fs.lookup m = none ∧ t σ H1 fun ws H2 => sp (x :: ws) H2 Q (E σ)
theorem pe_meS {pl : Sem Bool} (ho : PE X o ta) (cl : Cls X.K C) (me : Meth X.K C m f) (F : FnOk X.prog X.w X.K X.mg X.base CX k f fd ps sp) (hr : Room k X.A) (hb : Binds X.K fd ps []) (hx : ∀ σ, PassesAt CX X σ (E σ)) (ha : PA X (e :: es) t)
    (h1 : starEach (e :: es) X.env = (false, eval e X.env) :: starEach es X.env := by rfl) (h2 : (backTo pos (starEach es X.env)).any (·.1) = false := by rfl)
    (h3 : eval (.Call (.Attribute o m apos) (e :: es) [] pos) X.env = (do
      let v ← eval o X.env
      standAt apos.atName
      let (g, fst) ← holding [v] (getMethod v m pl)
      callWith pos g fst (backTo pos (starEach (e :: es) X.env)) (backToKw pos (keywordEach [] X.env))) := by rfl) : PE X (.Call (.Attribute o m apos) (e :: es) [] pos) (tMeS C m sp E ta t) := ⟨fun pins s σ H Q I h => by
  refine PySem.W.methodCall_KW (pl := pl) (thn (ho.run pins s σ H _ I h) fun v s1 ⟨y, H1, I1, ry, p, dx, fs, ey, hp, l, q⟩ => ?_) h3
  subst ey
  cases ry
  refine getmeth_ok I1 hp cl me l (PySem.W.callWith_K (first := [.ref p]) (h₀ := X.base) I.ok.mod.kin me.kp (thn (ha.run pos pins s1 σ H1 _ I1 q) fun us s2 ⟨ws, H2, I2, rw_, q2⟩ => ⟨I2.kIn, ?_⟩) h1 h2)
  exact run_fnS (us := .ref p :: us) (vs := .ref p :: ws) F hr hb (hx σ) I2 (.cons rfl rw_) q2⟩
theorem pe_meS0 {pl : Sem Bool} (ho : PE X o ta) (cl : Cls X.K C) (me : Meth X.K C m f) (F : FnOk X.prog X.w X.K X.mg X.base CX k f fd ps sp) (hr : Room k X.A) (hb : Binds X.K fd ps []) (hx : ∀ σ, PassesAt CX X σ (E σ))
    (h3 : eval (.Call (.Attribute o m apos) [] [] pos) X.env = (do
      let v ← eval o X.env
      standAt apos.atName
      let (g, fst) ← holding [v] (getMethod v m pl)
      callWith pos g fst (backTo pos (starEach [] X.env)) (backToKw pos (keywordEach [] X.env))) := by rfl) : PE X (.Call (.Attribute o m apos) [] [] pos) (tMeS C m sp E ta tNil) := ⟨fun pins s σ H Q I h => by
  refine PySem.W.methodCall_KW (pl := pl) (thn (ho.run pins s σ H _ I h) fun v s1 ⟨y, H1, I1, ry, p, dx, fs, ey, hp, l, q⟩ => ?_) h3
  subst ey
  cases ry
  exact getmeth_ok I1 hp cl me l (PySem.W.callWith_K0 (first := [.ref p]) I1.kIn me.kp (run_fnS (us := [.ref p]) (vs := [.ref p]) F hr hb (hx σ) I1 (.cons rfl .nil) q))⟩
end
def methM (n : Nat) (F : Fn) (i : Nat) (fl : M (List Av)) : M Rv := bindM (optM fun ρ => mtAt ρ[i]?) fun _ => bindM fl fun as => callF n F (.s i :: as)
section
variable {X : Cx} {b : Bs} {W : WX} {k n i : Nat} {f : Addr} {fd : FuncData} {ps : List Str} {F : Fn} {x m : Str} {p pos apos : Pos} {e : Expr} {es : List Expr} {fl : M (List Av)}
theorem call_core {c : Fc} {G1 H1 : Hp} {ρ1 : Ev} {σ : St} {as : List Av} {vs : List V} {Q : VK} (S1 : SIG b c G1 ρ1 σ H1) (hvs : Ras b.K G1 σ vs as) (q1 : Post b c W G1 σ (fun r ρ' G' H' => ∀ v, RN b c G' H' v r → Apart ρ' σ v r → Q v H') (callF n F as ρ1)) : spF b n F vs H1 Q (WE W σ) := by
  unfold callF at q1
  split at q1
  · rename_i hc
    cases hres : resolve ρ1 as with
    | none => rw [hres] at q1; exact q1.elim
    | some svs =>
      rw [hres] at q1
      dsimp only at q1
      have S2 := S1.give hvs hc.2 hres
      refine ⟨G1, svs, by rw [Paired.length hvs]; exact hc.1, S2, fun s hs ho => ?_, ?_⟩
      · obtain ⟨j, hj⟩ := List.getElem?_of_mem hs
        obtain ⟨i, s0, h1, h2, h3, rfl, _⟩ := arg_own S1 hvs hres hj ho
        exact ref_mark h3
      · cases hF : F svs with
        | bad => rw [hF] at q1; exact q1.elim
        | err kk outs =>
          rw [hF] at q1
          exact fun H' G' S' => q1 H' G' S'.g0 (S1.take hvs hc.2 hres S')
        | ok rr outs =>
          rw [hF] at q1
          intro v H' G' S' rn
          refine q1 H' G' S'.g0 (S1.take hvs hc.2 hres S') v (rn_inner S1 rn) fun pp ep hn i s es ho a1 => ?_
          obtain ⟨s0, h1, h2⟩ := own_back S1 es ho
          exact S1.noOwn (rn_new rn hn ep) i s0 h1 h2 a1
  · exact q1.elim
theorem meth_core {c : Fc} {G H : Hp} {ρ : Ev} {σ : St} {Q : VK} (hm : ∀ a b c, (mf a b c).lookup m = none) (S : SIG b c G ρ σ H) (q : Post b c W G σ (fun r ρ' G' H' => ∀ v, RN b c G' H' v r → Apart ρ' σ v r → Q v H') (methM n F i fl ρ)) : tMeS b.mc m (spF b n F) (WE W) (tVar i) (tL b W fl) σ H Q := by
  obtain ⟨⟨r, mm⟩, h1, h2⟩ := (Post.bind q).opt S
  have e := mtAt_of h1
  obtain ⟨p, hp, gp, Z, hZ, _⟩ := S.mtr e
  obtain ⟨dx, a, b', c', vs, z, hM, _⟩ := hZ
  exact ⟨.ref p, hp, p, dx, _, rfl, hM.ins, hm _ _ _, c, G, ρ, S, (Post.bind h2).imp fun as ρ1 G1 H1 e1 S1 q1 ws hws => call_core (as := .s i :: as) (vs := .ref p :: ws) S1 (.cons hp hws) q1⟩
theorem m_meth {pl : Sem Bool} (cl : Cls X.K b.mc) (me : Meth X.K b.mc m f) (FN : FnOk X.prog X.w X.K X.mg X.base (L2.CX X.prog X.w) k f fd ps (spF b n F)) (hr : Room k X.A) (hb : Binds X.K fd ps []) (tk : Takes X W) (hm : ∀ a b c, (mf a b c).lookup m = none) (hv : PE X (.Name x p) (tVar i)) (ha : PA X (e :: es) (tL b W fl))
    (h1 : starEach (e :: es) X.env = (false, eval e X.env) :: starEach es X.env := by rfl) (h2 : (backTo pos (starEach es X.env)).any (·.1) = false := by rfl)
    (h3 : eval (.Call (.Attribute (.Name x p) m apos) (e :: es) [] pos) X.env = (do
      let v ← eval (.Name x p) X.env
      standAt apos.atName
      let (g, fst) ← holding [v] (getMethod v m pl)
      callWith pos g fst (backTo pos (starEach (e :: es) X.env)) (backToKw pos (keywordEach [] X.env))) := by rfl) : PE X (.Call (.Attribute (.Name x p) m apos) (e :: es) [] pos) (tV b W (methM n F i fl)) :=
  weakE (pe_meS hv cl me FN hr hb (fun σ => passAt tk σ) ha h1 h2 h3) fun σ H Q ⟨c, G, ρ, S, q⟩ => meth_core hm S q
theorem m_meth0 {pl : Sem Bool} (cl : Cls X.K b.mc) (me : Meth X.K b.mc m f) (FN : FnOk X.prog X.w X.K X.mg X.base (L2.CX X.prog X.w) k f fd ps (spF b n F)) (hr : Room k X.A) (hb : Binds X.K fd ps []) (tk : Takes X W) (hm : ∀ a b c, (mf a b c).lookup m = none) (hv : PE X (.Name x p) (tVar i))
    (h3 : eval (.Call (.Attribute (.Name x p) m apos) [] [] pos) X.env = (do
      let v ← eval (.Name x p) X.env
      standAt apos.atName
      let (g, fst) ← holding [v] (getMethod v m pl)
      callWith pos g fst (backTo pos (starEach [] X.env)) (backToKw pos (keywordEach [] X.env))) := by rfl) : PE X (.Call (.Attribute (.Name x p) m apos) [] [] pos) (tV b W (methM n F i (retM []))) :=
  weakE (pe_meS0 hv cl me FN hr hb (fun σ => passAt tk σ) h3) fun σ H Q ⟨c, G, ρ, S, q⟩ => by
    obtain ⟨v, hv, p, dx, fs, ev, hp, l, c1, G1, ρ1, S1, q1⟩ := meth_core hm S q
    exact ⟨v, hv, p, dx, fs, ev, hp, l, q1.ret S1 [] .nil⟩
end
end G8
namespace G8
open PySem L2
/-! fields of a meter -/
def oD : Option Int → Dt
  | none => .none
  | some i => .int i
def fNm : Nat → Str
  | 0 => "names"
  | 1 => "told"
  | _ => "past"
def fLs (m : Ms) : Nat → List Dt
  | 0 => m.names.map PyData.int
  | _ => m.told.map oD
theorem rp_oD {K : Fg} {G : Hp} (o : Option Int) : Rp K G (vO o) (oD o) := by
  cases o with
  | none => exact .non
  | some i => exact .int i
theorem rps_oD {K : Fg} {G : Hp} : ∀ os : List (Option Int), Rps K G (os.map vO) (os.map oD)
  | [] => .nil
  | o :: os => .cons (rp_oD o) (rps_oD os)
theorem mf_0 (a b c : Addr) : (mf a b c).lookup (fNm 0) = some (.ref a) := rfl
theorem mf_1 (a b c : Addr) : (mf a b c).lookup (fNm 1) = some (.ref b) := rfl
theorem mf_2 (a b c : Addr) : (mf a b c).lookup (fNm 2) = some (.ref c) := rfl
theorem pf_0 (a b c d : Addr) : putF (fNm 0) (.ref d) (mf a b c) = mf d b c := rfl
theorem pf_1 (a b c d : Addr) : putF (fNm 1) (.ref d) (mf a b c) = mf a d c := rfl
structure McOk (K : Fg) (C : Addr) : Prop where
  cl : Cls K C
  no : ∀ k, NoAttr K C (fNm k)
theorem SIG.fld {b : Bs} {c : Fc} {G H : Hp} {ρ : Ev} {σ : St} (S : SIG b c G ρ σ H) {i : Nat} {r : Bool} {m : Ms} (e : ρ[i]? = some (some (.mt r m))) {k : Nat} (hk : k < 2) : ∃ p dx fs l vl, σ[i]? = some (some (.ref p)) ∧ H p = some (.ins b.mc dx fs) ∧ fs.lookup (fNm k) = some (.ref l) ∧ H l = some (.lst vl) ∧ Rps b.K G vl (fLs m k) := by
  obtain ⟨p, hp, _, Z, ⟨dx, a, b', c', vs, z, hM, _⟩, _⟩ := S.mtr e
  match k, hk with
  | 0, _ => exact ⟨p, dx, _, a, _, hp, hM.ins, mf_0 _ _ _, hM.na, Rps.of_ints _⟩
  | 1, _ => exact ⟨p, dx, _, b', _, hp, hM.ins, mf_1 _ _ _, hM.to, rps_oD _⟩
def tO (b : Bs) (W : WX) (f : M Dt) : TE := fun σ H Q => ∃ c G ρ, SIG b c G ρ σ H ∧ Post b c W G σ (fun x _ G' H' => ∀ v, RO b.K G' H' v x → Q v H') (f ρ)
def fldM (i k : Nat) : M Dt := optM fun ρ => match mtAt ρ[i]? with
  | some (_, m) => if k < 2 then some (.list (fLs m k)) else none
  | none => none
section
variable {X : Cx} {b : Bs} {W : WX} {i k j : Nat} {x : Str} {px pa pos cpos : Pos} {a e : Expr} {fa : M Av} {fo : M Dt}
theorem m_fld (hK : X.K = b.K) (mc : McOk b.K b.mc) (hv : PE X (.Name x px) (tVar i)) : PE X (.Attribute (.Name x px) (fNm k) pa) (tO b W (fldM i k)) := weakE (pe_fld hv rfl) fun σ H Q ⟨c, G, ρ, S, q⟩ => by
  obtain ⟨d, h1, h2⟩ := q.opt S
  cases hm : mtAt ρ[i]? with
  | none => rw [hm] at h1; cases h1
  | some rm =>
    obtain ⟨r, m⟩ := rm
    rw [hm] at h1
    dsimp only at h1
    split at h1
    · rename_i hk
      cases h1
      obtain ⟨p, dx, fs, l, vl, s1, s2, s3, s4, s5⟩ := S.fld (mtAt_of hm) hk
      exact ⟨.ref p, s1, p, b.mc, dx, fs, .ref l, rfl, s2, by rw [hK]; exact mc.cl, by rw [hK]; exact mc.no k, s3, h2 _ (.inr ⟨l, vl, _, rfl, rfl, s4, s5⟩)⟩
    · cases h1
/-- a comparison whose right side is a field -/
def cmpTO (g : Dt → Dt → Option Bool) (fa : M Av) (fo : M Dt) : M Bool := bindM fa fun a => bindM fo fun y => optM fun ρ => (res ρ a).bind fun x => g x y
theorem m_tcmpO {a2 : Expr} {op : CmpOp} {r : R2} {g : Dt → Dt → Option Bool} (ho : OpR X (compareOp op) r) (t : Tells b r g) (ha : PE X a (tE b W fa)) (hb : PE X a2 (tO b W fo)) (hm : behindInMarks op a2 = false) : PT X (.Compare a [op] [a2] pos) (tT b W (cmpTO g fa fo)) :=
  weakT (pt_cmpR ho ha hb hm) fun σ H Q ⟨c, G, ρ, S, q⟩ => ⟨c, G, ρ, S, (Post.bind q).imp fun xa ρ1 G1 H1 e1 S1 q1 v hv => ⟨c, G1, ρ1, S1, (Post.bind q1).imp fun y ρ2 G2 H2 e2 S2 q2 u hu => by
    obtain ⟨z, h1, h2⟩ := q2.opt S2
    cases hx : res ρ2 xa with
    | none => rw [hx] at h1; cases h1
    | some xx =>
      rw [hx] at h1
      exact t S2 ((hv.mono e2).res S2 hx) hu h1 ⟨z, rfl, h2⟩⟩⟩
/-- len of a field -/
def lenO (fo : M Dt) : M Av := bindM fo fun y => match y with
  | .list xs => retM (.d (.int xs.length))
  | _ => badM
theorem m_lenO {p1 : Pos} (hK : X.K = b.K) (hg : Gl X "len") (hz : X.mg "len" = none) (ho : PE X e (tO b W fo)) (hs : starEach [e] X.env = (false, eval e X.env) :: starEach [] X.env := by rfl) : PE X (.Call (.Name "len" p1) [e] [] pos) (tE b W (lenO fo)) :=
  weakE (pe_callB call_len_seq hg hz PySem.boot_len (pa_cons ho pa_nil hs) (he := hs)) fun σ H Q ⟨c, G, ρ, S, q⟩ => ⟨c, G, ρ, S, (Post.bind q).imp fun y ρ1 G1 H1 e1 S1 q1 v hv => by
    cases y with
    | list xs =>
      obtain ⟨p, vs, rfl, h1, h2⟩ := hv.list S1.gh
      exact ⟨p, vs, rfl, .inl (SqL.of h1), by rw [h2.length]; exact q1.ret S1 _ (.int _)⟩
    | _ => exact q1.elim⟩
/-- list(field) -/
def listO (fo : M Dt) : M Rv := bindM fo fun y => match y with
  | .list xs => retM (.l xs)
  | _ => badM
theorem m_listO {p1 : Pos} (hK : X.K = b.K) (hg : Gl X "list") (hz : X.mg "list" = none) (ho : PE X e (tO b W fo)) (hs : starEach [e] X.env = (false, eval e X.env) :: starEach [] X.env := by rfl) : PE X (.Call (.Name "list" p1) [e] [] pos) (tV b W (listO fo)) :=
  weakE (pe_callTy call_list_of hg hz (by decide +kernel) (pa_cons ho pa_nil hs) (he := hs)) fun σ H Q ⟨c, G, ρ, S, q⟩ => ⟨c, G, ρ, S, (Post.bind q).imp fun y ρ1 G1 H1 e1 S1 q1 v hv => by
    cases y with
    | list xs =>
      obtain ⟨p, vs, rfl, h1, h2⟩ := hv.list S1.gh
      refine ⟨p, vs, rfl, .inl (SqL.of h1), fun l hl => ?_⟩
      exact q1 _ G1 (Same.refl G1) (S1.alloc hl) (.ref l) ⟨l, vs, rfl, upd_same, S1.free hl, h2, S1.fresh0 hl⟩ fun p' e' _ => by cases e'; exact S1.noOwn hl
    | _ => exact q1.elim⟩
/-- truth of the field past -/
def truP (i : Nat) : M Bool := optM fun ρ => (mtAt ρ[i]?).map fun rm => !rm.2.past.isEmpty
theorem Pasts.emp {H : Hp} {vs : List V} {qs : List (List Int × List (Option Int))} {z : List Addr} (h : Pasts H vs qs z) : vs.isEmpty = qs.isEmpty := by
  cases h <;> rfl
theorem m_truP (hK : X.K = b.K) (mc : McOk b.K b.mc) (hv : PE X (.Name x px) (tVar i)) (he : ∀ whole, isTrue (.Attribute (.Name x px) (fNm 2) pa) X.env whole = (do let v ← whole; standAt (Expr.Attribute (.Name x px) (fNm 2) pa).pos; holding [v] (truthy v)) := by intro _; rfl) : PT X (.Attribute (.Name x px) (fNm 2) pa) (tT b W (truP i)) := weakT (pt_truth (pe_fld hv rfl) he) fun σ H Q ⟨c, G, ρ, S, q⟩ => by
  obtain ⟨d, h1, h2⟩ := q.opt S
  cases hm : mtAt ρ[i]? with
  | none => rw [hm] at h1; cases h1
  | some rm =>
    obtain ⟨r, m⟩ := rm
    rw [hm] at h1
    cases h1
    obtain ⟨p, hp, _, Z, ⟨dx, a, b', c', vs, z, hM, _⟩, _⟩ := S.mtr (mtAt_of hm)
    refine ⟨.ref p, hp, p, b.mc, dx, _, .ref c', rfl, hM.ins, by rw [hK]; exact mc.cl, by rw [hK]; exact mc.no 2, mf_2 _ _ _, _, .inl ⟨vs, SqL.of hM.pa, rfl⟩, ?_⟩
    rw [hM.ps.emp]
    exact h2
/-- field.index(name), the name a slot -/
def idxF (i k j : Nat) : M Av := optM fun ρ => match mtAt ρ[i]?, slotZ ρ[j]? with
  | some (_, m), some d => if k < 2 && shal d then (indexD (fLs m k) d).map fun z => .d (.int z) else none
  | _, _ => none
theorem fLs_plain {K : Fg} {G : Hp} (m : Ms) (k : Nat) : PyData.plainAll (fLs m k) = true := by
  match k with
  | 0 => exact Rps.plain (K := K) (G := G) _ _ (Rps.of_ints m.names)
  | n + 1 => exact Rps.plain (K := K) (G := G) _ _ (rps_oD m.told)
theorem m_idxF {pj : Pos} {y : Str} (hK : X.K = b.K) (mc : McOk b.K b.mc) (hu : X.A.units + 64 < cLine) (hv : PE X (.Name x px) (tVar i)) (hj : PE X (.Name y pj) (tVar j))
    (hp : ∀ {to : TE} {t : TA} {r : V → List V → Hp → VK → Prop}, MtR X "list.index" r → PE X (.Attribute (.Name x px) (fNm k) pa) to → PA X [.Name y pj] t → PE X (.Call (.Attribute (.Attribute (.Name x px) (fNm k) pa) "index" pos) [.Name y pj] [] cpos) (tBM X.K "list" r to t)) :
    PE X (.Call (.Attribute (.Attribute (.Name x px) (fNm k) pa) "index" pos) [.Name y pj] [] cpos) (tE b W (idxF i k j)) := weakE (hp (c_index hu) (pe_fld hv rfl) (pa_cons hj pa_nil)) fun σ H Q ⟨c, G, ρ, S, q⟩ => by
  obtain ⟨d, h1, h2⟩ := q.opt S
  cases hm : mtAt ρ[i]? with
  | none => rw [hm] at h1; cases h1
  | some rm =>
    obtain ⟨r, m⟩ := rm
    rw [hm] at h1
    cases hz : slotZ ρ[j]? with
    | none => rw [hz] at h1; cases h1
    | some dj =>
      rw [hz] at h1
      dsimp only at h1
      split at h1
      · rename_i hk
        rw [Bool.and_eq_true, decide_eq_true_eq] at hk
        cases hg : indexD (fLs m k) dj with
        | none => rw [hg] at h1; cases h1
        | some n =>
          rw [hg] at h1
          cases h1
          obtain ⟨p, dx, fs, l, vl, s1, s2, s3, s4, s5⟩ := S.fld (mtAt_of hm) hk.1
          have hsj : ρ[j]? = some (some (.d dj)) := by
            unfold slotZ at hz
            split at hz
            · cases hz; assumption
            · cases hz
          obtain ⟨w, hw, rw_⟩ := S.sl j _ hsj
          have rl : RO b.K G H (.ref l) (.list (fLs m k)) := .inr ⟨l, vl, _, rfl, rfl, s4, s5⟩
          have rj : RO b.K G H w dj := .inl rw_
          refine ⟨.ref p, s1, p, b.mc, dx, fs, .ref l, rfl, s2, by rw [hK]; exact mc.cl, by rw [hK]; exact mc.no k, s3, .inl ⟨rfl, vl, SqL.of s4⟩, w, hw, ?_⟩
          rw [hK]
          exact ⟨l, w, dj, _, n, rfl, rfl, rl.dp S.gh, rj.dp S.gh, rl.plain, rj.plain, sh_of hk.2, hg, h2 _ (.int n)⟩
      · cases h1
/-- [y for y in field if ..] -/
def filtO (p : Dt → Option Bool) : List Dt → Option (List Dt)
  | [] => some []
  | d :: ds => (p d).bind fun k => (filtO p ds).map fun r => if k then d :: r else r
theorem filtO_snoc (p : Dt → Option Bool) : ∀ (ds : List Dt) (d : Dt) (r : List Dt) (k : Bool), filtO p ds = some r → p d = some k → filtO p (ds ++ [d]) = some (if k then r ++ [d] else r)
  | [], d, r, k, h1, h2 => by
    cases h1
    show (p d).bind _ = _
    rw [h2]
    cases k <;> rfl
  | y :: ds, d, r, k, h1, h2 => by
    unfold filtO at h1
    cases hp : p y with
    | none => rw [hp] at h1; cases h1
    | some ky =>
      rw [hp] at h1
      cases hf : filtO p ds with
      | none => rw [hf] at h1; cases h1
      | some r' =>
        rw [hf] at h1
        cases h1
        show (p y).bind _ = _
        rw [hp]
        have ih := filtO_snoc p ds d r' k hf h2
        show ((filtO p (ds ++ [d])).map _) = _
        rw [ih]
        cases ky <;> cases k <;> rfl
theorem filtO_take {p : Dt → Option Bool} {ds r : List Dt} (h : filtO p ds = some r) : ∀ (n : Nat) (d : Dt), ds[n]? = some d → ∃ k, p d = some k := by
  induction ds generalizing r with
  | nil => intro n d e; simp at e
  | cons y ds ih =>
    intro n d e
    unfold filtO at h
    cases hp : p y with
    | none => rw [hp] at h; cases h
    | some ky =>
      rw [hp] at h
      cases hf : filtO p ds with
      | none => rw [hf] at h; cases h
      | some r' =>
        cases n with
        | zero =>
          simp at e
          subst e
          exact ⟨ky, hp⟩
        | succ n => exact ih hf n d (by simpa using e)
def lcF (i k v : Nat) (pr : Ev → Dt → Option Bool) : M Rv := fun ρ => match mtAt ρ[i]? with
  | some (_, m) => if k < 2 ∧ ownAt ρ[v]? = false ∧ v < ρ.length ∧ (fLs m k).length ≤ 1000 then (match filtO (pr ρ) (fLs m k) with
    | some r => .ok (.l r) ρ
    | none => .bad) else .bad
  | none => .bad
theorem m_lcF {elt tg : Expr} {ifs : List Expr} {scope : Scope} {y : Str} {v : Nat} {pr : Ev → Dt → Option Bool} {tt : TT} (hK : X.K = b.K) (mc : McOk b.K b.mc) (hc : X.calm = true) (hN : X.N.Nodup) (hv : PE X (.Name x px) (tVar i)) (ok : BlkOk X.N X.env.scope scope [(y, v)])
    (hg : ∀ (s : Shared) (H : Hp) (C : Addr) (cl : List (Str × Addr)) (fp : List Addr), PG (X.blk s H scope (compEnvC scope cl C X.env) fp) tg (gName v))
    (ht : ∀ (s : Shared) (H : Hp) (C : Addr) (cl : List (Str × Addr)) (fp : List Addr), PTs (X.blk s H scope (compEnvC scope cl C X.env) fp) ifs tt)
    (he : ∀ (s : Shared) (H : Hp) (C : Addr) (cl : List (Str × Addr)) (fp : List Addr), PE (X.blk s H scope (compEnvC scope cl C X.env) fp) elt (tVar v))
    (htt : ∀ {c : Fc} {G H H' : Hp} {ρ : Ev} {σ : St} {d : Dt} {w : V} {kb : Bool} {Q : Bool → Hp → Prop}, SIG b c G ρ σ H → pr ρ d = some kb → Rp b.K G w d → v < σ.length → Q kb H' → tt ((L2.wipe σ [v]).set v (some w)) H' Q) (hs : ∀ z, foldedSetIterable (.Attribute (.Name x px) (fNm k) pa) X.env z = pure z := by intro _; rfl) :
    PE X (.ListComp elt [⟨tg, .Attribute (.Name x px) (fNm k) pa, ifs, 0⟩] scope pos) (tV b W (lcF i k v pr)) := weakE (pe_lc (own := [(y, v)]) hc hN (pi_list (pe_fld hv rfl)) ok hg ht he hs) fun σ H Q ⟨c, G, ρ, S, q⟩ => by
  unfold lcF at q
  cases hm : mtAt ρ[i]? with
  | none => rw [hm] at q; exact q.elim
  | some rm =>
    obtain ⟨r, m⟩ := rm
    rw [hm] at q
    dsimp only at q
    split at q
    · rename_i hk
      obtain ⟨hk, ho, hvl, hlen⟩ := hk
      cases hf : filtO (pr ρ) (fLs m k) with
      | none => rw [hf] at q; exact q.elim
      | some rr =>
        rw [hf] at q
        obtain ⟨p, dx, fs, l, vl, s1, s2, s3, s4, s5⟩ := S.fld (mtAt_of hm) hk
        refine ⟨.ref p, s1, p, b.mc, dx, fs, .ref l, rfl, s2, by rw [hK]; exact mc.cl, by rw [hK]; exact mc.no k, s3, l, rfl, ⟨vl, SqL.of s4⟩, fun D hD => ?_⟩
        have hlv := s5.length
        have hvs : v < σ.length := by rw [← S.len]; exact hvl
        have nl : l ≠ D := ne_of_none s4 hD
        refine lc_list (K := X.K) (a := l) (xs := vl) (fun n H' => ∃ acc ds', H' = upd H D (.lst acc) ∧ filtO (pr ρ) ((fLs m k).take n) = some ds' ∧ Rps b.K G acc ds' ∧ acc.length ≤ n) ⟨[], [], rfl, rfl, .nil, Nat.le_refl _⟩ (fun n H' _ ⟨acc, ds', e1, _⟩ => by rw [e1]; exact SqL.of (by rw [upd_ne nl]; exact s4)) (fun n w H' hw ⟨acc, ds', e1, e2, e3, e4⟩ => ?_) fun H' ⟨acc, ds', e1, e2, e3, _⟩ => ?_
        · obtain ⟨d, hd, rd⟩ := s5.getV hw
          obtain ⟨kb, hkb⟩ := filtO_take hf n d hd
          subst e1
          have hn : n < (fLs m k).length := (List.getElem?_eq_some_iff.mp hd).1
          have tk : (fLs m k).take (n + 1) = (fLs m k).take n ++ [d] := by
            rw [List.take_succ_eq_append_getElem hn]
            rw [List.getElem?_eq_getElem hn] at hd
            rw [Option.some.inj hd]
          have e5 := filtO_snoc (pr ρ) _ d ds' kb e2 hkb
          rw [← tk] at e5
          refine ⟨?_, htt S hkb rd hvs ?_⟩
          · show ((L2.wipe σ [v]).set v (some w)).set v none = (σ.set v none)
            show ((σ.set v none).set v (some w)).set v none = σ.set v none
            rw [List.set_set, List.set_set]
          · cases kb with
            | false => exact iteF ⟨acc, ds', rfl, e5, e3, by omega⟩
            | true =>
              refine iteT ⟨w, ?_, acc, upd_same, ?_, acc ++ [w], ds' ++ [d], by rw [upd_upd], e5, e3.append (.cons rd .nil), by simp; omega⟩
              · rw [getElem?_set_eq', if_pos rfl, if_pos (by rw [wipe_length]; exact hvs)]
              · exact Nat.lt_of_le_of_lt (Nat.le_trans e4 (Nat.le_trans (Nat.le_of_lt hn) hlen)) (by decide)
        · subst e1
          rw [hlv, List.take_length, hf] at e2
          cases e2
          exact q _ G (Same.refl G) (S.alloc hD) (.ref D) ⟨D, acc, rfl, upd_same, S.free hD, e3, S.fresh0 hD⟩ fun p' e' _ => by cases e'; exact S.noOwn hD
    · exact q.elim
end
end G8
namespace G8
open PySem L2
/-! meters that change -/
theorem Pasts.snoc {H : Hp} {t l m : Addr} {q : List Int × List (Option Int)} (h1 : H t = some (.tup [.ref l, .ref m])) (h2 : H l = some (.lst (q.1.map V.int))) (h3 : H m = some (.lst (q.2.map vO))) : ∀ {vs : List V} {qs : List (List Int × List (Option Int))} {z : List Addr}, Pasts H vs qs z → Pasts H (vs ++ [.ref t]) (qs ++ [q]) (z ++ [l, m])
  | _, [], _, h => by
    cases h
    exact .cons h1 h2 h3 .nil
  | _, q' :: qs, _, h => by
    cases h with
    | cons a1 a2 a3 a4 => exact .cons a1 a2 a3 (a4.snoc h1 h2 h3)
theorem Pasts.unsnoc {H : Hp} {q : List Int × List (Option Int)} : ∀ {vs : List V} {qs : List (List Int × List (Option Int))} {z : List Addr}, Pasts H vs (qs ++ [q]) z → ∃ vs' t l m z', vs = vs' ++ [.ref t] ∧ z = z' ++ [l, m] ∧ Pasts H vs' qs z' ∧ H t = some (.tup [.ref l, .ref m]) ∧ H l = some (.lst (q.1.map V.int)) ∧ H m = some (.lst (q.2.map vO))
  | _, [], _, h => by
    cases h with
    | cons a1 a2 a3 a4 =>
      cases a4
      exact ⟨[], _, _, _, [], rfl, rfl, .nil, a1, a2, a3⟩
  | _, q' :: qs, _, h => by
    cases h with
    | cons a1 a2 a3 a4 =>
      obtain ⟨vs', t, l, m, z', rfl, rfl, b1, b2, b3, b4⟩ := a4.unsnoc
      exact ⟨_ :: vs', t, l, m, _ :: _ :: z', rfl, rfl, .cons a1 a2 a3 b1, b2, b3, b4⟩
theorem Pasts.len {H : Hp} : ∀ {vs : List V} {qs : List (List Int × List (Option Int))} {z : List Addr}, Pasts H vs qs z → vs.length = qs.length
  | _, [], _, h => by cases h; rfl
  | _, q' :: qs, _, h => by
    cases h with
    | cons a1 a2 a3 a4 => rw [List.length_cons, List.length_cons, a4.len]
def dO : Dt → Option (Option Int)
  | .none => some none
  | .int i => some (some i)
  | _ => none
theorem dO_of {K : Fg} {G : Hp} {d : Dt} {o : Option Int} {v : V} (h : dO d = some o) (r : Rp K G v d) : v = vO o := by
  cases d with
  | none => cases h; cases r; rfl
  | int i => cases h; cases r; rfl
  | _ => cases h
theorem slotZ_of {o : Option (Option Sv)} {d : Dt} (h : slotZ o = some d) : o = some (some (.d d)) := by
  unfold slotZ at h
  split at h
  · cases h; rfl
  · cases h
/-- self.past.append((list(self.names), list(self.told))) -/
def noteS (i : Nat) : M Fl := fun ρ => match mtAt ρ[i]? with
  | some (r, m) => if m.past.length < 1000 then .ok .nx (ρ.set i (some (.mt r ⟨m.names, m.told, m.past ++ [(m.names, m.told)]⟩))) else .bad
  | none => .bad
section
variable {X : Cx} {b : Bs} {W : WX} {i k j : Nat} {x : Str} {p1 p2 p3 p4 p5 p6 p7 p8 p9 p10 p11 p12 p13 p14 : Pos} {a e : Expr} {fa : M Av} {fo : M Dt}
theorem MAt.nod {C : Addr} {H : Hp} {p dx a b c : Addr} {m : Ms} {vs : List V} {z : List Addr} (h : MAt C H p dx a b c m vs z) {l : Addr} (hl : H l = none) : l ∉ a :: b :: c :: z := fun q => by
  obtain ⟨xs, w⟩ := MeterAt.lsts ⟨dx, a, b, c, vs, z, h, rfl⟩ l q
  rw [hl] at w
  cases w
theorem note_core {c : Fc} {G H : Hp} {ρ : Ev} {σ : St} (S : SIG b c G ρ σ H) {r : Bool} {m : Ms} (e : ρ[i]? = some (some (.mt r m))) {p dx a b' c' : Addr} {vs : List V} {z : List Addr} (hp : σ[i]? = some (some (.ref p))) (hM : MAt b.mc H p dx a b' c' m vs z) {l1 l2 t : Addr} (n1 : H l1 = none) (n2 : (upd H l1 (.lst (m.names.map V.int))) l2 = none) (n3 : (upd (upd H l1 (.lst (m.names.map V.int))) l2 (.lst (m.told.map vO))) t = none) :
    ∃ G', Same G G' ∧ SIG b c G' (ρ.set i (some (.mt r ⟨m.names, m.told, m.past ++ [(m.names, m.told)]⟩))) σ (upd (upd (upd (upd H l1 (.lst (m.names.map V.int))) l2 (.lst (m.told.map vO))) t (.tup [.ref l1, .ref l2])) c' (.lst (vs ++ [.ref t]))) := by
  have d12 : l2 ≠ l1 := fun z => by rw [z, upd_same] at n2; cases n2
  have n2' : H l2 = none := by rw [upd_ne d12] at n2; exact n2
  have d32 : t ≠ l2 := fun z => by rw [z, upd_same] at n3; cases n3
  have n3' : (upd H l1 (.lst (m.names.map V.int))) t = none := by rw [upd_ne d32] at n3; exact n3
  have d31 : t ≠ l1 := fun z => by rw [z, upd_same] at n3'; cases n3'
  have n3'' : H t = none := by rw [upd_ne d31] at n3'; exact n3'
  have dc1 : l1 ≠ c' := (ne_of_none hM.pa n1).symm
  have dc2 : l2 ≠ c' := (ne_of_none hM.pa n2').symm
  have dct : t ≠ c' := (ne_of_none hM.pa n3'').symm
  have keep : ∀ {q : Addr} {o : HO}, H q = some o → q ≠ c' → (upd (upd (upd (upd H l1 (.lst (m.names.map V.int))) l2 (.lst (m.told.map vO))) t (.tup [.ref l1, .ref l2])) c' (.lst (vs ++ [.ref t]))) q = some o := fun {q o} h n => by
    rw [upd_ne n, upd_ne (ne_of_none h n3''), upd_ne (ne_of_none h n2'), upd_ne (ne_of_none h n1)]
    exact h
  have nd := hM.nd
  have nac : a ≠ c' := fun z => by
    rw [z] at nd
    simp at nd
  have nbc : b' ≠ c' := fun z => by
    rw [z] at nd
    simp at nd
  have zc : ∀ q ∈ z, q ≠ c' := fun q hq w => by
    rw [w] at hq
    have := (List.nodup_cons.mp (List.nodup_cons.mp (List.nodup_cons.mp nd).2).2).1
    exact this hq
  have pc : p ≠ c' := ne_of hM.ins hM.pa (by intro q; cases q)
  have hZ : MeterAt b.mc H p m (a :: b' :: c' :: z) := ⟨dx, a, b', c', vs, z, hM, rfl⟩
  have o1 := hM.nod n1
  have o2 := hM.nod n2'
  have hn : (a :: b' :: c' :: (z ++ [l1, l2])).Nodup := by
    have : ((a :: b' :: c' :: z) ++ [l1, l2]).Nodup := List.nodup_append.mpr ⟨nd, by simp [d12.symm], fun y hy w hw e => by
      simp only [List.mem_cons, List.not_mem_nil, or_false] at hw
      rcases hw with rfl | rfl
      · exact o1 (e ▸ hy)
      · exact o2 (e ▸ hy)⟩
    exact this
  have h' : MAt b.mc (upd (upd (upd (upd H l1 (.lst (m.names.map V.int))) l2 (.lst (m.told.map vO))) t (.tup [.ref l1, .ref l2])) c' (.lst (vs ++ [.ref t]))) p dx a b' c' ⟨m.names, m.told, m.past ++ [(m.names, m.told)]⟩ (vs ++ [.ref t]) (z ++ [l1, l2]) := by
    refine ⟨keep hM.ins pc, keep hM.na nac, keep hM.to nbc, upd_same, Pasts.snoc ?_ ?_ ?_ (hM.ps.keep fun q o hq h => keep h ?_), hn⟩
    · rw [upd_ne dct, upd_same]
    · rw [upd_ne dc1, upd_ne d31.symm, upd_ne d12.symm, upd_same]
    · rw [upd_ne dc2, upd_ne d32.symm, upd_same]
    · rcases hq with hq | ⟨xs, rfl⟩
      · exact zc q hq
      · exact ne_of h hM.pa (by intro w; cases w)
  refine ⟨_, S.meter e hp hZ ⟨dx, a, b', c', _, _, h', rfl⟩ (fun q o h _ n => keep h fun w => n (by rw [w]; simp)) (fun q hq => ?_) fun q hq => ?_⟩
  · by_cases w : q = c'
    · rw [w]
      exact ⟨_, upd_same⟩
    · obtain ⟨xs, h⟩ := hZ.lsts q hq
      exact ⟨xs, keep h w⟩
  · have hq : q ∈ (a :: b' :: c' :: z) ++ [l1, l2] := hq
    rcases List.mem_append.mp hq with hq | hq
    · exact .inl hq
    · simp only [List.mem_cons, List.not_mem_nil, or_false] at hq
      rcases hq with rfl | rfl
      · exact .inr (S.newA n1)
      · exact .inr (S.newA n2')
theorem s_note {cx} (hK : X.K = b.K) (mc : McOk b.K b.mc) (hg : Gl X "list") (hz : X.mg "list" = none) (hv : ∀ q, PE X (.Name x q) (tVar i)) (hl : (p3.endLine == p13.line) = true) :
    PS X (.Expr (.Call (.Attribute (.Attribute (.Name x p1) (fNm 2) p2) "append" p3) [.Tuple [.Call (.Name "list" p4) [.Attribute (.Name x p5) (fNm 0) p6] [] p7, .Call (.Name "list" p8) [.Attribute (.Name x p9) (fNm 1) p10] [] p11] cx p12] [] p13) p14) (tS b W (noteS i)) :=
  weakS (ps_expr (pe_bm PySem.F.plainAttrs_list PySem.F.slot_list_append PySem.F.type_list_append mt_append (pe_fld (hv p1) rfl) (pa_cons (pe_tup (pa_cons (pe_callTy call_list_of hg hz (by decide +kernel) (pa_cons (pe_fld (hv p5) rfl) pa_nil)) (pa_cons (pe_callTy call_list_of hg hz (by decide +kernel) (pa_cons (pe_fld (hv p9) rfl) pa_nil)) pa_nil))) pa_nil) (hline := hl))) fun D σ H ⟨c, G, ρ, hb, S, q⟩ => by
    unfold noteS at q
    cases hm : mtAt ρ[i]? with
    | none => rw [hm] at q; exact q.elim
    | some rm =>
      obtain ⟨r, m⟩ := rm
      rw [hm] at q
      dsimp only at q
      split at q
      · rename_i hlen
        have em := mtAt_of hm
        obtain ⟨p, hp, _, Z, ⟨dx, a, b', c', vs, z, hM, _⟩, _⟩ := S.mtr em
        have kc : Cls X.K b.mc := by rw [hK]; exact mc.cl
        have kn : ∀ k, NoAttr X.K b.mc (fNm k) := fun k => by rw [hK]; exact mc.no k
        refine ⟨.ref p, hp, p, b.mc, dx, _, .ref c', rfl, hM.ins, kc, kn 2, mf_2 _ _ _, .inl ⟨rfl, vs, SqL.of hM.pa⟩, .ref p, hp, p, b.mc, dx, _, .ref a, rfl, hM.ins, kc, kn 0, mf_0 _ _ _, a, _, rfl, .inl (SqL.of hM.na), fun l1 n1 => ?_⟩
        have k1 : ∀ {q : Addr} {o : HO}, H q = some o → (upd H l1 (.lst (m.names.map V.int))) q = some o := fun {q o} h => by rw [upd_ne (ne_of_none h n1)]; exact h
        refine ⟨.ref p, hp, p, b.mc, dx, _, .ref b', rfl, k1 hM.ins, kc, kn 1, mf_1 _ _ _, b', _, rfl, .inl (SqL.of (k1 hM.to)), fun l2 n2 => ⟨by show 2 ≤ sizeLine; decide, fun t n3 => ?_⟩⟩
        have k2 : ∀ {q : Addr} {o : HO}, H q = some o → (upd (upd H l1 (.lst (m.names.map V.int))) l2 (.lst (m.told.map vO))) q = some o := fun {q o} h => by rw [upd_ne (ne_of_none (k1 h) n2)]; exact k1 h
        obtain ⟨G', s1, S1⟩ := note_core S em hp hM n1 n2 n3
        refine ⟨c', vs, .ref t, rfl, rfl, by rw [upd_ne (ne_of_none (k2 hM.pa) n3)]; exact k2 hM.pa, by rw [hM.ps.len]; exact Nat.lt_trans hlen (by decide), ?_⟩
        exact q σ _ G' s1 S1
      · exact q.elim
end
end G8
namespace G8
open PySem L2
/-! more ways in which a meter changes -/
/-- self.names = e -/
def setN (i : Nat) (f : M Rv) : M Fl := bindM f fun r ρ => match r, mtAt ρ[i]? with
  | .l ds, some (rr, m) => (match intsO ds with
    | some ns => .ok .nx (ρ.set i (some (.mt rr ⟨ns, m.told, m.past⟩)))
    | none => .bad)
  | _, _ => .bad
/-- self.told.append(x), x a slot -/
def appF (i j : Nat) : M Fl := fun ρ => match mtAt ρ[i]?, (slotZ ρ[j]?).bind dO with
  | some (r, m), some o => if m.told.length < 1000 then .ok .nx (ρ.set i (some (.mt r ⟨m.names, m.told ++ [o], m.past⟩))) else .bad
  | _, _ => .bad
/-- self.names.remove(x), x a slot -/
def remN (i j : Nat) : M Fl := fun ρ => match mtAt ρ[i]?, slotZ ρ[j]? with
  | some (r, m), some (.int n) => if n ∈ m.names then .ok .nx (ρ.set i (some (.mt r ⟨m.names.eraseIdx (m.names.idxOf n), m.told, m.past⟩))) else .bad
  | _, _ => .bad
/-- self.names, self.told = self.past.pop() -/
def backS (i : Nat) : M Fl := fun ρ => match mtAt ρ[i]? with
  | some (r, m) => (match m.past.getLast? with
    | some q => .ok .nx (ρ.set i (some (.mt r ⟨q.1, q.2, m.past.dropLast⟩)))
    | none => .bad)
  | none => .bad
section
variable {X : Cx} {b : Bs} {W : WX} {i k j : Nat} {x y : Str} {p1 p2 p3 p4 p5 p6 p7 p8 p9 : Pos} {a e : Expr} {f : M Rv}
/-- one list of the zone is changed -/
theorem one_core {c : Fc} {G H : Hp} {ρ : Ev} {σ : St} (S : SIG b c G ρ σ H) {r : Bool} {m m' : Ms} (e : ρ[i]? = some (some (.mt r m))) {p dx a b' c' : Addr} {vs : List V} {z : List Addr} (hp : σ[i]? = some (some (.ref p))) (hM : MAt b.mc H p dx a b' c' m vs z) {l : Addr} {ys : List V} (hl : l ∈ a :: b' :: c' :: z) (h' : MAt b.mc (upd H l (.lst ys)) p dx a b' c' m' vs z) :
    ∃ G', Same G G' ∧ SIG b c G' (ρ.set i (some (.mt r m'))) σ (upd H l (.lst ys)) := by
  have hZ : MeterAt b.mc H p m (a :: b' :: c' :: z) := ⟨dx, a, b', c', vs, z, hM, rfl⟩
  refine ⟨_, S.meter e hp hZ ⟨dx, a, b', c', _, _, h', rfl⟩ (fun q o h _ n => by rw [upd_ne (fun w => n (by rw [w]; exact hl))]; exact h) (fun q hq => ?_) fun q hq => .inl hq⟩
  by_cases w : q = l
  · rw [w]
    exact ⟨_, upd_same⟩
  · obtain ⟨xs, h⟩ := hZ.lsts q hq
    exact ⟨xs, by rw [upd_ne w]; exact h⟩
theorem MAt.ne3 {C : Addr} {H : Hp} {p dx a b c : Addr} {m : Ms} {vs : List V} {z : List Addr} (h : MAt C H p dx a b c m vs z) : a ≠ b ∧ a ≠ c ∧ b ≠ c ∧ (∀ q ∈ z, q ≠ a ∧ q ≠ b ∧ q ≠ c) ∧ p ≠ a ∧ p ≠ b ∧ p ≠ c ∧ ∀ q ∈ z, p ≠ q := by
  have nd := h.nd
  simp only [List.nodup_cons, List.mem_cons, not_or] at nd
  obtain ⟨⟨n1, n2, n3⟩, ⟨n4, n5⟩, n6, _⟩ := nd
  refine ⟨n1, n2, n4, fun q hq => ⟨fun w => n3 (w ▸ hq), fun w => n5 (w ▸ hq), fun w => n6 (w ▸ hq)⟩, ne_of h.ins h.na (by intro q; cases q), ne_of h.ins h.to (by intro q; cases q), ne_of h.ins h.pa (by intro q; cases q), fun q hq => ?_⟩
  obtain ⟨xs, w⟩ := h.ps.lsts q hq
  exact ne_of h.ins w (by intro q; cases q)
theorem s_appF (hK : X.K = b.K) (mc : McOk b.K b.mc) (hv : PE X (.Name x p1) (tVar i)) (hj : PE X (.Name y p4) (tVar j)) (hl : (p3.endLine == p5.line) = true) :
    PS X (.Expr (.Call (.Attribute (.Attribute (.Name x p1) (fNm 1) p2) "append" p3) [.Name y p4] [] p5) p6) (tS b W (appF i j)) :=
  weakS (ps_expr (pe_bm PySem.F.plainAttrs_list PySem.F.slot_list_append PySem.F.type_list_append mt_append (pe_fld hv rfl) (pa_cons hj pa_nil) (hline := hl))) fun D σ H ⟨c, G, ρ, hb, S, q⟩ => by
    unfold appF at q
    cases hm : mtAt ρ[i]? with
    | none => rw [hm] at q; exact q.elim
    | some rm =>
      obtain ⟨r, m⟩ := rm
      rw [hm] at q
      cases hz : slotZ ρ[j]? with
      | none => rw [hz] at q; exact q.elim
      | some d =>
        rw [hz] at q
        cases ho : dO d with
        | none => rw [Option.bind_some, ho] at q; exact q.elim
        | some o =>
          rw [Option.bind_some, ho] at q
          dsimp only at q
          split at q
          · rename_i hlen
            have em := mtAt_of hm
            obtain ⟨p, hp, _, Z, ⟨dx, a, b', c', vs, z, hM, _⟩, _⟩ := S.mtr em
            obtain ⟨w, hw, rw_⟩ := S.sl j _ (slotZ_of hz)
            have ew := dO_of ho rw_
            subst ew
            obtain ⟨n1, n2, n3, n4, n5, n6, n7, n8⟩ := hM.ne3
            have h' : MAt b.mc (upd H b' (.lst (m.told.map vO ++ [vO o]))) p dx a b' c' ⟨m.names, m.told ++ [o], m.past⟩ vs z := by
              refine ⟨by rw [upd_ne n6]; exact hM.ins, by rw [upd_ne n1]; exact hM.na, by rw [upd_same]; simp, by rw [upd_ne n3.symm]; exact hM.pa, hM.ps.keep fun q u hq h => ?_, hM.nd⟩
              rw [upd_ne ?_]
              · exact h
              · rcases hq with hq | ⟨xs, rfl⟩
                · exact (n4 q hq).2.1
                · exact ne_of h hM.to (by intro w; cases w)
            obtain ⟨G', s1, S1⟩ := one_core S em hp hM (l := b') (by simp) h'
            exact ⟨.ref p, hp, p, b.mc, dx, _, .ref b', rfl, hM.ins, by rw [hK]; exact mc.cl, by rw [hK]; exact mc.no 1, mf_1 _ _ _, .inl ⟨rfl, _, SqL.of hM.to⟩, _, hw, b', _, _, rfl, rfl, hM.to, by rw [List.length_map]; exact Nat.lt_trans hlen (by decide), q σ _ G' s1 S1⟩
          · exact q.elim
theorem idx_first {n : Int} : ∀ {ns : List Int}, n ∈ ns → ns[ns.idxOf n]? = some n ∧ ∀ m : Nat, m < ns.idxOf n → ns[m]? ≠ some n
  | [], h => by cases h
  | y :: ns, h => by
    by_cases e : y = n
    · subst e
      simp
    · have h' : n ∈ ns := by
        rcases List.mem_cons.mp h with z | z
        · exact absurd z.symm e
        · exact z
      obtain ⟨h1, h2⟩ := idx_first h'
      have ei : (y :: ns).idxOf n = ns.idxOf n + 1 := by
        rw [List.idxOf_cons]
        have : (y == n) = false := by simpa using e
        rw [this]
        rfl
      rw [ei]
      refine ⟨by simpa using h1, fun m hm => ?_⟩
      cases m with
      | zero => simpa using e
      | succ m => simpa using h2 m (by omega)
theorem s_remN (hK : X.K = b.K) (mc : McOk b.K b.mc) (hv : PE X (.Name x p1) (tVar i)) (hj : PE X (.Name y p4) (tVar j)) (hl : (p3.endLine == p5.line) = true) :
    PS X (.Expr (.Call (.Attribute (.Attribute (.Name x p1) (fNm 0) p2) "remove" p3) [.Name y p4] [] p5) p6) (tS b W (remN i j)) :=
  weakS (ps_expr (pe_bm PySem.F.plainAttrs_list PySem.F.slot_list_remove PySem.F.type_list_remove mt_remove (pe_fld hv rfl) (pa_cons hj pa_nil) (hline := hl))) fun D σ H ⟨c, G, ρ, hb, S, q⟩ => by
    unfold remN at q
    cases hm : mtAt ρ[i]? with
    | none => rw [hm] at q; exact q.elim
    | some rm =>
      obtain ⟨r, m⟩ := rm
      rw [hm] at q
      cases hz : slotZ ρ[j]? with
      | none => rw [hz] at q; exact q.elim
      | some d =>
        rw [hz] at q
        cases d with
        | int n =>
          dsimp only at q
          split at q
          · rename_i hin
            have em := mtAt_of hm
            obtain ⟨p, hp, _, Z, ⟨dx, a, b', c', vs, z, hM, _⟩, _⟩ := S.mtr em
            obtain ⟨w, hw, rw_⟩ := S.sl j _ (slotZ_of hz)
            cases rw_
            obtain ⟨n1, n2, n3, n4, n5, n6, n7, n8⟩ := hM.ne3
            have h' : MAt b.mc (upd H a (.lst ((m.names.eraseIdx (m.names.idxOf n)).map V.int))) p dx a b' c' ⟨m.names.eraseIdx (m.names.idxOf n), m.told, m.past⟩ vs z := by
              refine ⟨by rw [upd_ne n5]; exact hM.ins, upd_same, by rw [upd_ne n1.symm]; exact hM.to, by rw [upd_ne n2.symm]; exact hM.pa, hM.ps.keep fun q u hq h => ?_, hM.nd⟩
              rw [upd_ne ?_]
              · exact h
              · rcases hq with hq | ⟨xs, rfl⟩
                · exact (n4 q hq).1
                · exact ne_of h hM.na (by intro w; cases w)
            obtain ⟨G', s1, S1⟩ := one_core S em hp hM (l := a) (by simp) h'
            obtain ⟨f1, f2⟩ := idx_first hin
            exact ⟨.ref p, hp, p, b.mc, dx, _, .ref a, rfl, hM.ins, by rw [hK]; exact mc.cl, by rw [hK]; exact mc.no 0, mf_0 _ _ _, .inl ⟨rfl, _, SqL.of hM.na⟩, _, hw, a, m.names, n, _, rfl, rfl, hM.na, f1, f2, q σ _ G' s1 S1⟩
          · exact q.elim
        | _ => exact q.elim
theorem s_setN (hK : X.K = b.K) (mc : McOk b.K b.mc) (hv : PE X (.Name x p1) (tVar i)) (he : PE X e (tV b W f)) (hs : swapsWith e (some (.Attribute (.Name x p1) (fNm 0) p2)) p3.line X.env = pure false := by rfl) :
    PS X (.Assign [.Attribute (.Name x p1) (fNm 0) p2] e p3) (tS b W (setN i f)) :=
  weakS (ps_fld hv he hs) fun D σ H ⟨c, G, ρ, hb, S, q⟩ => ⟨c, G, ρ, S, (PostS.bind σ q).imp fun rv ρ1 G1 H1 e1 S1 q1 v hv1 ap => by
    cases rv with
    | l ds =>
      cases hm : mtAt ρ1[i]? with
      | none => rw [hm] at q1; exact q1.elim
      | some rm =>
        obtain ⟨r, m⟩ := rm
        rw [hm] at q1
        dsimp only at q1
        cases hi : intsO ds with
        | none => rw [hi] at q1; exact q1.elim
        | some ns =>
          rw [hi] at q1
          dsimp only at q1
          have em := mtAt_of hm
          obtain ⟨p, hp, gp, Z, ⟨dx, a, b', c', vs, z, hM, rfl⟩, z0⟩ := S1.mtr em
          obtain ⟨l, ws, rfl, h1, h2, h3, h4⟩ := hv1
          have ew := intsO_of hi h3
          subst ew
          have no := ap l rfl rfl
          have hZ : MeterAt b.mc H1 p m (a :: b' :: c' :: z) := ⟨dx, a, b', c', vs, z, hM, rfl⟩
          obtain ⟨n1, n2, n3, n4, n5, n6, n7, n8⟩ := hM.ne3
          have lz : ∀ q ∈ a :: b' :: c' :: z, l ≠ q := fun q hq w => (z0 q hq).1.ne h2 w.symm
          have lp : l ≠ p := ne_of h1 hM.ins (by intro q; cases q)
          have nd := hM.nd
          have hn : (l :: b' :: c' :: z).Nodup := List.nodup_cons.mpr ⟨fun w => lz l (List.mem_cons_of_mem _ w) rfl, (List.nodup_cons.mp nd).2⟩
          have h' : MAt b.mc (upd H1 p (.ins b.mc dx (mf l b' c'))) p dx l b' c' ⟨ns, m.told, m.past⟩ vs z := by
            refine ⟨upd_same, by rw [upd_ne lp]; exact h1, by rw [upd_ne n6.symm]; exact hM.to, by rw [upd_ne n7.symm]; exact hM.pa, hM.ps.keep fun q u hq h => ?_, hn⟩
            rw [upd_ne ?_]
            · exact h
            · rcases hq with hq | ⟨xs, rfl⟩
              · exact (n8 q hq).symm
              · exact ne_of h hM.ins (by intro w; cases w)
          have M := S1.meter em hp hZ ⟨dx, l, b', c', _, _, h', rfl⟩ (fun q o h w _ => by rw [upd_ne w]; exact h) (fun q hq => by
            obtain ⟨xs, w⟩ := hZ.lsts q hq
            exact ⟨xs, by rw [upd_ne (ne_of w hM.ins (by intro u; cases u))]; exact w⟩) (fun q hq => by
            rcases List.mem_cons.mp hq with rfl | hq
            · exact .inr ⟨h2, h4, no⟩
            · exact .inl (List.mem_cons_of_mem _ hq))
          exact ⟨.ref p, hp, p, b.mc, dx, _, rfl, hM.ins, by rw [hK]; exact mc.cl, by rw [hK]; exact mc.no 0, by show 3 < 1000; decide, q1 σ _ _ M.1 M.2⟩
    | _ => exact q1.elim⟩
def gFld (K : Fg) (ta : TE) (fn : Str) : TG := fun v σ H Q => ta σ H fun z H1 => ∃ q C dx fs, z = .ref q ∧ H1 q = some (.ins C dx fs) ∧ Cls K C ∧ NoAttr K C fn ∧ fs.length < 1000 ∧ Q σ (upd H1 q (.ins C dx (putF fn v fs)))
theorem pg_fld {o : Expr} {fn : Str} {ta : TE} {pos : Pos} (ho : PE X o ta) : PG X (.Attribute o fn pos) (gFld X.K ta fn) := ⟨fun pins s σ H v u Q I r h => by
  rw [assign_Attribute]
  refine wpAny_bind (wpAny_holding (thn (ho.run pins s σ H _ I h) fun ov s1 ⟨z, H1, I1, rz, q, C, dx, fs, ez, hq, cl, na, hl, k⟩ => ?_))
  subst ez
  cases rz
  exact wpAny_bind (wpAny_standAt (wpAny_bind (wpAny_holding (setattr_ok I1 hq cl na hl r fun s3 I3 => wpAny_release ⟨σ, _, I3, k⟩))))⟩
theorem s_back {st : Stmt} (hK : X.K = b.K) (mc : McOk b.K b.mc) (h : PS X st (tAsg (tBM0 X.K "list" rPop (tFld X.K (tVar i) (fNm 2))) (gTup X.K 2 (gCons (gFld X.K (tVar i) (fNm 0)) (gCons (gFld X.K (tVar i) (fNm 1)) gNil))))) : PS X st (tS b W (backS i)) := weakS h fun D σ H ⟨c, G, ρ, hb, S, q⟩ => by
  unfold backS at q
  cases hm : mtAt ρ[i]? with
  | none => rw [hm] at q; exact q.elim
  | some rm =>
    obtain ⟨r, m⟩ := rm
    rw [hm] at q
    dsimp only at q
    cases hL : m.past.getLast? with
    | none => rw [hL] at q; exact q.elim
    | some w =>
      rw [hL] at q
      dsimp only at q
      obtain ⟨qs, hqs⟩ := List.getLast?_eq_some_iff.mp hL
      have em := mtAt_of hm
      obtain ⟨p, hp, gp, Z, ⟨dx, a, b', c', vs, z, hM, rfl⟩, z0⟩ := S.mtr em
      have hps := hM.ps
      rw [hqs] at hps
      obtain ⟨vs', t, l, m2, z', rfl, rfl, a1, a2, a3, a4⟩ := hps.unsnoc
      have kc : Cls X.K b.mc := by rw [hK]; exact mc.cl
      have kn : ∀ k, NoAttr X.K b.mc (fNm k) := fun k => by rw [hK]; exact mc.no k
      have hZ : MeterAt b.mc H p m (a :: b' :: c' :: (z' ++ [l, m2])) := ⟨dx, a, b', c', _, _, hM, rfl⟩
      obtain ⟨n1, n2, n3, n4, n5, n6, n7, n8⟩ := hM.ne3
      have hl := n4 l (by simp)
      have hm2 := n4 m2 (by simp)
      have nd := hM.nd
      have dp : m.past.dropLast = qs := by rw [hqs, List.dropLast_concat]
      rw [dp] at q
      have tc : t ≠ c' := ne_of a2 hM.pa (by intro w; cases w)
      have hn : (l :: m2 :: c' :: z').Nodup := by
        simp only [List.nodup_cons, List.mem_cons, not_or, List.mem_append, List.nodup_append, List.not_mem_nil, or_false] at nd ⊢
        obtain ⟨_, _, ⟨d1, d2, d3⟩, d4, d5, d6⟩ := nd
        refine ⟨⟨d5.1, Ne.symm d2, fun w => d6 l w l (.inl rfl) rfl⟩, ⟨Ne.symm d3, fun w => d6 m2 w m2 (.inr rfl) rfl⟩, d1, d4⟩
      have keep : ∀ {q : Addr} {o : HO}, H q = some o → q ≠ p → q ≠ c' → (upd (upd (upd H c' (.lst vs')) p (.ins b.mc dx (mf l b' c'))) p (.ins b.mc dx (mf l m2 c'))) q = some o := fun {q o} h w1 w2 => by
        rw [upd_ne w1, upd_ne w1, upd_ne w2]
        exact h
      have h' : MAt b.mc (upd (upd (upd H c' (.lst vs')) p (.ins b.mc dx (mf l b' c'))) p (.ins b.mc dx (mf l m2 c'))) p dx l m2 c' ⟨w.1, w.2, qs⟩ vs' z' := by
        refine ⟨upd_same, keep a3 (n8 l (by simp)).symm hl.2.2, keep a4 (n8 m2 (by simp)).symm hm2.2.2, by rw [upd_ne n7.symm, upd_ne n7.symm, upd_same], a1.keep fun q u hq h => keep h ?_ ?_, hn⟩
        · rcases hq with hq | ⟨xs, rfl⟩
          · exact (n8 q (List.mem_append_left _ hq)).symm
          · exact ne_of h hM.ins (by intro w; cases w)
        · rcases hq with hq | ⟨xs, rfl⟩
          · exact (n4 q (List.mem_append_left _ hq)).2.2
          · exact ne_of h hM.pa (by intro w; cases w)
      have M := S.meter em hp hZ ⟨dx, l, m2, c', _, _, h', rfl⟩ (fun q o h w1 w2 => keep h w1 fun w => w2 (by rw [w]; simp)) (fun q hq => by
        by_cases w : q = c'
        · subst w
          exact ⟨_, h'.pa⟩
        · obtain ⟨xs, u⟩ := hZ.lsts q hq
          exact ⟨xs, keep u (ne_of u hM.ins (by intro v; cases v)) w⟩) (fun q hq => .inl (by
        simp only [List.mem_cons, List.mem_append, List.not_mem_nil, or_false] at hq ⊢
        rcases hq with h | h | h | h
        · exact .inr (.inr (.inr (.inr (.inl h))))
        · exact .inr (.inr (.inr (.inr (.inr h))))
        · exact .inr (.inr (.inl h))
        · exact .inr (.inr (.inr (.inl h)))))
      have i1 : (upd H c' (.lst vs')) p = some (.ins b.mc dx (mf a b' c')) := by rw [upd_ne n7]; exact hM.ins
      refine ⟨.ref p, hp, p, b.mc, dx, _, .ref c', rfl, hM.ins, kc, kn 2, mf_2 _ _ _, .inl ⟨rfl, _, SqL.of hM.pa⟩, c', _, .ref t, rfl, rfl, hM.pa, by simp, ?_⟩
      rw [List.dropLast_concat]
      refine ⟨t, [.ref l, .ref m2], rfl, SqT.of (by rw [upd_ne tc]; exact a2), rfl, .ref l, [.ref m2], rfl, .ref p, hp, p, b.mc, dx, _, rfl, i1, kc, kn 0, by show 3 < 1000; decide, .ref m2, [], rfl, .ref p, hp, p, b.mc, dx, _, rfl, upd_same, kc, kn 1, by show 3 < 1000; decide, rfl, ?_⟩
      exact q σ _ _ M.1 M.2
/-! a meter is made -/
def anyMt (ρ : Ev) : Bool := ρ.any fun o => match o with
  | some s => s.isMt
  | none => false
theorem anyMt_no {ρ : Ev} (h : anyMt ρ = false) : ∀ (j : Nat) (s : Sv), ρ[j]? = some (some s) → s.isMt = false := fun j s e => by
  unfold anyMt at h
  rw [List.any_eq_false] at h
  have := h (some s) (List.mem_of_getElem? e)
  simpa using this
def newMt (i : Nat) : M Fl := fun ρ => if refAt ρ[i]? || anyMt ρ || !decide (i < ρ.length) then .bad else .ok .nx (ρ.set i (some (.mt false ⟨[], [], []⟩)))
def spMk (C : Addr) : Sp := fun vs H Q _ => ∃ p dx, vs = [.ref p] ∧ H p = some (.ins C dx []) ∧ ∀ H' a b c, (∀ q o, H q = some o → q ≠ p → H' q = some o) → H a = none → H b = none → H c = none → MAt C H' p dx a b c ⟨[], [], []⟩ [] [] → Q .non H'
theorem init_body {C : Addr} {σ : St} {H : Hp} {Q : VK} {E : XK} {p : Addr} {p10 p11 p12 : Pos} (mc : McOk X.K C) (hv : ∀ q, PE X (.Name x q) (tVar 0)) (hσ : σ[0]? = some (some (.ref p))) (h : spMk C [.ref p] H Q E) :
    ∃ t, PSs X [.Assign [.Attribute (.Name x p1) (fNm 0) p2] (.List [] p3) p4, .Assign [.Attribute (.Name x p5) (fNm 1) p6] (.List [] p7) p8, .Assign [.Attribute (.Name x p9) (fNm 2) p10] (.List [] p11) p12] t ∧ t { nx := fun _ H' => Q .non H', rt := Q } σ H := by
  obtain ⟨q, dx, e1, hp, k⟩ := h
  cases e1
  refine ⟨_, pss_cons (ps_fld (hv p1) (pe_lst pa_nil) rfl) (pss_cons (ps_fld (hv p5) (pe_lst pa_nil) rfl) (pss_one (ps_fld (hv p9) (pe_lst pa_nil) rfl))), ?_⟩
  refine ⟨Nat.zero_le _, fun l1 n1 => ?_⟩
  have d1 : p ≠ l1 := ne_of_none hp n1
  refine ⟨.ref p, hσ, p, C, dx, [], rfl, by rw [upd_ne d1]; exact hp, mc.cl, mc.no 0, by show 0 < 1000; decide, Nat.zero_le _, fun l2 n2 => ?_⟩
  have d2 : p ≠ l2 := fun w => by rw [← w, upd_same] at n2; cases n2
  have n2' : (upd H l1 (.lst [])) l2 = none := by rw [upd_ne d2.symm] at n2; exact n2
  have d12 : l2 ≠ l1 := fun w => by rw [w, upd_same] at n2'; cases n2'
  have n2'' : H l2 = none := by rw [upd_ne d12] at n2'; exact n2'
  refine ⟨.ref p, hσ, p, C, dx, _, rfl, by rw [upd_ne d2]; exact upd_same, mc.cl, mc.no 1, by show 1 < 1000; decide, Nat.zero_le _, fun l3 n3 => ?_⟩
  have d3 : p ≠ l3 := fun w => by rw [← w, upd_same] at n3; cases n3
  rw [upd_ne d3.symm] at n3
  have d32 : l3 ≠ l2 := fun w => by rw [w, upd_same] at n3; cases n3
  rw [upd_ne d32, upd_ne d3.symm] at n3
  have d31 : l3 ≠ l1 := fun w => by rw [w, upd_same] at n3; cases n3
  rw [upd_ne d31] at n3
  refine ⟨.ref p, hσ, p, C, dx, _, rfl, by rw [upd_ne d3]; exact upd_same, mc.cl, mc.no 2, by show 2 < 1000; decide, ?_⟩
  refine k _ l1 l2 l3 (fun q o hq w => ?_) n1 n2'' n3 ⟨upd_same, ?_, ?_, ?_, .nil, ?_⟩
  · rw [upd_ne w, upd_ne (ne_of_none hq n3), upd_ne w, upd_ne (ne_of_none hq n2''), upd_ne w, upd_ne (ne_of_none hq n1)]
    exact hq
  · rw [upd_ne d1.symm, upd_ne d31.symm, upd_ne d1.symm, upd_ne d12.symm, upd_ne d1.symm, upd_same]
    rfl
  · rw [upd_ne d2.symm, upd_ne d32.symm, upd_ne d2.symm, upd_same]
    rfl
  · rw [upd_ne d3.symm, upd_same]
  · simp only [List.nodup_cons, List.mem_cons, List.not_mem_nil, or_false, not_or, not_false_eq_true, List.nodup_nil, and_true]
    exact ⟨⟨d12.symm, d31.symm⟩, d32.symm⟩
theorem s_newM {kk : Nat} {g : Addr} {fd : FuncData} {ps : List Str} {z : Str} (Mo : L2.Mk X.K b.mc g) (F : FnOk X.prog X.w X.K X.mg X.base CX0 kk g fd ps (spMk b.mc)) (hr : Room (kk + 1) X.A) (hg : Gl X z) (hm : X.mg z = some (.ref b.mc)) (hbi : Binds X.K fd ps []) (hN : X.N.Nodup) (hi : X.N[i]? = some x) (hx : Loc X.env.scope x)
    (hf : X.fn x = true ∨ X.env.scope.names.lookup x = some .local := by first | exact .inl rfl | exact .inr rfl | assumption) (hdb : (z == ("__debug__" : Str)) = false := by decide) :
    PS X (.Assign [.Name x p1] (.Call (.Name z p2) [] [] p3) p4) (tS b W (newMt i)) := weakS (ps_set hN hi hx (pe_make0 Mo F hr hg hm hbi .nil pass0 hdb) rfl hf) fun D σ H ⟨c, G, ρ, hb, S, q⟩ => by
  intro p dx np nd ne
  refine ⟨p, dx, rfl, upd_same, fun H' a b' c' kp na nb nc hM => ⟨rfl, ?_⟩⟩
  unfold newMt at q
  split at q
  · exact q.elim
  · rename_i hc
    simp only [Bool.or_eq_true, not_or, Bool.not_eq_true, Bool.not_eq_false', decide_eq_true_eq] at hc
    obtain ⟨⟨c1, c2⟩, c3⟩ := hc
    have old : ∀ {q : Addr}, (upd (upd H dx (.own p)) p (.ins b.mc dx [])) q = none → H q = none := fun {q} h => by
      have w1 : q ≠ p := fun w => by rw [w, upd_same] at h; cases h
      rw [upd_ne w1] at h
      have w2 : q ≠ dx := fun w => by rw [w, upd_same] at h; cases h
      rw [upd_ne w2] at h
      exact h
    have B := S.born (i := i) (refAt_of hb (by rw [c1]; decide)) c3 (anyMt_no c2) np ⟨dx, a, b', c', [], [], hM, rfl⟩ (fun q o h => kp q o (by rw [upd_ne (ne_of_none h np), upd_ne (ne_of_none h nd)]; exact h) (ne_of_none h np)) (fun q hq => by
      simp only [List.mem_cons, List.not_mem_nil, or_false] at hq
      rcases hq with rfl | rfl | rfl
      · exact old na
      · exact old nb
      · exact old nc)
    exact q _ H' _ B.1 B.2
end
/-! tests of fields' items -/
def prNe (j : Nat) : Ev → Dt → Option Bool := fun ρ d => match d, slotZ ρ[j]? with
  | .int n, some (.int k) => some (!decide (n = k))
  | _, _ => none
def prLe (j : Nat) : Ev → Dt → Option Bool := fun ρ d => match d, slotZ ρ[j]? with
  | .none, some (.int _) => some false
  | .int n, some (.int k) => some (decide (n ≤ k))
  | _, _ => none
section
variable {b : Bs} {v j : Nat} {c : Fc} {G H H' : Hp} {ρ : Ev} {σ : St} {d : Dt} {w : V} {kb : Bool} {Q : Bool → Hp → Prop}
theorem slot_wipe (hvj : v ≠ j) (S : SIG b c G ρ σ H) {n : Int} (h : slotZ ρ[j]? = some (.int n)) : ((L2.wipe σ [v]).set v (some w))[j]? = some (some (.int n)) := by
  obtain ⟨u, hu, r⟩ := S.sl j _ (slotZ_of h)
  cases r
  rw [List.getElem?_set_ne hvj]
  show (σ.set v none)[j]? = _
  rw [List.getElem?_set_ne hvj]
  exact hu
theorem slot_self (hv : v < σ.length) : ((L2.wipe σ [v]).set v (some w))[v]? = some (some w) := by
  rw [getElem?_set_eq', if_pos rfl, if_pos (by rw [wipe_length]; exact hv)]
theorem tt_ne (hvj : v ≠ j) (S : SIG b c G ρ σ H) (h : prNe j ρ d = some kb) (r : Rp b.K G w d) (hv : v < σ.length) (q : Q kb H') : tTest (tOp rNe (tVar v) (tVar j)) ((L2.wipe σ [v]).set v (some w)) H' Q := by
  unfold prNe at h
  split at h
  · rename_i n k hs
    cases h
    cases r
    refine ⟨_, slot_self hv, _, slot_wipe hvj S hs, rfl, _, rfl, ?_⟩
    have : decide (V.int n = V.int k) = decide (n = k) := by
      by_cases e : n = k
      · rw [e, decide_eq_true rfl, decide_eq_true rfl]
      · rw [decide_eq_false e, decide_eq_false fun z => e (V.int.inj z)]
    rw [this]
    exact q
  · cases h
theorem tt_le (hvj : v ≠ j) (S : SIG b c G ρ σ H) (h : prLe j ρ d = some kb) (r : Rp b.K G w d) (hv : v < σ.length) (q : Q kb H') : tAnd (tB (tNotN (tVar v))) (tTest (tOp (rI0 fun i k => .bl (decide (i ≤ k))) (tVar v) (tVar j))) ((L2.wipe σ [v]).set v (some w)) H' Q := by
  unfold prLe at h
  split at h
  · cases h
    cases r
    exact ⟨_, slot_self hv, _, rfl, iteF q⟩
  · rename_i n k hs
    cases h
    cases r
    exact ⟨_, slot_self hv, _, rfl, iteT ⟨_, slot_self hv, _, slot_wipe hvj S hs, n, k, rfl, rfl, _, rfl, q⟩⟩
  · cases h
end
end G8
namespace G8
open PySem L2
noncomputable section
/-! Meter_note -/
def f_Meter_note : M Fl :=
    (noteS 0)
def F_Meter_note : Fn := bodyF 1 f_Meter_note
/-! Meter_ask -/
def f_Meter_ask : M Fl :=
    (seqM (exprS (callM 1 F_look_name (consM (varM 1) (retM []))))
    (seqM (ifM (cmpT eqD (lenO (fldM 0 1)) (retM (.d (.int 24)))) (raiseM 6) (retM .nx))
    (seqM (exprS (methM 1 F_Meter_note 0 (retM [])))
    (seqM (setM 2 (dataM (ifM (cmpTO inD (varM 1) (fldM 0 0)) (frzM (bin2 addD (idxF 0 0 1) (retM (.d (.int 1))))) (retM (.d .none)))))
    (seqM (setN 0 (bin2 addD (frzM (lstM (consM (varM 1) (retM [])))) (frzM (lcF 0 0 3 (prNe 1)))))
    (seqM (appF 0 2)
    (retO 2)))))))
def F_Meter_ask : Fn := bodyF 4 f_Meter_ask
/-! Meter_forget -/
def f_Meter_forget : M Fl :=
    (seqM (exprS (callM 1 F_look_name (consM (varM 1) (retM []))))
    (seqM (ifM (cmpTO ninD (varM 1) (fldM 0 0)) (raiseM 6) (retM .nx))
    (seqM (exprS (methM 1 F_Meter_note 0 (retM [])))
    (remN 0 1))))
def F_Meter_forget : Fn := bodyF 2 f_Meter_forget
/-! Meter_back -/
def f_Meter_back : M Fl :=
    (seqM (ifM (notM (truP 0)) (raiseM 6) (retM .nx))
    (backS 0))
def F_Meter_back : Fn := bodyF 1 f_Meter_back
/-! Meter_stack -/
def f_Meter_stack : M Fl :=
    (retS (listO (fldM 0 0)))
def F_Meter_stack : Fn := bodyF 1 f_Meter_stack
/-! Meter_asks -/
def f_Meter_asks : M Fl :=
    (retS (dataM (lenO (fldM 0 1))))
def F_Meter_asks : Fn := bodyF 1 f_Meter_asks
/-! Meter_hits -/
def f_Meter_hits : M Fl :=
    (seqM (exprS (callM 1 F_look_room (consM (varM 1) (retM []))))
    (retS (dataM (lenM (frzM (lcF 0 1 2 (prLe 1)))))))
def F_Meter_hits : Fn := bodyF 3 f_Meter_hits
/-! Meter_found_by -/
def f_Meter_found_by : M Fl :=
    (retS (dataM (lenM (frzM (lcF 0 1 2 (prLe 1))))))
def F_Meter_found_by : Fn := bodyF 3 f_Meter_found_by
/-! Meter_least_room -/
def t_Meter_least_room_1 : M Bool :=
    (cmpT geI (frzM (methM 2 F_Meter_found_by 0 (consM (varM 3) (retM [])))) (varM 1))
theorem t_Meter_least_room_1_ap (ρ : Ev) : t_Meter_least_room_1 ρ =
    (cmpT geI (frzM (methM 2 F_Meter_found_by 0 (consM (varM 3) (retM [])))) (varM 1)) ρ := rfl
def f_Meter_least_room : M Fl :=
    (seqM (setM 2 (lcM (rg1 (consM (frzM (bin2 addD (frzM (bin2 addD (lenO (fldM 0 0)) (lenO (fldM 0 1)))) (retM (.d (.int 1))))) (retM []))) (.one 3) t_Meter_least_room_1 (varM 3)))
    (retS (dataM (ifM (testM (varM 2)) (frzM (bin2 ixD (varM 2) (retM (.d (.int 0))))) (retM (.d .none))))))
def F_Meter_least_room : Fn := bodyF 4 f_Meter_least_room
end
end G8
namespace K70
open PySem L2 G8
noncomputable section
def top (i : Nat) : Stmt := PySem.Challenge.pw_allrooms_k70_whole_meters.main.body.getD i (.Pass ⟨0, 0, 0, 0⟩)
/-! look_name -/
abbrev s_look_name : Stmt := top 14
theorem sc_look_name : FnScope ["name"] ["name"] (defScope s_look_name) := ⟨rfl, rfl, rfl, by decide +kernel, rfl, by decide +kernel, by decide +kernel⟩
/-! look_room -/
abbrev s_look_room : Stmt := top 15
theorem sc_look_room : FnScope ["room"] ["room"] (defScope s_look_room) := ⟨rfl, rfl, rfl, by decide +kernel, rfl, by decide +kernel, by decide +kernel⟩
/-! Meter_note -/
abbrev s_Meter_note : Stmt := inClass (top 17) 1
theorem sc_Meter_note : FnScope ["self"] ["self"] (defScope s_Meter_note) := ⟨rfl, rfl, rfl, by decide +kernel, rfl, by decide +kernel, by decide +kernel⟩
/-! Meter_ask -/
abbrev s_Meter_ask : Stmt := inClass (top 17) 2
theorem sc_Meter_ask : FnScope ["self", "name", "depth", "other"] ["self", "name"] (defScope s_Meter_ask) := ⟨rfl, rfl, rfl, by decide +kernel, rfl, by decide +kernel, by decide +kernel⟩
/-! Meter_forget -/
abbrev s_Meter_forget : Stmt := inClass (top 17) 3
theorem sc_Meter_forget : FnScope ["self", "name"] ["self", "name"] (defScope s_Meter_forget) := ⟨rfl, rfl, rfl, by decide +kernel, rfl, by decide +kernel, by decide +kernel⟩
/-! Meter_back -/
abbrev s_Meter_back : Stmt := inClass (top 17) 4
theorem sc_Meter_back : FnScope ["self"] ["self"] (defScope s_Meter_back) := ⟨rfl, rfl, rfl, by decide +kernel, rfl, by decide +kernel, by decide +kernel⟩
/-! Meter_stack -/
abbrev s_Meter_stack : Stmt := inClass (top 17) 5
theorem sc_Meter_stack : FnScope ["self"] ["self"] (defScope s_Meter_stack) := ⟨rfl, rfl, rfl, by decide +kernel, rfl, by decide +kernel, by decide +kernel⟩
/-! Meter_asks -/
abbrev s_Meter_asks : Stmt := inClass (top 17) 6
theorem sc_Meter_asks : FnScope ["self"] ["self"] (defScope s_Meter_asks) := ⟨rfl, rfl, rfl, by decide +kernel, rfl, by decide +kernel, by decide +kernel⟩
/-! Meter_hits -/
abbrev s_Meter_hits : Stmt := inClass (top 17) 7
theorem sc_Meter_hits : FnScope ["self", "room", "depth"] ["self", "room"] (defScope s_Meter_hits) := ⟨rfl, rfl, rfl, by decide +kernel, rfl, by decide +kernel, by decide +kernel⟩
/-! Meter_found_by -/
abbrev s_Meter_found_by : Stmt := inClass (top 17) 9
theorem sc_Meter_found_by : FnScope ["self", "room", "depth"] ["self", "room"] (defScope s_Meter_found_by) := ⟨rfl, rfl, rfl, by decide +kernel, rfl, by decide +kernel, by decide +kernel⟩
/-! Meter_least_room -/
abbrev s_Meter_least_room : Stmt := inClass (top 17) 8
theorem sc_Meter_least_room : FnScope ["self", "share", "found", "room"] ["self", "share"] (defScope s_Meter_least_room) := ⟨rfl, rfl, rfl, by decide +kernel, rfl, by decide +kernel, by decide +kernel⟩
/-! _law_cell -/
abbrev s__law_cell : Stmt := top 19
theorem sc__law_cell : FnScope ["script", "k"] ["script", "k"] (defScope s__law_cell) := ⟨rfl, rfl, rfl, by decide +kernel, rfl, by decide +kernel, by decide +kernel⟩
/-! _law_mix -/
abbrev s__law_mix : Stmt := top 20
theorem sc__law_mix : FnScope ["script", "k", "number"] ["script", "k"] (defScope s__law_mix) := ⟨rfl, rfl, rfl, by decide +kernel, rfl, by decide +kernel, by decide +kernel⟩
/-! _law_draw -/
abbrev s__law_draw : Stmt := top 21
theorem sc__law_draw : FnScope ["script", "town", "many"] ["script", "town", "many"] (defScope s__law_draw) := ⟨rfl, rfl, rfl, by decide +kernel, rfl, by decide +kernel, by decide +kernel⟩
/-! _law_pick -/
abbrev s__law_pick : Stmt := top 22
theorem sc__law_pick : FnScope ["script", "town", "some"] ["script", "town", "some"] (defScope s__law_pick) := ⟨rfl, rfl, rfl, by decide +kernel, rfl, by decide +kernel, by decide +kernel⟩
/-! _law_refusal -/
abbrev s__law_refusal : Stmt := top 23
theorem sc__law_refusal : FnScope ["caught", "kinds", "words"] ["caught"] (defScope s__law_refusal) := ⟨rfl, rfl, rfl, by decide +kernel, rfl, by decide +kernel, by decide +kernel⟩
/-! _law_told -/
abbrev s__law_told : Stmt := top 24
theorem sc__law_told : FnScope ["meter", "word", "name", "caught", "found", "e"] ["meter", "word", "name"] (defScope s__law_told) := ⟨rfl, rfl, rfl, by decide +kernel, rfl, by decide +kernel, by decide +kernel⟩
def f__law_told : M Fl :=
    (seqM (setM 3 (dataM (retM (.d .none))))
    (seqM (setM 4 (dataM (retM (.d .none))))
    (seqM (tryM g_RoomError 5 3 (ifM (cmpT eqD (varM 1) (retM (.d (.str "ask")))) (setM 4 (methM 2 F_Meter_ask 0 (consM (varM 2) (retM [])))) (ifM (cmpT eqD (varM 1) (retM (.d (.str "forget")))) (setM 4 (methM 2 F_Meter_forget 0 (consM (varM 2) (retM [])))) (setM 4 (ifM (cmpT eqD (varM 1) (retM (.d (.str "back")))) (methM 1 F_Meter_back 0 (retM [])) (methM 2 F_Meter_hits 0 (consM (varM 2) (retM []))))))))
    (retS (dataM (ifM (isNT false (varM 3)) (varM 4) (frzM (callM 1 F__law_refusal (consM (varM 3) (retM []))))))))))
def F__law_told : Fn := bodyF 6 f__law_told
/-! _law_call -/
abbrev s__law_call : Stmt := top 25
theorem sc__law_call : FnScope ["script", "town", "meter", "past", "way", "name", "depth", "kept_names", "told", "due", "bad", "word", "one"] ["script", "town", "meter", "past"] (defScope s__law_call) := ⟨rfl, rfl, rfl, by decide +kernel, rfl, by decide +kernel, by decide +kernel⟩
def e__law_call_1 : M Av :=
    (frzM (callM 3 F__law_told (consM (varM 2) (consM (varM 11) (consM (varM 10) (retM []))))))
theorem e__law_call_1_ap (ρ : Ev) : e__law_call_1 ρ =
    (frzM (callM 3 F__law_told (consM (varM 2) (consM (varM 11) (consM (varM 10) (retM [])))))) ρ := rfl
def f__law_call : M Fl :=
    (seqM (asgM (frzM (bin2 ixD (varM 3) (frzM (un1 negD (retM (.d (.int 1))))))) (.tup [7, 8]))
    (seqM (setM 4 (callM 3 F__law_draw (consM (varM 0) (consM (varM 1) (consM (retM (.d (.int 9))) (retM []))))))
    (seqM (setM 5 (callM 3 F__law_draw (consM (varM 0) (consM (varM 1) (consM (frzM (callM 3 F__law_pick (consM (varM 0) (consM (varM 1) (consM (frzM (lstM (consM (retM (.d (.int 3))) (consM (retM (.d (.int 6))) (consM (retM (.d (.int 20))) (retM [])))))) (retM [])))))) (retM []))))))
    (seqM (ifM (cmpT eqD (varM 4) (retM (.d (.int 0)))) (seqM (setM 9 (dataM (ifM (cmpT eqD (lenM (varM 3)) (retM (.d (.int 1)))) (tupM (consM (retM (.d (.str "refused"))) (consM (retM (.d (.str "ask"))) (retM [])))) (retM (.d .none)))))
    (seqM (ifM (isNT false (varM 9)) (exprS (mutM 3 popD (retM []))) (retM .nx))
    (retS (dataM (cmpM eqD (frzM (callM 3 F__law_told (consM (varM 2) (consM (retM (.d (.str "back"))) (consM (retM (.d (.int 0))) (retM [])))))) (varM 9)))))) (retM .nx))
    (seqM (ifM (cmpT eqD (varM 4) (retM (.d (.int 1)))) (seqM (setM 10 (callM 3 F__law_pick (consM (varM 0) (consM (varM 1) (consM (frzM (lstM (consM (frzM (un1 negD (retM (.d (.int 1))))) (consM (retM (.d (.int 20))) (retM []))))) (retM []))))))
    (retS (dataM (cmpM eqD (frzM (lcM (itT (tupM (consM (retM (.d (.str "ask"))) (consM (retM (.d (.str "forget"))) (retM []))))) (.one 11) (retM true) e__law_call_1)) (frzM (bin2 mulD (frzM (lstM (consM (tupM (consM (retM (.d (.str "refused"))) (consM (retM (.d (.str "row"))) (retM [])))) (retM [])))) (retM (.d (.int 2))))))))) (retM .nx))
    (seqM (ifM (cmpT eqD (varM 4) (retM (.d (.int 2)))) (seqM (ifM (cmpT ninD (varM 5) (varM 7)) (retS (dataM (cmpM eqD (frzM (callM 3 F__law_told (consM (varM 2) (consM (retM (.d (.str "forget"))) (consM (varM 5) (retM [])))))) (tupM (consM (retM (.d (.str "refused"))) (consM (retM (.d (.str "ask"))) (retM []))))))) (retM .nx))
    (seqM (exprS (mutM 3 appD (consM (tupM (consM (frzM (lcM (itM (varM 7)) (.one 12) (cmpT neD (varM 12) (varM 5)) (varM 12))) (consM (varM 8) (retM [])))) (retM []))))
    (retS (dataM (isN false (frzM (callM 3 F__law_told (consM (varM 2) (consM (retM (.d (.str "forget"))) (consM (varM 5) (retM []))))))))))) (retM .nx))
    (seqM (ifM (cmpT eqD (lenM (varM 8)) (retM (.d (.int 24)))) (retS (dataM (cmpM eqD (frzM (callM 3 F__law_told (consM (varM 2) (consM (retM (.d (.str "ask"))) (consM (varM 5) (retM [])))))) (tupM (consM (retM (.d (.str "refused"))) (consM (retM (.d (.str "ask"))) (retM []))))))) (retM .nx))
    (seqM (setM 6 (dataM (ifM (cmpT inD (varM 5) (varM 7)) (frzM (bin2 addD (meM (lookD indexD) (varM 7) (consM (varM 5) (retM []))) (retM (.d (.int 1))))) (retM (.d .none)))))
    (seqM (exprS (mutM 3 appD (consM (tupM (consM (frzM (bin2 addD (frzM (lstM (consM (varM 5) (retM [])))) (frzM (lcM (itM (varM 7)) (.one 12) (cmpT neD (varM 12) (varM 5)) (varM 12))))) (consM (frzM (bin2 addD (varM 8) (frzM (lstM (consM (varM 6) (retM [])))))) (retM [])))) (retM []))))
    (retS (dataM (cmpM eqD (frzM (callM 3 F__law_told (consM (varM 2) (consM (retM (.d (.str "ask"))) (consM (varM 5) (retM [])))))) (varM 6)))))))))))))
def F__law_call : Fn := bodyF 13 f__law_call
/-! law -/
abbrev s_law : Stmt := top 26
theorem sc_law : FnScope ["script", "town", "meter", "past", "k", "hits", "share", "kept_names", "told", "due", "room", "bad", "depth"] ["script"] (defScope s_law) := ⟨rfl, rfl, rfl, by decide +kernel, rfl, by decide +kernel, by decide +kernel⟩
def t_law_1 : M Bool :=
    (andM (isNT true (varM 12)) (cmpT leI (varM 12) (varM 10)))
theorem t_law_1_ap (ρ : Ev) : t_law_1 ρ =
    (andM (isNT true (varM 12)) (cmpT leI (varM 12) (varM 10))) ρ := rfl
def e_law_1 : M Av :=
    (lenM (frzM (lcM (itM (varM 8)) (.one 12) t_law_1 (varM 12))))
theorem e_law_1_ap (ρ : Ev) : e_law_1 ρ =
    (lenM (frzM (lcM (itM (varM 8)) (.one 12) t_law_1 (varM 12)))) ρ := rfl
def e_law_2 : M Av :=
    (frzM (callM 3 F__law_told (consM (varM 2) (consM (retM (.d (.str "hits"))) (consM (varM 10) (retM []))))))
theorem e_law_2_ap (ρ : Ev) : e_law_2 ρ =
    (frzM (callM 3 F__law_told (consM (varM 2) (consM (retM (.d (.str "hits"))) (consM (varM 10) (retM [])))))) ρ := rfl
def t_law_2 : M Bool :=
    (cmpT geI (frzM (bin2 ixD (varM 5) (varM 10))) (varM 6))
theorem t_law_2_ap (ρ : Ev) : t_law_2 ρ =
    (cmpT geI (frzM (bin2 ixD (varM 5) (varM 10))) (varM 6)) ρ := rfl
def b_law_1 : M Fl :=
    (seqM (setM 9 (lcM (rg1 (consM (retM (.d (.int 26))) (retM []))) (.one 10) t_law_2 (varM 10)))
    (ifM (cmpT neD (frzM (methM 2 F_Meter_least_room 2 (consM (varM 6) (retM [])))) (ifM (cmpT neD (varM 9) (frzM (lstM (retM [])))) (frzM (bin2 ixD (varM 9) (retM (.d (.int 0))))) (retM (.d .none)))) (retS (dataM (retM (.d (.bool false))))) (retM .nx)))
theorem b_law_1_ap (ρ : Ev) : b_law_1 ρ =
    (seqM (setM 9 (lcM (rg1 (consM (retM (.d (.int 26))) (retM []))) (.one 10) t_law_2 (varM 10)))
    (ifM (cmpT neD (frzM (methM 2 F_Meter_least_room 2 (consM (varM 6) (retM [])))) (ifM (cmpT neD (varM 9) (frzM (lstM (retM [])))) (frzM (bin2 ixD (varM 9) (retM (.d (.int 0))))) (retM (.d .none)))) (retS (dataM (retM (.d (.bool false))))) (retM .nx))) ρ := rfl
def b_law_2 : M Fl :=
    (seqM (ifM (notM (testM (frzM (callM 4 F__law_call (consM (varM 0) (consM (varM 1) (consM (varM 2) (consM (varM 3) (retM []))))))))) (retS (dataM (retM (.d (.bool false))))) (retM .nx))
    (seqM (asgM (frzM (bin2 ixD (varM 3) (frzM (un1 negD (retM (.d (.int 1))))))) (.tup [7, 8]))
    (seqM (ifM (orM (cmpT neD (frzM (methM 1 F_Meter_stack 2 (retM []))) (varM 7)) (cmpT neD (frzM (methM 1 F_Meter_asks 2 (retM []))) (lenM (varM 8)))) (retS (dataM (retM (.d (.bool false))))) (retM .nx))
    (seqM (exprS (tmpM (methM 1 F_Meter_stack 2 (retM [])) (consM (retM (.d (.int 0))) (retM []))))
    (seqM (setM 5 (lcM (rg1 (consM (retM (.d (.int 26))) (retM []))) (.one 10) (retM true) e_law_1))
    (seqM (ifM (cmpT neD (frzM (lcM (rg1 (consM (retM (.d (.int 13))) (retM []))) (.one 10) (retM true) e_law_2)) (frzM (sliceM (varM 5) partN (partS (retM (.d (.int 13))))))) (retS (dataM (retM (.d (.bool false))))) (retM .nx))
    (forM (itM (frzM (lstM (consM (frzM (un1 negD (retM (.d (.int 1))))) (consM (retM (.d (.int 0))) (consM (retM (.d (.int 1))) (consM (frzM (bin2 ixD (varM 5) (frzM (un1 negD (retM (.d (.int 1))))))) (consM (frzM (bin2 addD (frzM (bin2 ixD (varM 5) (frzM (un1 negD (retM (.d (.int 1))))))) (retM (.d (.int 1))))) (consM (frzM (callM 3 F__law_draw (consM (varM 0) (consM (varM 1) (consM (retM (.d (.int 25))) (retM [])))))) (retM [])))))))))) (.one 6) b_law_1)))))))
theorem b_law_2_ap (ρ : Ev) : b_law_2 ρ =
    (seqM (ifM (notM (testM (frzM (callM 4 F__law_call (consM (varM 0) (consM (varM 1) (consM (varM 2) (consM (varM 3) (retM []))))))))) (retS (dataM (retM (.d (.bool false))))) (retM .nx))
    (seqM (asgM (frzM (bin2 ixD (varM 3) (frzM (un1 negD (retM (.d (.int 1))))))) (.tup [7, 8]))
    (seqM (ifM (orM (cmpT neD (frzM (methM 1 F_Meter_stack 2 (retM []))) (varM 7)) (cmpT neD (frzM (methM 1 F_Meter_asks 2 (retM []))) (lenM (varM 8)))) (retS (dataM (retM (.d (.bool false))))) (retM .nx))
    (seqM (exprS (tmpM (methM 1 F_Meter_stack 2 (retM [])) (consM (retM (.d (.int 0))) (retM []))))
    (seqM (setM 5 (lcM (rg1 (consM (retM (.d (.int 26))) (retM []))) (.one 10) (retM true) e_law_1))
    (seqM (ifM (cmpT neD (frzM (lcM (rg1 (consM (retM (.d (.int 13))) (retM []))) (.one 10) (retM true) e_law_2)) (frzM (sliceM (varM 5) partN (partS (retM (.d (.int 13))))))) (retS (dataM (retM (.d (.bool false))))) (retM .nx))
    (forM (itM (frzM (lstM (consM (frzM (un1 negD (retM (.d (.int 1))))) (consM (retM (.d (.int 0))) (consM (retM (.d (.int 1))) (consM (frzM (bin2 ixD (varM 5) (frzM (un1 negD (retM (.d (.int 1))))))) (consM (frzM (bin2 addD (frzM (bin2 ixD (varM 5) (frzM (un1 negD (retM (.d (.int 1))))))) (retM (.d (.int 1))))) (consM (frzM (callM 3 F__law_draw (consM (varM 0) (consM (varM 1) (consM (retM (.d (.int 25))) (retM [])))))) (retM [])))))))))) (.one 6) b_law_1))))))) ρ := rfl
def e_law_3 : M Av :=
    (frzM (callM 3 F__law_told (consM (varM 2) (consM (retM (.d (.str "hits"))) (consM (varM 11) (retM []))))))
theorem e_law_3_ap (ρ : Ev) : e_law_3 ρ =
    (frzM (callM 3 F__law_told (consM (varM 2) (consM (retM (.d (.str "hits"))) (consM (varM 11) (retM [])))))) ρ := rfl
def f_law : M Fl :=
    (seqM (setM 1 (lstM (retM [])))
    (seqM (newMt 2)
    (seqM (setM 3 (lstM (consM (tupM (consM (frzM (lstM (retM []))) (consM (frzM (lstM (retM []))) (retM [])))) (retM []))))
    (seqM (forM (rg1 (consM (frzM (callM 3 F__law_draw (consM (varM 0) (consM (varM 1) (consM (retM (.d (.int 41))) (retM [])))))) (retM []))) (.one 4) b_law_2)
    (retS (dataM (cmpM eqD (frzM (lcM (itT (tupM (consM (frzM (un1 negD (retM (.d (.int 1))))) (consM (retM (.d (.int 13))) (retM []))))) (.one 11) (retM true) e_law_3)) (frzM (bin2 mulD (frzM (lstM (consM (tupM (consM (retM (.d (.str "refused"))) (consM (retM (.d (.str "room"))) (retM [])))) (retM [])))) (retM (.d (.int 2))))))))))))
def F_law : Fn := bodyF 13 f_law
abbrev s_Meter_init : Stmt := inClass (top 17) 0
theorem sc_Meter_init : FnScope ["self"] ["self"] (defScope s_Meter_init) := ⟨rfl, rfl, rfl, by decide +kernel, rfl, by decide +kernel, by decide +kernel⟩
structure Tx (K : Fg) (mg : Str → Option Value) : Prop where
  z_ValueError : mg "ValueError" = none
  z_isinstance : mg "isinstance" = none
  z_len : mg "len" = none
  z_list : mg "list" = none
  z_range : mg "range" = none
  c_MOST_ASKS : ∃ t, mg "MOST_ASKS" = some (.int 24 t)
  c_MOST_NAME : ∃ t, mg "MOST_NAME" = some (.int 19 t)
  c_MOST_ROOM : ∃ t, mg "MOST_ROOM" = some (.int 12 t)
  x_BadRow : ExFact K mg 0
  x_BadRoom : ExFact K mg 1
  x_BadRule : ExFact K mg 2
  x_BadPlan : ExFact K mg 3
  x_BadDepths : ExFact K mg 4
  x_BadTurns : ExFact K mg 5
  x_BadAsk : ExFact K mg 6
  x_BadText : ExFact K mg 7
  i_BadAsk : Isi (bs K) (.ref (exC K 6)) (is8 6)
  i_BadDepths : Isi (bs K) (.ref (exC K 4)) (is8 4)
  i_BadPlan : Isi (bs K) (.ref (exC K 3)) (is8 3)
  i_BadRoom : Isi (bs K) (.ref (exC K 1)) (is8 1)
  i_BadRow : Isi (bs K) (.ref (exC K 0)) (is8 0)
  i_BadRule : Isi (bs K) (.ref (exC K 2)) (is8 2)
  i_BadText : Isi (bs K) (.ref (exC K 7)) (is8 7)
  i_BadTurns : Isi (bs K) (.ref (exC K 5)) (is8 5)
  i_ValueError : Isi (bs K) (.type "ValueError") (fun _ => true)
  gc_RoomError : mg "RoomError" = some (.ref (He.ga K "RoomError"))
  e_RoomError : Exs (bs K) (.ref (He.ga K "RoomError")) g_RoomError
  na_0 : NoAttr K (He.ga K "Meter") "names"
  na_1 : NoAttr K (He.ga K "Meter") "told"
  na_2 : NoAttr K (He.ga K "Meter") "past"
  cl : Cls K (He.ga K "Meter")
  mkr : L2.Mk K (He.ga K "Meter") (He.ma K (He.ga K "Meter") "__init__")
  g_Meter : mg "Meter" = some (.ref (He.ga K "Meter"))
  me_ask : Meth K (He.ga K "Meter") "ask" (He.ma K (He.ga K "Meter") "ask")
  me_asks : Meth K (He.ga K "Meter") "asks" (He.ma K (He.ga K "Meter") "asks")
  me_back : Meth K (He.ga K "Meter") "back" (He.ma K (He.ga K "Meter") "back")
  me_forget : Meth K (He.ga K "Meter") "forget" (He.ma K (He.ga K "Meter") "forget")
  me_found_by : Meth K (He.ga K "Meter") "found_by" (He.ma K (He.ga K "Meter") "found_by")
  me_hits : Meth K (He.ga K "Meter") "hits" (He.ma K (He.ga K "Meter") "hits")
  me_least_room : Meth K (He.ga K "Meter") "least_room" (He.ma K (He.ga K "Meter") "least_room")
  me_note : Meth K (He.ga K "Meter") "note" (He.ma K (He.ga K "Meter") "note")
  me_stack : Meth K (He.ga K "Meter") "stack" (He.ma K (He.ga K "Meter") "stack")
  g_look_name : mg "look_name" = some (.ref (He.ga K "look_name"))
  g_look_room : mg "look_room" = some (.ref (He.ga K "look_room"))
  g__law_cell : mg "_law_cell" = some (.ref (He.ga K "_law_cell"))
  g__law_mix : mg "_law_mix" = some (.ref (He.ga K "_law_mix"))
  g__law_draw : mg "_law_draw" = some (.ref (He.ga K "_law_draw"))
  g__law_pick : mg "_law_pick" = some (.ref (He.ga K "_law_pick"))
  g__law_refusal : mg "_law_refusal" = some (.ref (He.ga K "_law_refusal"))
  g__law_told : mg "_law_told" = some (.ref (He.ga K "_law_told"))
  g__law_call : mg "_law_call" = some (.ref (He.ga K "_law_call"))
  g_law : mg "law" = some (.ref (He.ga K "law"))
  lamNo : (!He.Fa.ok K (.glo "most_held")) = true
  d_look_name : ∃ fd, FunD K "look_name" "look_name" (defArgs s_look_name) (defBody s_look_name) (defScope s_look_name) [] [] (He.ga K "look_name") fd
  d_look_room : ∃ fd, FunD K "look_room" "look_room" (defArgs s_look_room) (defBody s_look_room) (defScope s_look_room) [] [] (He.ga K "look_room") fd
  d_Meter_note : ∃ fd, FunD K "note" "Meter.note" (defArgs s_Meter_note) (defBody s_Meter_note) (defScope s_Meter_note) [] [] (He.ma K (He.ga K "Meter") "note") fd
  d_Meter_ask : ∃ fd, FunD K "ask" "Meter.ask" (defArgs s_Meter_ask) (defBody s_Meter_ask) (defScope s_Meter_ask) [] [] (He.ma K (He.ga K "Meter") "ask") fd
  d_Meter_forget : ∃ fd, FunD K "forget" "Meter.forget" (defArgs s_Meter_forget) (defBody s_Meter_forget) (defScope s_Meter_forget) [] [] (He.ma K (He.ga K "Meter") "forget") fd
  d_Meter_back : ∃ fd, FunD K "back" "Meter.back" (defArgs s_Meter_back) (defBody s_Meter_back) (defScope s_Meter_back) [] [] (He.ma K (He.ga K "Meter") "back") fd
  d_Meter_stack : ∃ fd, FunD K "stack" "Meter.stack" (defArgs s_Meter_stack) (defBody s_Meter_stack) (defScope s_Meter_stack) [] [] (He.ma K (He.ga K "Meter") "stack") fd
  d_Meter_asks : ∃ fd, FunD K "asks" "Meter.asks" (defArgs s_Meter_asks) (defBody s_Meter_asks) (defScope s_Meter_asks) [] [] (He.ma K (He.ga K "Meter") "asks") fd
  d_Meter_hits : ∃ fd, FunD K "hits" "Meter.hits" (defArgs s_Meter_hits) (defBody s_Meter_hits) (defScope s_Meter_hits) [] [] (He.ma K (He.ga K "Meter") "hits") fd
  d_Meter_found_by : ∃ fd, FunD K "found_by" "Meter.found_by" (defArgs s_Meter_found_by) (defBody s_Meter_found_by) (defScope s_Meter_found_by) [] [] (He.ma K (He.ga K "Meter") "found_by") fd
  d_Meter_least_room : ∃ fd, FunD K "least_room" "Meter.least_room" (defArgs s_Meter_least_room) (defBody s_Meter_least_room) (defScope s_Meter_least_room) [] [] (He.ma K (He.ga K "Meter") "least_room") fd
  d__law_cell : ∃ fd, FunD K "_law_cell" "_law_cell" (defArgs s__law_cell) (defBody s__law_cell) (defScope s__law_cell) [] [] (He.ga K "_law_cell") fd
  d__law_mix : ∃ fd, FunD K "_law_mix" "_law_mix" (defArgs s__law_mix) (defBody s__law_mix) (defScope s__law_mix) [] [] (He.ga K "_law_mix") fd
  d__law_draw : ∃ fd, FunD K "_law_draw" "_law_draw" (defArgs s__law_draw) (defBody s__law_draw) (defScope s__law_draw) [] [] (He.ga K "_law_draw") fd
  d__law_pick : ∃ fd, FunD K "_law_pick" "_law_pick" (defArgs s__law_pick) (defBody s__law_pick) (defScope s__law_pick) [] [] (He.ga K "_law_pick") fd
  d__law_refusal : ∃ fd, FunD K "_law_refusal" "_law_refusal" (defArgs s__law_refusal) (defBody s__law_refusal) (defScope s__law_refusal) [] [] (He.ga K "_law_refusal") fd
  d__law_told : ∃ fd, FunD K "_law_told" "_law_told" (defArgs s__law_told) (defBody s__law_told) (defScope s__law_told) [] [] (He.ga K "_law_told") fd
  d__law_call : ∃ fd, FunD K "_law_call" "_law_call" (defArgs s__law_call) (defBody s__law_call) (defScope s__law_call) [] [] (He.ga K "_law_call") fd
  d_law : ∃ fd, FunD K "law" "law" (defArgs s_law) (defBody s_law) (defScope s_law) [] [] (He.ga K "law") fd
  d_Meter_init : ∃ fd, FunD K "__init__" "Meter.__init__" (defArgs s_Meter_init) (defBody s_Meter_init) (defScope s_Meter_init) [] [] (He.ma K (He.ga K "Meter") "__init__") fd
theorem Tx.mc {K : Fg} {mg : Str → Option Value} (T : Tx K mg) : McOk K (He.ga K "Meter") := ⟨T.cl, fun k => match k with | 0 => T.na_0 | 1 => T.na_1 | _ + 2 => T.na_2⟩
section
variable {P : Program} {w : World} {K : Fg} {mg : Str → Option Value} {base : Heap}
theorem ok_Meter_init (T : Tx K mg) : ∃ fd, FnOk P w K mg base CX0 1 (He.ma K (He.ga K "Meter") "__init__") fd ["self"] (spMk (He.ga K "Meter")) ∧ Binds K fd ["self"] [] := by
  obtain ⟨fd, F⟩ := T.d_Meter_init
  refine ⟨fd, FunD.ok (CX := CX0) F sc_Meter_init (fun vs H Q E h => ?_) (fun cdv A outer s H vs Q E hr h => ?_), F.bindsN (fun _ _ _ _ _ _ us hl => match us, hl with | [_], _ => rfl)⟩
  · obtain ⟨p, dx, rfl, _⟩ := h
    rfl
  · obtain ⟨p, dx, e, h2⟩ := h
    subst e
    exact init_body (E := E) (C := He.ga K "Meter") T.mc (fun _ => pv 0) rfl ⟨p, dx, rfl, h2⟩
theorem ok_look_name (T : Tx K mg) : ∃ fd, FnOk P w K mg base (L2.CX P w) 1 (He.ga K "look_name") fd ["name"] (spF (bs K) 1 F_look_name) ∧ Binds K fd ["name"] [] ∧ PySem.W.keepIn K (.ref (He.ga K "look_name")) = true := by
  obtain ⟨fd, F⟩ := T.d_look_name
  refine ⟨fd, fn_body F sc_look_name (fun cdv A outer s H E hr => ?_), F.bindsN (fun _ _ _ _ _ _ us hl => match us, hl with | [_], _ => rfl), F.kp⟩
  have tk : Takes (cxOf (L2.CX P w) P w K mg base ["name"] "look_name" (defScope s_look_name) (He.ga K "look_name") cdv A outer s H E) (WF E) := takes_of rfl rfl rfl rfl
  have po : PassesOwn (model P w) (A.deeper (PyProof.Rows.envOfC "look_name" (defScope s_look_name) s.heap.objs.size (He.ga K "look_name") cdv)) (PyProof.Rows.envOfC "look_name" (defScope s_look_name) s.heap.objs.size (He.ga K "look_name") cdv) (cxOf (L2.CX P w) P w K mg base ["name"] "look_name" (defScope s_look_name) (He.ga K "look_name") cdv A outer s H E).xe := passes_of (X := cxOf (L2.CX P w) P w K mg base ["name"] "look_name" (defScope s_look_name) (He.ga K "look_name") cdv A outer s H E) rfl
  have hu1 := hu_of hr
  exact (s_one (s_if (m_not (m_chainT op_le t_le op_le t_le m_int (m_var 0 (pv 0)) (m_gint rfl T.c_MOST_NAME))) (s_one (s_raiseX (k := 0) rfl T.x_BadRow rfl rfl rfl tk)) s_nil))
theorem ok_look_room (T : Tx K mg) : ∃ fd, FnOk P w K mg base (L2.CX P w) 1 (He.ga K "look_room") fd ["room"] (spF (bs K) 1 F_look_room) ∧ Binds K fd ["room"] [] ∧ PySem.W.keepIn K (.ref (He.ga K "look_room")) = true := by
  obtain ⟨fd, F⟩ := T.d_look_room
  refine ⟨fd, fn_body F sc_look_room (fun cdv A outer s H E hr => ?_), F.bindsN (fun _ _ _ _ _ _ us hl => match us, hl with | [_], _ => rfl), F.kp⟩
  have tk : Takes (cxOf (L2.CX P w) P w K mg base ["room"] "look_room" (defScope s_look_room) (He.ga K "look_room") cdv A outer s H E) (WF E) := takes_of rfl rfl rfl rfl
  have po : PassesOwn (model P w) (A.deeper (PyProof.Rows.envOfC "look_room" (defScope s_look_room) s.heap.objs.size (He.ga K "look_room") cdv)) (PyProof.Rows.envOfC "look_room" (defScope s_look_room) s.heap.objs.size (He.ga K "look_room") cdv) (cxOf (L2.CX P w) P w K mg base ["room"] "look_room" (defScope s_look_room) (He.ga K "look_room") cdv A outer s H E).xe := passes_of (X := cxOf (L2.CX P w) P w K mg base ["room"] "look_room" (defScope s_look_room) (He.ga K "look_room") cdv A outer s H E) rfl
  have hu1 := hu_of hr
  exact (s_one (s_if (m_not (m_chainT op_le t_le op_le t_le m_int (m_var 0 (pv 0)) (m_gint rfl T.c_MOST_ROOM))) (s_one (s_raiseX (k := 1) rfl T.x_BadRoom rfl rfl rfl tk)) s_nil))
theorem ok_Meter_note (T : Tx K mg) : ∃ fd, FnOk P w K mg base (L2.CX P w) 1 (He.ma K (He.ga K "Meter") "note") fd ["self"] (spF (bs K) 1 F_Meter_note) ∧ Binds K fd ["self"] [] ∧ PySem.W.keepIn K (.ref (He.ma K (He.ga K "Meter") "note")) = true := by
  obtain ⟨fd, F⟩ := T.d_Meter_note
  refine ⟨fd, fn_body F sc_Meter_note (fun cdv A outer s H E hr => ?_), F.bindsN (fun _ _ _ _ _ _ us hl => match us, hl with | [_], _ => rfl), F.kp⟩
  have tk : Takes (cxOf (L2.CX P w) P w K mg base ["self"] "Meter.note" (defScope s_Meter_note) (He.ma K (He.ga K "Meter") "note") cdv A outer s H E) (WF E) := takes_of rfl rfl rfl rfl
  have po : PassesOwn (model P w) (A.deeper (PyProof.Rows.envOfC "Meter.note" (defScope s_Meter_note) s.heap.objs.size (He.ma K (He.ga K "Meter") "note") cdv)) (PyProof.Rows.envOfC "Meter.note" (defScope s_Meter_note) s.heap.objs.size (He.ma K (He.ga K "Meter") "note") cdv) (cxOf (L2.CX P w) P w K mg base ["self"] "Meter.note" (defScope s_Meter_note) (He.ma K (He.ga K "Meter") "note") cdv A outer s H E).xe := passes_of (X := cxOf (L2.CX P w) P w K mg base ["self"] "Meter.note" (defScope s_Meter_note) (He.ma K (He.ga K "Meter") "note") cdv A outer s H E) rfl
  have hu1 := hu_of hr
  exact (s_one (s_note rfl T.mc rfl T.z_list (fun _ => pv 0) rfl))
theorem ok_Meter_ask (T : Tx K mg) : ∃ fd, FnOk P w K mg base (L2.CX P w) 2 (He.ma K (He.ga K "Meter") "ask") fd ["self", "name"] (spF (bs K) 2 F_Meter_ask) ∧ Binds K fd ["self", "name"] [] ∧ PySem.W.keepIn K (.ref (He.ma K (He.ga K "Meter") "ask")) = true := by
  obtain ⟨fd, F⟩ := T.d_Meter_ask
  obtain ⟨fd_Meter_note, ok_Meter_note, b_Meter_note, k_Meter_note⟩ := ok_Meter_note (P := P) (w := w) (base := base) T
  obtain ⟨fd_look_name, ok_look_name, b_look_name, k_look_name⟩ := ok_look_name (P := P) (w := w) (base := base) T
  refine ⟨fd, fn_body F sc_Meter_ask (fun cdv A outer s H E hr => ?_), F.bindsN (fun _ _ _ _ _ _ us hl => match us, hl with | [_, _], _ => rfl), F.kp⟩
  have tk : Takes (cxOf (L2.CX P w) P w K mg base ["self", "name", "depth", "other"] "Meter.ask" (defScope s_Meter_ask) (He.ma K (He.ga K "Meter") "ask") cdv A outer s H E) (WF E) := takes_of rfl rfl rfl rfl
  have po : PassesOwn (model P w) (A.deeper (PyProof.Rows.envOfC "Meter.ask" (defScope s_Meter_ask) s.heap.objs.size (He.ma K (He.ga K "Meter") "ask") cdv)) (PyProof.Rows.envOfC "Meter.ask" (defScope s_Meter_ask) s.heap.objs.size (He.ma K (He.ga K "Meter") "ask") cdv) (cxOf (L2.CX P w) P w K mg base ["self", "name", "depth", "other"] "Meter.ask" (defScope s_Meter_ask) (He.ma K (He.ga K "Meter") "ask") cdv A outer s H E).xe := passes_of (X := cxOf (L2.CX P w) P w K mg base ["self", "name", "depth", "other"] "Meter.ask" (defScope s_Meter_ask) (He.ma K (He.ga K "Meter") "ask") cdv A outer s H E) rfl
  have hu1 := hu_of hr
  exact (s_cons (s_expr (m_call ok_look_name (hr.mono (by decide)) rfl T.g_look_name k_look_name b_look_name tk (m_cons (m_var 1 (pv 1)) m_nil)))
    (s_cons (s_if (m_tcmp (o_eq hr.units) (tells_two _) (m_lenO rfl rfl T.z_len (m_fld (k := 1) rfl T.mc (pv 0))) (m_gint rfl T.c_MOST_ASKS) (nomark _)) (s_one (s_raiseX (k := 6) rfl T.x_BadAsk rfl rfl rfl tk)) s_nil)
    (s_cons (s_expr (m_meth0 T.mc.cl T.me_note ok_Meter_note (hr.mono (by decide)) b_Meter_note tk (fun _ _ _ => mf_no (by decide +kernel) (by decide +kernel) (by decide +kernel)) (pv 0)))
    (s_cons (s_set (i := 2) sc_Meter_ask.nd rfl (by first | exact Or.inl rfl | exact Or.inr rfl) (m_data (m_ifE (m_tcmpO (o_in hr.units) (tells_two _) (m_var 1 (pv 1)) (m_fld (k := 0) rfl T.mc (pv 0)) (by rfl)) (m_frz (m_add (m_idxF (k := 0) rfl T.mc hr.units (pv 0) (pv 1) (fun h1 h2 h3 => pe_bm PySem.F.plainAttrs_list PySem.F.slot_list_index PySem.F.type_list_index h1 h2 h3)) m_int)) m_non)))
    (s_cons (s_setN rfl T.mc (pv 0) (m_add (m_frz (m_lst (m_cons (m_var 1 (pv 1)) m_nil))) (m_frz (m_lcF (k := 0) (y := "other") (v := 3) (pr := prNe 1) rfl T.mc rfl sc_Meter_ask.nd (pv 0) (blkOk_by (own := [("other", 3)]) (by kernel_rfl)) (fun _ _ _ _ _ => pg_name (i := 3) sc_Meter_ask.nd rfl (by first | exact Or.inl rfl | exact Or.inr rfl)) (fun _ _ _ _ _ => pts_one (pt_cmpR op_ne (pv 3) (pv 1) (nomark _))) (fun _ _ _ _ _ => pv 3) (fun h1 h2 h3 h4 h5 => tt_ne (by decide) h1 h2 h3 h4 h5)))))
    (s_cons (s_appF rfl T.mc (pv 0) (pv 2) rfl)
    (s_one (s_retO 2 (pv 2)))))))))
theorem ok_Meter_forget (T : Tx K mg) : ∃ fd, FnOk P w K mg base (L2.CX P w) 2 (He.ma K (He.ga K "Meter") "forget") fd ["self", "name"] (spF (bs K) 2 F_Meter_forget) ∧ Binds K fd ["self", "name"] [] ∧ PySem.W.keepIn K (.ref (He.ma K (He.ga K "Meter") "forget")) = true := by
  obtain ⟨fd, F⟩ := T.d_Meter_forget
  obtain ⟨fd_Meter_note, ok_Meter_note, b_Meter_note, k_Meter_note⟩ := ok_Meter_note (P := P) (w := w) (base := base) T
  obtain ⟨fd_look_name, ok_look_name, b_look_name, k_look_name⟩ := ok_look_name (P := P) (w := w) (base := base) T
  refine ⟨fd, fn_body F sc_Meter_forget (fun cdv A outer s H E hr => ?_), F.bindsN (fun _ _ _ _ _ _ us hl => match us, hl with | [_, _], _ => rfl), F.kp⟩
  have tk : Takes (cxOf (L2.CX P w) P w K mg base ["self", "name"] "Meter.forget" (defScope s_Meter_forget) (He.ma K (He.ga K "Meter") "forget") cdv A outer s H E) (WF E) := takes_of rfl rfl rfl rfl
  have po : PassesOwn (model P w) (A.deeper (PyProof.Rows.envOfC "Meter.forget" (defScope s_Meter_forget) s.heap.objs.size (He.ma K (He.ga K "Meter") "forget") cdv)) (PyProof.Rows.envOfC "Meter.forget" (defScope s_Meter_forget) s.heap.objs.size (He.ma K (He.ga K "Meter") "forget") cdv) (cxOf (L2.CX P w) P w K mg base ["self", "name"] "Meter.forget" (defScope s_Meter_forget) (He.ma K (He.ga K "Meter") "forget") cdv A outer s H E).xe := passes_of (X := cxOf (L2.CX P w) P w K mg base ["self", "name"] "Meter.forget" (defScope s_Meter_forget) (He.ma K (He.ga K "Meter") "forget") cdv A outer s H E) rfl
  have hu1 := hu_of hr
  exact (s_cons (s_expr (m_call ok_look_name (hr.mono (by decide)) rfl T.g_look_name k_look_name b_look_name tk (m_cons (m_var 1 (pv 1)) m_nil)))
    (s_cons (s_if (m_tcmpO (o_nin hr.units) (tells_two _) (m_var 1 (pv 1)) (m_fld (k := 0) rfl T.mc (pv 0)) (by rfl)) (s_one (s_raiseX (k := 6) rfl T.x_BadAsk rfl rfl rfl tk)) s_nil)
    (s_cons (s_expr (m_meth0 T.mc.cl T.me_note ok_Meter_note (hr.mono (by decide)) b_Meter_note tk (fun _ _ _ => mf_no (by decide +kernel) (by decide +kernel) (by decide +kernel)) (pv 0)))
    (s_one (s_remN rfl T.mc (pv 0) (pv 1) rfl)))))
theorem ok_Meter_back (T : Tx K mg) : ∃ fd, FnOk P w K mg base (L2.CX P w) 1 (He.ma K (He.ga K "Meter") "back") fd ["self"] (spF (bs K) 1 F_Meter_back) ∧ Binds K fd ["self"] [] ∧ PySem.W.keepIn K (.ref (He.ma K (He.ga K "Meter") "back")) = true := by
  obtain ⟨fd, F⟩ := T.d_Meter_back
  refine ⟨fd, fn_body F sc_Meter_back (fun cdv A outer s H E hr => ?_), F.bindsN (fun _ _ _ _ _ _ us hl => match us, hl with | [_], _ => rfl), F.kp⟩
  have tk : Takes (cxOf (L2.CX P w) P w K mg base ["self"] "Meter.back" (defScope s_Meter_back) (He.ma K (He.ga K "Meter") "back") cdv A outer s H E) (WF E) := takes_of rfl rfl rfl rfl
  have po : PassesOwn (model P w) (A.deeper (PyProof.Rows.envOfC "Meter.back" (defScope s_Meter_back) s.heap.objs.size (He.ma K (He.ga K "Meter") "back") cdv)) (PyProof.Rows.envOfC "Meter.back" (defScope s_Meter_back) s.heap.objs.size (He.ma K (He.ga K "Meter") "back") cdv) (cxOf (L2.CX P w) P w K mg base ["self"] "Meter.back" (defScope s_Meter_back) (He.ma K (He.ga K "Meter") "back") cdv A outer s H E).xe := passes_of (X := cxOf (L2.CX P w) P w K mg base ["self"] "Meter.back" (defScope s_Meter_back) (He.ma K (He.ga K "Meter") "back") cdv A outer s H E) rfl
  have hu1 := hu_of hr
  exact (s_cons (s_if (m_not (m_truP rfl T.mc (pv 0))) (s_one (s_raiseX (k := 6) rfl T.x_BadAsk rfl rfl rfl tk)) s_nil)
    (s_one (s_back rfl T.mc (ps_asg (pe_bm0 PySem.F.plainAttrs_list PySem.F.slot_list_pop PySem.F.type_list_pop mt_pop (pe_fld (pv 0) rfl)) (pg_tup rfl (pgs_cons (pg_fld (pv 0)) (pgs_cons (pg_fld (pv 0)) pgs_nil)))))))
theorem ok_Meter_stack (T : Tx K mg) : ∃ fd, FnOk P w K mg base (L2.CX P w) 1 (He.ma K (He.ga K "Meter") "stack") fd ["self"] (spF (bs K) 1 F_Meter_stack) ∧ Binds K fd ["self"] [] ∧ PySem.W.keepIn K (.ref (He.ma K (He.ga K "Meter") "stack")) = true := by
  obtain ⟨fd, F⟩ := T.d_Meter_stack
  refine ⟨fd, fn_body F sc_Meter_stack (fun cdv A outer s H E hr => ?_), F.bindsN (fun _ _ _ _ _ _ us hl => match us, hl with | [_], _ => rfl), F.kp⟩
  have tk : Takes (cxOf (L2.CX P w) P w K mg base ["self"] "Meter.stack" (defScope s_Meter_stack) (He.ma K (He.ga K "Meter") "stack") cdv A outer s H E) (WF E) := takes_of rfl rfl rfl rfl
  have po : PassesOwn (model P w) (A.deeper (PyProof.Rows.envOfC "Meter.stack" (defScope s_Meter_stack) s.heap.objs.size (He.ma K (He.ga K "Meter") "stack") cdv)) (PyProof.Rows.envOfC "Meter.stack" (defScope s_Meter_stack) s.heap.objs.size (He.ma K (He.ga K "Meter") "stack") cdv) (cxOf (L2.CX P w) P w K mg base ["self"] "Meter.stack" (defScope s_Meter_stack) (He.ma K (He.ga K "Meter") "stack") cdv A outer s H E).xe := passes_of (X := cxOf (L2.CX P w) P w K mg base ["self"] "Meter.stack" (defScope s_Meter_stack) (He.ma K (He.ga K "Meter") "stack") cdv A outer s H E) rfl
  have hu1 := hu_of hr
  exact (s_one (s_ret (m_listO rfl rfl T.z_list (m_fld (k := 0) rfl T.mc (pv 0)))))
theorem ok_Meter_asks (T : Tx K mg) : ∃ fd, FnOk P w K mg base (L2.CX P w) 1 (He.ma K (He.ga K "Meter") "asks") fd ["self"] (spF (bs K) 1 F_Meter_asks) ∧ Binds K fd ["self"] [] ∧ PySem.W.keepIn K (.ref (He.ma K (He.ga K "Meter") "asks")) = true := by
  obtain ⟨fd, F⟩ := T.d_Meter_asks
  refine ⟨fd, fn_body F sc_Meter_asks (fun cdv A outer s H E hr => ?_), F.bindsN (fun _ _ _ _ _ _ us hl => match us, hl with | [_], _ => rfl), F.kp⟩
  have tk : Takes (cxOf (L2.CX P w) P w K mg base ["self"] "Meter.asks" (defScope s_Meter_asks) (He.ma K (He.ga K "Meter") "asks") cdv A outer s H E) (WF E) := takes_of rfl rfl rfl rfl
  have po : PassesOwn (model P w) (A.deeper (PyProof.Rows.envOfC "Meter.asks" (defScope s_Meter_asks) s.heap.objs.size (He.ma K (He.ga K "Meter") "asks") cdv)) (PyProof.Rows.envOfC "Meter.asks" (defScope s_Meter_asks) s.heap.objs.size (He.ma K (He.ga K "Meter") "asks") cdv) (cxOf (L2.CX P w) P w K mg base ["self"] "Meter.asks" (defScope s_Meter_asks) (He.ma K (He.ga K "Meter") "asks") cdv A outer s H E).xe := passes_of (X := cxOf (L2.CX P w) P w K mg base ["self"] "Meter.asks" (defScope s_Meter_asks) (He.ma K (He.ga K "Meter") "asks") cdv A outer s H E) rfl
  have hu1 := hu_of hr
  exact (s_one (s_ret (m_data (m_lenO rfl rfl T.z_len (m_fld (k := 1) rfl T.mc (pv 0))))))
theorem ok_Meter_hits (T : Tx K mg) : ∃ fd, FnOk P w K mg base (L2.CX P w) 2 (He.ma K (He.ga K "Meter") "hits") fd ["self", "room"] (spF (bs K) 2 F_Meter_hits) ∧ Binds K fd ["self", "room"] [] ∧ PySem.W.keepIn K (.ref (He.ma K (He.ga K "Meter") "hits")) = true := by
  obtain ⟨fd, F⟩ := T.d_Meter_hits
  obtain ⟨fd_look_room, ok_look_room, b_look_room, k_look_room⟩ := ok_look_room (P := P) (w := w) (base := base) T
  refine ⟨fd, fn_body F sc_Meter_hits (fun cdv A outer s H E hr => ?_), F.bindsN (fun _ _ _ _ _ _ us hl => match us, hl with | [_, _], _ => rfl), F.kp⟩
  have tk : Takes (cxOf (L2.CX P w) P w K mg base ["self", "room", "depth"] "Meter.hits" (defScope s_Meter_hits) (He.ma K (He.ga K "Meter") "hits") cdv A outer s H E) (WF E) := takes_of rfl rfl rfl rfl
  have po : PassesOwn (model P w) (A.deeper (PyProof.Rows.envOfC "Meter.hits" (defScope s_Meter_hits) s.heap.objs.size (He.ma K (He.ga K "Meter") "hits") cdv)) (PyProof.Rows.envOfC "Meter.hits" (defScope s_Meter_hits) s.heap.objs.size (He.ma K (He.ga K "Meter") "hits") cdv) (cxOf (L2.CX P w) P w K mg base ["self", "room", "depth"] "Meter.hits" (defScope s_Meter_hits) (He.ma K (He.ga K "Meter") "hits") cdv A outer s H E).xe := passes_of (X := cxOf (L2.CX P w) P w K mg base ["self", "room", "depth"] "Meter.hits" (defScope s_Meter_hits) (He.ma K (He.ga K "Meter") "hits") cdv A outer s H E) rfl
  have hu1 := hu_of hr
  exact (s_cons (s_expr (m_call ok_look_room (hr.mono (by decide)) rfl T.g_look_room k_look_room b_look_room tk (m_cons (m_var 1 (pv 1)) m_nil)))
    (s_one (s_ret (m_data (m_len rfl rfl T.z_len (m_frz (m_lcF (k := 1) (y := "depth") (v := 2) (pr := prLe 1) rfl T.mc rfl sc_Meter_hits.nd (pv 0) (blkOk_by (own := [("depth", 2)]) (by kernel_rfl)) (fun _ _ _ _ _ => pg_name (i := 2) sc_Meter_hits.nd rfl (by first | exact Or.inl rfl | exact Or.inr rfl)) (fun _ _ _ _ _ => pts_one (PW.pt (pw_and (pt_cmp (pc_notN (pv 2))) (pw_and1 (pt_cmpR op_le (pv 2) (pv 1) (nomark _)))))) (fun _ _ _ _ _ => pv 2) (fun h1 h2 h3 h4 h5 => tt_le (by decide) h1 h2 h3 h4 h5))))))))
theorem ok_Meter_found_by (T : Tx K mg) : ∃ fd, FnOk P w K mg base (L2.CX P w) 1 (He.ma K (He.ga K "Meter") "found_by") fd ["self", "room"] (spF (bs K) 2 F_Meter_found_by) ∧ Binds K fd ["self", "room"] [] ∧ PySem.W.keepIn K (.ref (He.ma K (He.ga K "Meter") "found_by")) = true := by
  obtain ⟨fd, F⟩ := T.d_Meter_found_by
  refine ⟨fd, fn_body F sc_Meter_found_by (fun cdv A outer s H E hr => ?_), F.bindsN (fun _ _ _ _ _ _ us hl => match us, hl with | [_, _], _ => rfl), F.kp⟩
  have tk : Takes (cxOf (L2.CX P w) P w K mg base ["self", "room", "depth"] "Meter.found_by" (defScope s_Meter_found_by) (He.ma K (He.ga K "Meter") "found_by") cdv A outer s H E) (WF E) := takes_of rfl rfl rfl rfl
  have po : PassesOwn (model P w) (A.deeper (PyProof.Rows.envOfC "Meter.found_by" (defScope s_Meter_found_by) s.heap.objs.size (He.ma K (He.ga K "Meter") "found_by") cdv)) (PyProof.Rows.envOfC "Meter.found_by" (defScope s_Meter_found_by) s.heap.objs.size (He.ma K (He.ga K "Meter") "found_by") cdv) (cxOf (L2.CX P w) P w K mg base ["self", "room", "depth"] "Meter.found_by" (defScope s_Meter_found_by) (He.ma K (He.ga K "Meter") "found_by") cdv A outer s H E).xe := passes_of (X := cxOf (L2.CX P w) P w K mg base ["self", "room", "depth"] "Meter.found_by" (defScope s_Meter_found_by) (He.ma K (He.ga K "Meter") "found_by") cdv A outer s H E) rfl
  have hu1 := hu_of hr
  exact (s_one (s_ret (m_data (m_len rfl rfl T.z_len (m_frz (m_lcF (k := 1) (y := "depth") (v := 2) (pr := prLe 1) rfl T.mc rfl sc_Meter_found_by.nd (pv 0) (blkOk_by (own := [("depth", 2)]) (by kernel_rfl)) (fun _ _ _ _ _ => pg_name (i := 2) sc_Meter_found_by.nd rfl (by first | exact Or.inl rfl | exact Or.inr rfl)) (fun _ _ _ _ _ => pts_one (PW.pt (pw_and (pt_cmp (pc_notN (pv 2))) (pw_and1 (pt_cmpR op_le (pv 2) (pv 1) (nomark _)))))) (fun _ _ _ _ _ => pv 2) (fun h1 h2 h3 h4 h5 => tt_le (by decide) h1 h2 h3 h4 h5)))))))
theorem ok_Meter_least_room (T : Tx K mg) : ∃ fd, FnOk P w K mg base (L2.CX P w) 2 (He.ma K (He.ga K "Meter") "least_room") fd ["self", "share"] (spF (bs K) 2 F_Meter_least_room) ∧ Binds K fd ["self", "share"] [] ∧ PySem.W.keepIn K (.ref (He.ma K (He.ga K "Meter") "least_room")) = true := by
  obtain ⟨fd, F⟩ := T.d_Meter_least_room
  obtain ⟨fd_Meter_found_by, ok_Meter_found_by, b_Meter_found_by, k_Meter_found_by⟩ := ok_Meter_found_by (P := P) (w := w) (base := base) T
  refine ⟨fd, fn_body F sc_Meter_least_room (fun cdv A outer s H E hr => ?_), F.bindsN (fun _ _ _ _ _ _ us hl => match us, hl with | [_, _], _ => rfl), F.kp⟩
  have tk : Takes (cxOf (L2.CX P w) P w K mg base ["self", "share", "found", "room"] "Meter.least_room" (defScope s_Meter_least_room) (He.ma K (He.ga K "Meter") "least_room") cdv A outer s H E) (WF E) := takes_of rfl rfl rfl rfl
  have po : PassesOwn (model P w) (A.deeper (PyProof.Rows.envOfC "Meter.least_room" (defScope s_Meter_least_room) s.heap.objs.size (He.ma K (He.ga K "Meter") "least_room") cdv)) (PyProof.Rows.envOfC "Meter.least_room" (defScope s_Meter_least_room) s.heap.objs.size (He.ma K (He.ga K "Meter") "least_room") cdv) (cxOf (L2.CX P w) P w K mg base ["self", "share", "found", "room"] "Meter.least_room" (defScope s_Meter_least_room) (He.ma K (He.ga K "Meter") "least_room") cdv A outer s H E).xe := passes_of (X := cxOf (L2.CX P w) P w K mg base ["self", "share", "found", "room"] "Meter.least_room" (defScope s_Meter_least_room) (He.ma K (He.ga K "Meter") "least_room") cdv A outer s H E) rfl
  have hu1 := hu_of hr
  exact (s_cons (s_setLc (i := 2) (t := (.one 3)) rfl rfl rfl sc_Meter_least_room.nd rfl rfl (sw_true rfl rfl rfl (by decide +kernel)) (i_range1 rfl T.z_range (m_cons (m_frz (m_add (m_frz (m_add (m_lenO rfl rfl T.z_len (m_fld (k := 0) rfl T.mc (pv 0))) (m_lenO rfl rfl T.z_len (m_fld (k := 1) rfl T.mc (pv 0))))) m_int)) m_nil)) (blkOk_by (own := [("room", 3)]) (by kernel_rfl)) (fun _ _ _ _ _ => (pg_name (i := 3) sc_Meter_least_room.nd rfl (by first | exact Or.inl rfl | exact Or.inr rfl))) (fun _ _ _ _ _ => (ts_one (m_tcmp op_ge t_ge (m_frz (m_meth T.mc.cl T.me_found_by ok_Meter_found_by (hr.mono (by decide)) b_Meter_found_by takes0 (fun _ _ _ => mf_no (by decide +kernel) (by decide +kernel) (by decide +kernel)) (pv 0) (m_cons (m_var 3 (pv 3)) m_nil))) (m_var 1 (pv 1)) (nomark _)))) (fun _ _ _ _ _ => (m_var 3 (pv 3))))
    (s_one (s_ret (m_data (m_ifE (m_test rfl (m_var 2 (pv 2))) (m_frz (m_idx rfl (m_var 2 (pv 2)) m_int)) m_non)))))
theorem ok__law_cell (T : Tx K mg) : ∃ fd, FnOk P w K mg base (L2.CX P w) 1 (He.ga K "_law_cell") fd ["script", "k"] (spF (bs K) 2 F__law_cell) ∧ Binds K fd ["script", "k"] [] ∧ PySem.W.keepIn K (.ref (He.ga K "_law_cell")) = true := by
  obtain ⟨fd, F⟩ := T.d__law_cell
  refine ⟨fd, fn_body F sc__law_cell (fun cdv A outer s H E hr => ?_), F.bindsN (fun _ _ _ _ _ _ us hl => match us, hl with | [_, _], _ => rfl), F.kp⟩
  have tk : Takes (cxOf (L2.CX P w) P w K mg base ["script", "k"] "_law_cell" (defScope s__law_cell) (He.ga K "_law_cell") cdv A outer s H E) (WF E) := takes_of rfl rfl rfl rfl
  have po : PassesOwn (model P w) (A.deeper (PyProof.Rows.envOfC "_law_cell" (defScope s__law_cell) s.heap.objs.size (He.ga K "_law_cell") cdv)) (PyProof.Rows.envOfC "_law_cell" (defScope s__law_cell) s.heap.objs.size (He.ga K "_law_cell") cdv) (cxOf (L2.CX P w) P w K mg base ["script", "k"] "_law_cell" (defScope s__law_cell) (He.ga K "_law_cell") cdv A outer s H E).xe := passes_of (X := cxOf (L2.CX P w) P w K mg base ["script", "k"] "_law_cell" (defScope s__law_cell) (He.ga K "_law_cell") cdv A outer s H E) rfl
  have hu1 := hu_of hr
  exact (s_cons (s_if (m_test rfl (m_var 0 (pv 0))) (s_one (s_ret (m_data (m_ixS rfl 0 (pv 0) (m_frz (m_mod (m_var 1 (pv 1)) (m_len rfl rfl T.z_len (m_var 0 (pv 0))))))))) s_nil)
    (s_one (s_ret (m_data m_int))))
theorem ok__law_mix (T : Tx K mg) : ∃ fd, FnOk P w K mg base (L2.CX P w) 2 (He.ga K "_law_mix") fd ["script", "k"] (spF (bs K) 2 F__law_mix) ∧ Binds K fd ["script", "k"] [] ∧ PySem.W.keepIn K (.ref (He.ga K "_law_mix")) = true := by
  obtain ⟨fd, F⟩ := T.d__law_mix
  obtain ⟨fd__law_cell, ok__law_cell, b__law_cell, k__law_cell⟩ := ok__law_cell (P := P) (w := w) (base := base) T
  refine ⟨fd, fn_body F sc__law_mix (fun cdv A outer s H E hr => ?_), F.bindsN (fun _ _ _ _ _ _ us hl => match us, hl with | [_, _], _ => rfl), F.kp⟩
  have tk : Takes (cxOf (L2.CX P w) P w K mg base ["script", "k", "number"] "_law_mix" (defScope s__law_mix) (He.ga K "_law_mix") cdv A outer s H E) (WF E) := takes_of rfl rfl rfl rfl
  have po : PassesOwn (model P w) (A.deeper (PyProof.Rows.envOfC "_law_mix" (defScope s__law_mix) s.heap.objs.size (He.ga K "_law_mix") cdv)) (PyProof.Rows.envOfC "_law_mix" (defScope s__law_mix) s.heap.objs.size (He.ga K "_law_mix") cdv) (cxOf (L2.CX P w) P w K mg base ["script", "k", "number"] "_law_mix" (defScope s__law_mix) (He.ga K "_law_mix") cdv A outer s H E).xe := passes_of (X := cxOf (L2.CX P w) P w K mg base ["script", "k", "number"] "_law_mix" (defScope s__law_mix) (He.ga K "_law_mix") cdv A outer s H E) rfl
  have hu1 := hu_of hr
  exact (s_cons (s_set (i := 2) sc__law_mix.nd rfl (by first | exact Or.inl rfl | exact Or.inr rfl) (m_mod (m_frz (m_add (m_frz (m_call ok__law_cell (hr.mono (by decide)) rfl T.g__law_cell k__law_cell b__law_cell tk (m_cons (m_var 0 (pv 0)) (m_cons (m_var 1 (pv 1)) m_nil)))) (m_frz (m_mul m_int (m_frz (m_add (m_var 1 (pv 1)) m_int)))))) m_int))
    (s_cons (s_set (i := 2) sc__law_mix.nd rfl (by first | exact Or.inl rfl | exact Or.inr rfl) (m_mod (m_frz (m_pow (m_var 2 (pv 2)) m_int)) m_int))
    (s_one (s_ret (m_mod (m_frz (m_add (m_frz (m_mul (m_frz (m_fdiv (m_var 2 (pv 2)) m_int)) m_int)) (m_var 2 (pv 2)))) m_int)))))
theorem ok__law_draw (T : Tx K mg) : ∃ fd, FnOk P w K mg base (L2.CX P w) 3 (He.ga K "_law_draw") fd ["script", "town", "many"] (spF (bs K) 3 F__law_draw) ∧ Binds K fd ["script", "town", "many"] [] ∧ PySem.W.keepIn K (.ref (He.ga K "_law_draw")) = true := by
  obtain ⟨fd, F⟩ := T.d__law_draw
  obtain ⟨fd__law_mix, ok__law_mix, b__law_mix, k__law_mix⟩ := ok__law_mix (P := P) (w := w) (base := base) T
  refine ⟨fd, fn_body F sc__law_draw (fun cdv A outer s H E hr => ?_), F.bindsN (fun _ _ _ _ _ _ us hl => match us, hl with | [_, _, _], _ => rfl), F.kp⟩
  have tk : Takes (cxOf (L2.CX P w) P w K mg base ["script", "town", "many"] "_law_draw" (defScope s__law_draw) (He.ga K "_law_draw") cdv A outer s H E) (WF E) := takes_of rfl rfl rfl rfl
  have po : PassesOwn (model P w) (A.deeper (PyProof.Rows.envOfC "_law_draw" (defScope s__law_draw) s.heap.objs.size (He.ga K "_law_draw") cdv)) (PyProof.Rows.envOfC "_law_draw" (defScope s__law_draw) s.heap.objs.size (He.ga K "_law_draw") cdv) (cxOf (L2.CX P w) P w K mg base ["script", "town", "many"] "_law_draw" (defScope s__law_draw) (He.ga K "_law_draw") cdv A outer s H E).xe := passes_of (X := cxOf (L2.CX P w) P w K mg base ["script", "town", "many"] "_law_draw" (defScope s__law_draw) (He.ga K "_law_draw") cdv A outer s H E) rfl
  have hu1 := hu_of hr
  exact (s_cons (s_expr (m_mut rfl 1 k_app (pe_bm PySem.F.plainAttrs_list PySem.F.slot_list_append PySem.F.type_list_append mt_append (pv 1) (m_cons m_int m_nil))))
    (s_one (s_ret (m_mod (m_frz (m_fdiv (m_frz (m_call ok__law_mix (hr.mono (by decide)) rfl T.g__law_mix k__law_mix b__law_mix tk (m_cons (m_var 0 (pv 0)) (m_cons (m_len rfl rfl T.z_len (m_var 1 (pv 1))) m_nil)))) m_int)) (m_var 2 (pv 2))))))
theorem ok__law_pick (T : Tx K mg) : ∃ fd, FnOk P w K mg base (L2.CX P w) 4 (He.ga K "_law_pick") fd ["script", "town", "some"] (spF (bs K) 3 F__law_pick) ∧ Binds K fd ["script", "town", "some"] [] ∧ PySem.W.keepIn K (.ref (He.ga K "_law_pick")) = true := by
  obtain ⟨fd, F⟩ := T.d__law_pick
  obtain ⟨fd__law_draw, ok__law_draw, b__law_draw, k__law_draw⟩ := ok__law_draw (P := P) (w := w) (base := base) T
  refine ⟨fd, fn_body F sc__law_pick (fun cdv A outer s H E hr => ?_), F.bindsN (fun _ _ _ _ _ _ us hl => match us, hl with | [_, _, _], _ => rfl), F.kp⟩
  have tk : Takes (cxOf (L2.CX P w) P w K mg base ["script", "town", "some"] "_law_pick" (defScope s__law_pick) (He.ga K "_law_pick") cdv A outer s H E) (WF E) := takes_of rfl rfl rfl rfl
  have po : PassesOwn (model P w) (A.deeper (PyProof.Rows.envOfC "_law_pick" (defScope s__law_pick) s.heap.objs.size (He.ga K "_law_pick") cdv)) (PyProof.Rows.envOfC "_law_pick" (defScope s__law_pick) s.heap.objs.size (He.ga K "_law_pick") cdv) (cxOf (L2.CX P w) P w K mg base ["script", "town", "some"] "_law_pick" (defScope s__law_pick) (He.ga K "_law_pick") cdv A outer s H E).xe := passes_of (X := cxOf (L2.CX P w) P w K mg base ["script", "town", "some"] "_law_pick" (defScope s__law_pick) (He.ga K "_law_pick") cdv A outer s H E) rfl
  have hu1 := hu_of hr
  exact (s_one (s_ret (m_idx rfl (m_var 2 (pv 2)) (m_frz (m_call ok__law_draw (hr.mono (by decide)) rfl T.g__law_draw k__law_draw b__law_draw tk (m_cons (m_var 0 (pv 0)) (m_cons (m_var 1 (pv 1)) (m_cons (m_len rfl rfl T.z_len (m_var 2 (pv 2))) m_nil))))))))
theorem ok__law_refusal (T : Tx K mg) : ∃ fd, FnOk P w K mg base (L2.CX P w) 1 (He.ga K "_law_refusal") fd ["caught"] (spF (bs K) 1 F__law_refusal) ∧ Binds K fd ["caught"] [] ∧ PySem.W.keepIn K (.ref (He.ga K "_law_refusal")) = true := by
  obtain ⟨fd, F⟩ := T.d__law_refusal
  refine ⟨fd, fn_body F sc__law_refusal (fun cdv A outer s H E hr => ?_), F.bindsN (fun _ _ _ _ _ _ us hl => match us, hl with | [_], _ => rfl), F.kp⟩
  have tk : Takes (cxOf (L2.CX P w) P w K mg base ["caught", "kinds", "words"] "_law_refusal" (defScope s__law_refusal) (He.ga K "_law_refusal") cdv A outer s H E) (WF E) := takes_of rfl rfl rfl rfl
  have po : PassesOwn (model P w) (A.deeper (PyProof.Rows.envOfC "_law_refusal" (defScope s__law_refusal) s.heap.objs.size (He.ga K "_law_refusal") cdv)) (PyProof.Rows.envOfC "_law_refusal" (defScope s__law_refusal) s.heap.objs.size (He.ga K "_law_refusal") cdv) (cxOf (L2.CX P w) P w K mg base ["caught", "kinds", "words"] "_law_refusal" (defScope s__law_refusal) (He.ga K "_law_refusal") cdv A outer s H E).xe := passes_of (X := cxOf (L2.CX P w) P w K mg base ["caught", "kinds", "words"] "_law_refusal" (defScope s__law_refusal) (He.ga K "_law_refusal") cdv A outer s H E) rfl
  have hu1 := hu_of hr
  exact (s_cons (s_if (m_tisN (m_var 0 (pv 0))) (s_one (s_ret (m_data (m_tup (m_cons m_str m_nil))))) s_nil)
    (s_cons (s_set (i := 1) sc__law_refusal.nd rfl (by first | exact Or.inl rfl | exact Or.inr rfl) (m_lst (m_cons (m_isi rfl 0 T.i_BadRow (pv 0) (pe_glob rfl (T.x_BadRow).g (v := .ref (exC K 0)) rfl) (fun _ h => h) rfl T.z_isinstance) (m_cons (m_isi rfl 0 T.i_BadRoom (pv 0) (pe_glob rfl (T.x_BadRoom).g (v := .ref (exC K 1)) rfl) (fun _ h => h) rfl T.z_isinstance) (m_cons (m_isi rfl 0 T.i_BadRule (pv 0) (pe_glob rfl (T.x_BadRule).g (v := .ref (exC K 2)) rfl) (fun _ h => h) rfl T.z_isinstance) m_nil)))))
    (s_cons (s_set (i := 1) sc__law_refusal.nd rfl (by first | exact Or.inl rfl | exact Or.inr rfl) (m_add (m_var 1 (pv 1)) (m_frz (m_lst (m_cons (m_isi rfl 0 T.i_BadPlan (pv 0) (pe_glob rfl (T.x_BadPlan).g (v := .ref (exC K 3)) rfl) (fun _ h => h) rfl T.z_isinstance) (m_cons (m_isi rfl 0 T.i_BadDepths (pv 0) (pe_glob rfl (T.x_BadDepths).g (v := .ref (exC K 4)) rfl) (fun _ h => h) rfl T.z_isinstance) (m_cons (m_isi rfl 0 T.i_BadTurns (pv 0) (pe_glob rfl (T.x_BadTurns).g (v := .ref (exC K 5)) rfl) (fun _ h => h) rfl T.z_isinstance) m_nil)))))))
    (s_cons (s_set (i := 1) sc__law_refusal.nd rfl (by first | exact Or.inl rfl | exact Or.inr rfl) (m_add (m_var 1 (pv 1)) (m_frz (m_lst (m_cons (m_isi rfl 0 T.i_BadAsk (pv 0) (pe_glob rfl (T.x_BadAsk).g (v := .ref (exC K 6)) rfl) (fun _ h => h) rfl T.z_isinstance) (m_cons (m_isi rfl 0 T.i_BadText (pv 0) (pe_glob rfl (T.x_BadText).g (v := .ref (exC K 7)) rfl) (fun _ h => h) rfl T.z_isinstance) m_nil))))))
    (s_cons (s_if (PW.pt (m_or (m_tcmp (o_ne hr.units) (tells_two _) (m_count rfl hr.units (m_var 1 (pv 1)) (m_cons m_bl m_nil) rfl (fun h1 h2 h3 => pe_bm PySem.F.plainAttrs_list PySem.F.slot_list_count PySem.F.type_list_count h1 h2 h3)) m_int (nomark _)) (m_or1 (m_not (m_test rfl (m_isi rfl 0 T.i_ValueError (pv 0) (pe_bltn rfl T.z_ValueError (by decide +kernel) (v := .ty "ValueError") rfl) (fun _ h => h) rfl T.z_isinstance)))))) (s_one (s_ret (m_data (m_tup (m_cons m_str m_nil))))) s_nil)
    (s_cons (s_set (i := 2) sc__law_refusal.nd rfl (by first | exact Or.inl rfl | exact Or.inr rfl) (m_lst (m_cons m_str (m_cons m_str (m_cons m_str (m_cons m_str (m_cons m_str (m_cons m_str (m_cons m_str (m_cons m_str m_nil))))))))))
    (s_one (s_ret (m_data (m_tup (m_cons m_str (m_cons (m_frz (m_idx rfl (m_var 2 (pv 2)) (m_index rfl hr.units (m_var 1 (pv 1)) (m_cons m_bl m_nil) (fun h1 h2 h3 => pe_bm PySem.F.plainAttrs_list PySem.F.slot_list_index PySem.F.type_list_index h1 h2 h3)))) m_nil))))))))))))
theorem ok__law_told (T : Tx K mg) : ∃ fd, FnOk P w K mg base (L2.CX P w) 3 (He.ga K "_law_told") fd ["meter", "word", "name"] (spF (bs K) 3 F__law_told) ∧ Binds K fd ["meter", "word", "name"] [] ∧ PySem.W.keepIn K (.ref (He.ga K "_law_told")) = true := by
  obtain ⟨fd, F⟩ := T.d__law_told
  obtain ⟨fd_Meter_ask, ok_Meter_ask, b_Meter_ask, k_Meter_ask⟩ := ok_Meter_ask (P := P) (w := w) (base := base) T
  obtain ⟨fd_Meter_back, ok_Meter_back, b_Meter_back, k_Meter_back⟩ := ok_Meter_back (P := P) (w := w) (base := base) T
  obtain ⟨fd_Meter_forget, ok_Meter_forget, b_Meter_forget, k_Meter_forget⟩ := ok_Meter_forget (P := P) (w := w) (base := base) T
  obtain ⟨fd_Meter_hits, ok_Meter_hits, b_Meter_hits, k_Meter_hits⟩ := ok_Meter_hits (P := P) (w := w) (base := base) T
  obtain ⟨fd__law_refusal, ok__law_refusal, b__law_refusal, k__law_refusal⟩ := ok__law_refusal (P := P) (w := w) (base := base) T
  refine ⟨fd, fn_body F sc__law_told (fun cdv A outer s H E hr => ?_), F.bindsN (fun _ _ _ _ _ _ us hl => match us, hl with | [_, _, _], _ => rfl), F.kp⟩
  have tk : Takes (cxOf (L2.CX P w) P w K mg base ["meter", "word", "name", "caught", "found", "e"] "_law_told" (defScope s__law_told) (He.ga K "_law_told") cdv A outer s H E) (WF E) := takes_of rfl rfl rfl rfl
  have po : PassesOwn (model P w) (A.deeper (PyProof.Rows.envOfC "_law_told" (defScope s__law_told) s.heap.objs.size (He.ga K "_law_told") cdv)) (PyProof.Rows.envOfC "_law_told" (defScope s__law_told) s.heap.objs.size (He.ga K "_law_told") cdv) (cxOf (L2.CX P w) P w K mg base ["meter", "word", "name", "caught", "found", "e"] "_law_told" (defScope s__law_told) (He.ga K "_law_told") cdv A outer s H E).xe := passes_of (X := cxOf (L2.CX P w) P w K mg base ["meter", "word", "name", "caught", "found", "e"] "_law_told" (defScope s__law_told) (He.ga K "_law_told") cdv A outer s H E) rfl
  have hu1 := hu_of hr
  exact (s_cons (s_set (i := 3) sc__law_told.nd rfl (by first | exact Or.inl rfl | exact Or.inr rfl) (m_data m_non))
    (s_cons (s_set (i := 4) sc__law_told.nd rfl (by first | exact Or.inl rfl | exact Or.inr rfl) (m_data m_non))
    (s_cons (s_try (j := 3) (i := 5) rfl rfl rfl rfl sc__law_told.nd rfl rfl ⟨rfl, by decide, .inl T.gc_RoomError⟩ tk T.e_RoomError rfl rfl (fun _ _ _ tk' po' => (s_one (s_if (m_tcmp (o_eq hr.units) (tells_two _) (m_var 1 (pv 1)) m_str (nomark _)) (s_one (s_set (i := 4) sc__law_told.nd rfl (by first | exact Or.inl rfl | exact Or.inr rfl) (m_meth T.mc.cl T.me_ask ok_Meter_ask (hr.mono (by decide)) b_Meter_ask tk' (fun _ _ _ => mf_no (by decide +kernel) (by decide +kernel) (by decide +kernel)) (pv 0) (m_cons (m_var 2 (pv 2)) m_nil)))) (s_one (s_if (m_tcmp (o_eq hr.units) (tells_two _) (m_var 1 (pv 1)) m_str (nomark _)) (s_one (s_set (i := 4) sc__law_told.nd rfl (by first | exact Or.inl rfl | exact Or.inr rfl) (m_meth T.mc.cl T.me_forget ok_Meter_forget (hr.mono (by decide)) b_Meter_forget tk' (fun _ _ _ => mf_no (by decide +kernel) (by decide +kernel) (by decide +kernel)) (pv 0) (m_cons (m_var 2 (pv 2)) m_nil)))) (s_one (s_set (i := 4) sc__law_told.nd rfl (by first | exact Or.inl rfl | exact Or.inr rfl) (m_ifV (m_tcmp (o_eq hr.units) (tells_two _) (m_var 1 (pv 1)) m_str (nomark _)) (m_meth0 T.mc.cl T.me_back ok_Meter_back (hr.mono (by decide)) b_Meter_back tk' (fun _ _ _ => mf_no (by decide +kernel) (by decide +kernel) (by decide +kernel)) (pv 0)) (m_meth T.mc.cl T.me_hits ok_Meter_hits (hr.mono (by decide)) b_Meter_hits tk' (fun _ _ _ => mf_no (by decide +kernel) (by decide +kernel) (by decide +kernel)) (pv 0) (m_cons (m_var 2 (pv 2)) m_nil)))))))))) (fun _ _ _ => ps_set (i := 3) sc__law_told.nd rfl (Or.inl rfl) (pv 5)))
    (s_one (s_ret (m_data (m_ifE (m_tisN (m_var 3 (pv 3))) (m_var 4 (pv 4)) (m_frz (m_call ok__law_refusal (hr.mono (by decide)) rfl T.g__law_refusal k__law_refusal b__law_refusal tk (m_cons (m_var 3 (pv 3)) m_nil))))))))))
theorem ok__law_call (T : Tx K mg) : ∃ fd, FnOk P w K mg base (L2.CX P w) 5 (He.ga K "_law_call") fd ["script", "town", "meter", "past"] (spF (bs K) 4 F__law_call) ∧ Binds K fd ["script", "town", "meter", "past"] [] ∧ PySem.W.keepIn K (.ref (He.ga K "_law_call")) = true := by
  obtain ⟨fd, F⟩ := T.d__law_call
  obtain ⟨fd__law_draw, ok__law_draw, b__law_draw, k__law_draw⟩ := ok__law_draw (P := P) (w := w) (base := base) T
  obtain ⟨fd__law_pick, ok__law_pick, b__law_pick, k__law_pick⟩ := ok__law_pick (P := P) (w := w) (base := base) T
  obtain ⟨fd__law_told, ok__law_told, b__law_told, k__law_told⟩ := ok__law_told (P := P) (w := w) (base := base) T
  refine ⟨fd, fn_body F sc__law_call (fun cdv A outer s H E hr => ?_), F.bindsN (fun _ _ _ _ _ _ us hl => match us, hl with | [_, _, _, _], _ => rfl), F.kp⟩
  have tk : Takes (cxOf (L2.CX P w) P w K mg base ["script", "town", "meter", "past", "way", "name", "depth", "kept_names", "told", "due", "bad", "word", "one"] "_law_call" (defScope s__law_call) (He.ga K "_law_call") cdv A outer s H E) (WF E) := takes_of rfl rfl rfl rfl
  have po : PassesOwn (model P w) (A.deeper (PyProof.Rows.envOfC "_law_call" (defScope s__law_call) s.heap.objs.size (He.ga K "_law_call") cdv)) (PyProof.Rows.envOfC "_law_call" (defScope s__law_call) s.heap.objs.size (He.ga K "_law_call") cdv) (cxOf (L2.CX P w) P w K mg base ["script", "town", "meter", "past", "way", "name", "depth", "kept_names", "told", "due", "bad", "word", "one"] "_law_call" (defScope s__law_call) (He.ga K "_law_call") cdv A outer s H E).xe := passes_of (X := cxOf (L2.CX P w) P w K mg base ["script", "town", "meter", "past", "way", "name", "depth", "kept_names", "told", "due", "bad", "word", "one"] "_law_call" (defScope s__law_call) (He.ga K "_law_call") cdv A outer s H E) rfl
  have hu1 := hu_of hr
  exact (s_cons (s_asg (t := (.tup [7, 8])) rfl (m_frz (m_idx rfl (m_var 3 (pv 3)) (m_frz (m_neg m_int)))) (pg_tup rfl (pgs_cons (pg_name (i := 7) sc__law_call.nd rfl (by first | exact Or.inl rfl | exact Or.inr rfl)) (pgs_cons (pg_name (i := 8) sc__law_call.nd rfl (by first | exact Or.inl rfl | exact Or.inr rfl)) pgs_nil))) (fun h1 h2 => ps_asg h1 h2))
    (s_cons (s_set (i := 4) sc__law_call.nd rfl (by first | exact Or.inl rfl | exact Or.inr rfl) (m_call ok__law_draw (hr.mono (by decide)) rfl T.g__law_draw k__law_draw b__law_draw tk (m_cons (m_var 0 (pv 0)) (m_cons (m_var 1 (pv 1)) (m_cons m_int m_nil)))))
    (s_cons (s_set (i := 5) sc__law_call.nd rfl (by first | exact Or.inl rfl | exact Or.inr rfl) (m_call ok__law_draw (hr.mono (by decide)) rfl T.g__law_draw k__law_draw b__law_draw tk (m_cons (m_var 0 (pv 0)) (m_cons (m_var 1 (pv 1)) (m_cons (m_frz (m_call ok__law_pick (hr.mono (by decide)) rfl T.g__law_pick k__law_pick b__law_pick tk (m_cons (m_var 0 (pv 0)) (m_cons (m_var 1 (pv 1)) (m_cons (m_frz (m_lst (m_cons m_int (m_cons m_int (m_cons m_int m_nil))))) m_nil))))) m_nil)))))
    (s_cons (s_if (m_tcmp (o_eq hr.units) (tells_two _) (m_var 4 (pv 4)) m_int (nomark _)) (s_cons (s_set (i := 9) sc__law_call.nd rfl (by first | exact Or.inl rfl | exact Or.inr rfl) (m_data (m_ifE (m_tcmp (o_eq hr.units) (tells_two _) (m_len rfl rfl T.z_len (m_var 3 (pv 3))) m_int (nomark _)) (m_tup (m_cons m_str (m_cons m_str m_nil))) m_non)))
    (s_cons (s_if (m_tisN (m_var 9 (pv 9))) (s_one (s_expr (m_mut0 rfl 3 k_pop (pe_bm0 PySem.F.plainAttrs_list PySem.F.slot_list_pop PySem.F.type_list_pop mt_pop (pv 3))))) s_nil)
    (s_one (s_ret (m_data (m_eq hr.units rfl (m_frz (m_call ok__law_told (hr.mono (by decide)) rfl T.g__law_told k__law_told b__law_told tk (m_cons (m_var 2 (pv 2)) (m_cons m_str (m_cons m_int m_nil))))) (m_var 9 (pv 9)))))))) s_nil)
    (s_cons (s_if (m_tcmp (o_eq hr.units) (tells_two _) (m_var 4 (pv 4)) m_int (nomark _)) (s_cons (s_set (i := 10) sc__law_call.nd rfl (by first | exact Or.inl rfl | exact Or.inr rfl) (m_call ok__law_pick (hr.mono (by decide)) rfl T.g__law_pick k__law_pick b__law_pick tk (m_cons (m_var 0 (pv 0)) (m_cons (m_var 1 (pv 1)) (m_cons (m_frz (m_lst (m_cons (m_frz (m_neg m_int)) (m_cons m_int m_nil)))) m_nil)))))
    (s_one (s_ret (m_data (m_eq hr.units rfl (m_frz (m_lc (t := (.one 11)) rfl rfl rfl sc__law_call.nd (i_tup rfl (m_tup (m_cons m_str (m_cons m_str m_nil)))) (blkOk_by (own := [("word", 11)]) (by kernel_rfl)) (fun _ _ _ _ _ => (pg_name (i := 11) sc__law_call.nd rfl (by first | exact Or.inl rfl | exact Or.inr rfl))) (fun _ _ _ _ _ => ts_nil) (fun _ _ _ _ _ => (m_frz (m_call ok__law_told (hr.mono (by decide)) rfl T.g__law_told k__law_told b__law_told takes0 (m_cons (m_var 2 (pv 2)) (m_cons (m_var 11 (pv 11)) (m_cons (m_var 10 (pv 10)) m_nil)))))))) (m_frz (m_mul (m_frz (m_lst (m_cons (m_tup (m_cons m_str (m_cons m_str m_nil))) m_nil))) m_int))))))) s_nil)
    (s_cons (s_if (m_tcmp (o_eq hr.units) (tells_two _) (m_var 4 (pv 4)) m_int (nomark _)) (s_cons (s_if (m_tcmp (o_nin hr.units) (tells_two _) (m_var 5 (pv 5)) (m_var 7 (pv 7)) (by rfl)) (s_one (s_ret (m_data (m_eq hr.units rfl (m_frz (m_call ok__law_told (hr.mono (by decide)) rfl T.g__law_told k__law_told b__law_told tk (m_cons (m_var 2 (pv 2)) (m_cons m_str (m_cons (m_var 5 (pv 5)) m_nil))))) (m_tup (m_cons m_str (m_cons m_str m_nil))))))) s_nil)
    (s_cons (s_expr (m_mut rfl 3 k_app (pe_bm PySem.F.plainAttrs_list PySem.F.slot_list_append PySem.F.type_list_append mt_append (pv 3) (m_cons (m_tup (m_cons (m_frz (m_lc (t := (.one 12)) rfl rfl rfl sc__law_call.nd (i_list rfl (m_var 7 (pv 7))) (blkOk_by (own := [("one", 12)]) (by kernel_rfl)) (fun _ _ _ _ _ => (pg_name (i := 12) sc__law_call.nd rfl (by first | exact Or.inl rfl | exact Or.inr rfl))) (fun _ _ _ _ _ => (ts_one (m_tcmp (o_ne hr.units) (tells_two _) (m_var 12 (pv 12)) (m_var 5 (pv 5)) (nomark _)))) (fun _ _ _ _ _ => (m_var 12 (pv 12))))) (m_cons (m_var 8 (pv 8)) m_nil))) m_nil))))
    (s_one (s_ret (m_data (m_isN (m_frz (m_call ok__law_told (hr.mono (by decide)) rfl T.g__law_told k__law_told b__law_told tk (m_cons (m_var 2 (pv 2)) (m_cons m_str (m_cons (m_var 5 (pv 5)) m_nil))))))))))) s_nil)
    (s_cons (s_if (m_tcmp (o_eq hr.units) (tells_two _) (m_len rfl rfl T.z_len (m_var 8 (pv 8))) m_int (nomark _)) (s_one (s_ret (m_data (m_eq hr.units rfl (m_frz (m_call ok__law_told (hr.mono (by decide)) rfl T.g__law_told k__law_told b__law_told tk (m_cons (m_var 2 (pv 2)) (m_cons m_str (m_cons (m_var 5 (pv 5)) m_nil))))) (m_tup (m_cons m_str (m_cons m_str m_nil))))))) s_nil)
    (s_cons (s_set (i := 6) sc__law_call.nd rfl (by first | exact Or.inl rfl | exact Or.inr rfl) (m_data (m_ifE (m_tcmp (o_in hr.units) (tells_two _) (m_var 5 (pv 5)) (m_var 7 (pv 7)) (by rfl)) (m_frz (m_add (m_index rfl hr.units (m_var 7 (pv 7)) (m_cons (m_var 5 (pv 5)) m_nil) (fun h1 h2 h3 => pe_bm PySem.F.plainAttrs_list PySem.F.slot_list_index PySem.F.type_list_index h1 h2 h3)) m_int)) m_non)))
    (s_cons (s_expr (m_mut rfl 3 k_app (pe_bm PySem.F.plainAttrs_list PySem.F.slot_list_append PySem.F.type_list_append mt_append (pv 3) (m_cons (m_tup (m_cons (m_frz (m_add (m_frz (m_lst (m_cons (m_var 5 (pv 5)) m_nil))) (m_frz (m_lc (t := (.one 12)) rfl rfl rfl sc__law_call.nd (i_list rfl (m_var 7 (pv 7))) (blkOk_by (own := [("one", 12)]) (by kernel_rfl)) (fun _ _ _ _ _ => (pg_name (i := 12) sc__law_call.nd rfl (by first | exact Or.inl rfl | exact Or.inr rfl))) (fun _ _ _ _ _ => (ts_one (m_tcmp (o_ne hr.units) (tells_two _) (m_var 12 (pv 12)) (m_var 5 (pv 5)) (nomark _)))) (fun _ _ _ _ _ => (m_var 12 (pv 12))))))) (m_cons (m_frz (m_add (m_var 8 (pv 8)) (m_frz (m_lst (m_cons (m_var 6 (pv 6)) m_nil))))) m_nil))) m_nil))))
    (s_one (s_ret (m_data (m_eq hr.units rfl (m_frz (m_call ok__law_told (hr.mono (by decide)) rfl T.g__law_told k__law_told b__law_told tk (m_cons (m_var 2 (pv 2)) (m_cons m_str (m_cons (m_var 5 (pv 5)) m_nil))))) (m_var 6 (pv 6)))))))))))))))
theorem okF_law {fd : FuncData} (T : Tx K mg) (F : FunD K "law" "law" (defArgs s_law) (defBody s_law) (defScope s_law) [] [] (He.ga K "law") fd) : FnOk P w K mg base (L2.CX P w) 6 (He.ga K "law") fd ["script"] (spF (bs K) 1 F_law) := by
  obtain ⟨fd_Meter_asks, ok_Meter_asks, b_Meter_asks, k_Meter_asks⟩ := ok_Meter_asks (P := P) (w := w) (base := base) T
  obtain ⟨fd_Meter_least_room, ok_Meter_least_room, b_Meter_least_room, k_Meter_least_room⟩ := ok_Meter_least_room (P := P) (w := w) (base := base) T
  obtain ⟨fd_Meter_stack, ok_Meter_stack, b_Meter_stack, k_Meter_stack⟩ := ok_Meter_stack (P := P) (w := w) (base := base) T
  obtain ⟨fd__law_call, ok__law_call, b__law_call, k__law_call⟩ := ok__law_call (P := P) (w := w) (base := base) T
  obtain ⟨fd__law_draw, ok__law_draw, b__law_draw, k__law_draw⟩ := ok__law_draw (P := P) (w := w) (base := base) T
  obtain ⟨fd__law_told, ok__law_told, b__law_told, k__law_told⟩ := ok__law_told (P := P) (w := w) (base := base) T
  obtain ⟨fd_init, ok_init, b_init⟩ := ok_Meter_init (P := P) (w := w) (base := base) T
  refine fn_body F sc_law (fun cdv A outer s H E hr => ?_)
  have tk : Takes (cxOf (L2.CX P w) P w K mg base ["script", "town", "meter", "past", "k", "hits", "share", "kept_names", "told", "due", "room", "bad", "depth"] "law" (defScope s_law) (He.ga K "law") cdv A outer s H E) (WF E) := takes_of rfl rfl rfl rfl
  have po : PassesOwn (model P w) (A.deeper (PyProof.Rows.envOfC "law" (defScope s_law) s.heap.objs.size (He.ga K "law") cdv)) (PyProof.Rows.envOfC "law" (defScope s_law) s.heap.objs.size (He.ga K "law") cdv) (cxOf (L2.CX P w) P w K mg base ["script", "town", "meter", "past", "k", "hits", "share", "kept_names", "told", "due", "room", "bad", "depth"] "law" (defScope s_law) (He.ga K "law") cdv A outer s H E).xe := passes_of (X := cxOf (L2.CX P w) P w K mg base ["script", "town", "meter", "past", "k", "hits", "share", "kept_names", "told", "due", "room", "bad", "depth"] "law" (defScope s_law) (He.ga K "law") cdv A outer s H E) rfl
  have hu1 := hu_of hr
  exact (s_cons (s_set (i := 1) sc_law.nd rfl (by first | exact Or.inl rfl | exact Or.inr rfl) (m_lst m_nil))
    (s_cons (s_newM (i := 2) T.mkr ok_init (hr.mono (by decide)) rfl T.g_Meter b_init sc_law.nd rfl (by first | exact Or.inl rfl | exact Or.inr rfl))
    (s_cons (s_set (i := 3) sc_law.nd rfl (by first | exact Or.inl rfl | exact Or.inr rfl) (m_lst (m_cons (m_tup (m_cons (m_frz (m_lst m_nil)) (m_cons (m_frz (m_lst m_nil)) m_nil))) m_nil)))
    (s_cons (s_for (t := (.one 4)) rfl po rfl (i_range1 rfl T.z_range (m_cons (m_frz (m_call ok__law_draw (hr.mono (by decide)) rfl T.g__law_draw k__law_draw b__law_draw tk (m_cons (m_var 0 (pv 0)) (m_cons (m_var 1 (pv 1)) (m_cons m_int m_nil))))) m_nil)) (pg_name (i := 4) sc_law.nd rfl (by first | exact Or.inl rfl | exact Or.inr rfl)) (s_cons (s_if (m_not (m_test rfl (m_frz (m_call ok__law_call (hr.mono (by decide)) rfl T.g__law_call k__law_call b__law_call tk (m_cons (m_var 0 (pv 0)) (m_cons (m_var 1 (pv 1)) (m_cons (m_var 2 (pv 2)) (m_cons (m_var 3 (pv 3)) m_nil)))))))) (s_one (s_ret (m_data m_bl))) s_nil)
    (s_cons (s_asg (t := (.tup [7, 8])) rfl (m_frz (m_idx rfl (m_var 3 (pv 3)) (m_frz (m_neg m_int)))) (pg_tup rfl (pgs_cons (pg_name (i := 7) sc_law.nd rfl (by first | exact Or.inl rfl | exact Or.inr rfl)) (pgs_cons (pg_name (i := 8) sc_law.nd rfl (by first | exact Or.inl rfl | exact Or.inr rfl)) pgs_nil))) (fun h1 h2 => ps_asg h1 h2))
    (s_cons (s_if (PW.pt (m_or (m_tcmp (o_ne hr.units) (tells_two _) (m_frz (m_meth0 T.mc.cl T.me_stack ok_Meter_stack (hr.mono (by decide)) b_Meter_stack tk (fun _ _ _ => mf_no (by decide +kernel) (by decide +kernel) (by decide +kernel)) (pv 2))) (m_var 7 (pv 7)) (nomark _)) (m_or1 (m_tcmp (o_ne hr.units) (tells_two _) (m_frz (m_meth0 T.mc.cl T.me_asks ok_Meter_asks (hr.mono (by decide)) b_Meter_asks tk (fun _ _ _ => mf_no (by decide +kernel) (by decide +kernel) (by decide +kernel)) (pv 2))) (m_len rfl rfl T.z_len (m_var 8 (pv 8))) (nomark _))))) (s_one (s_ret (m_data m_bl))) s_nil)
    (s_cons (s_expr (m_tmpApp (o := .Constant .none 0 ⟨0, 0, 0, 0⟩) rfl (pe_bm PySem.F.plainAttrs_list PySem.F.slot_list_append PySem.F.type_list_append mt_append (m_meth0 T.mc.cl T.me_stack ok_Meter_stack (hr.mono (by decide)) b_Meter_stack tk (fun _ _ _ => mf_no (by decide +kernel) (by decide +kernel) (by decide +kernel)) (pv 2)) (m_cons m_int m_nil))))
    (s_cons (s_set (i := 5) sc_law.nd rfl (by first | exact Or.inl rfl | exact Or.inr rfl) (m_lc (t := (.one 10)) rfl rfl rfl sc_law.nd (i_range1 rfl T.z_range (m_cons m_int m_nil)) (blkOk_by (own := [("room", 10)]) (by kernel_rfl)) (fun _ _ _ _ _ => (pg_name (i := 10) sc_law.nd rfl (by first | exact Or.inl rfl | exact Or.inr rfl))) (fun _ _ _ _ _ => ts_nil) (fun _ _ _ _ _ => (m_len rfl rfl T.z_len (m_frz (m_lc (t := (.one 12)) rfl rfl rfl sc_law.nd (i_list rfl (m_var 8 (pv 8))) (blkOk_by (own := [("depth", 12)]) (by kernel_rfl)) (fun _ _ _ _ _ => (pg_name (i := 12) sc_law.nd rfl (by first | exact Or.inl rfl | exact Or.inr rfl))) (fun _ _ _ _ _ => (ts_one (PW.pt (m_and (m_tnotN (m_var 12 (pv 12))) (m_and1 (m_tcmp op_le t_le (m_var 12 (pv 12)) (m_var 10 (pv 10)) (nomark _))))))) (fun _ _ _ _ _ => (m_var 12 (pv 12)))))))))
    (s_cons (s_if (m_tcmp (o_ne hr.units) (tells_two _) (m_frz (m_lc (t := (.one 10)) rfl rfl rfl sc_law.nd (i_range1 rfl T.z_range (m_cons m_int m_nil)) (blkOk_by (own := [("room", 10)]) (by kernel_rfl)) (fun _ _ _ _ _ => (pg_name (i := 10) sc_law.nd rfl (by first | exact Or.inl rfl | exact Or.inr rfl))) (fun _ _ _ _ _ => ts_nil) (fun _ _ _ _ _ => (m_frz (m_call ok__law_told (hr.mono (by decide)) rfl T.g__law_told k__law_told b__law_told takes0 (m_cons (m_var 2 (pv 2)) (m_cons m_str (m_cons (m_var 10 (pv 10)) m_nil)))))))) (m_frz (m_slice rfl sl_any (m_var 5 (pv 5)) p_none (p_some m_int))) (nomark _)) (s_one (s_ret (m_data m_bl))) s_nil)
    (s_one (s_for (t := (.one 6)) rfl po rfl (i_list rfl (m_frz (m_lst (m_cons (m_frz (m_neg m_int)) (m_cons m_int (m_cons m_int (m_cons (m_frz (m_idx rfl (m_var 5 (pv 5)) (m_frz (m_neg m_int)))) (m_cons (m_frz (m_add (m_frz (m_idx rfl (m_var 5 (pv 5)) (m_frz (m_neg m_int)))) m_int)) (m_cons (m_frz (m_call ok__law_draw (hr.mono (by decide)) rfl T.g__law_draw k__law_draw b__law_draw tk (m_cons (m_var 0 (pv 0)) (m_cons (m_var 1 (pv 1)) (m_cons m_int m_nil))))) m_nil))))))))) (pg_name (i := 6) sc_law.nd rfl (by first | exact Or.inl rfl | exact Or.inr rfl)) (s_cons (s_setLc (i := 9) (t := (.one 10)) rfl rfl rfl sc_law.nd rfl rfl (sw_true rfl rfl rfl (by decide +kernel)) (i_range1 rfl T.z_range (m_cons m_int m_nil)) (blkOk_by (own := [("room", 10)]) (by kernel_rfl)) (fun _ _ _ _ _ => (pg_name (i := 10) sc_law.nd rfl (by first | exact Or.inl rfl | exact Or.inr rfl))) (fun _ _ _ _ _ => (ts_one (m_tcmp op_ge t_ge (m_frz (m_idx rfl (m_var 5 (pv 5)) (m_var 10 (pv 10)))) (m_var 6 (pv 6)) (nomark _)))) (fun _ _ _ _ _ => (m_var 10 (pv 10))))
    (s_one (s_if (m_tcmp (o_ne hr.units) (tells_two _) (m_frz (m_meth T.mc.cl T.me_least_room ok_Meter_least_room (hr.mono (by decide)) b_Meter_least_room tk (fun _ _ _ => mf_no (by decide +kernel) (by decide +kernel) (by decide +kernel)) (pv 2) (m_cons (m_var 6 (pv 6)) m_nil))) (m_ifE (m_tcmp (o_ne hr.units) (tells_two _) (m_var 9 (pv 9)) (m_frz (m_lst m_nil)) (nomark _)) (m_frz (m_idx rfl (m_var 9 (pv 9)) m_int)) m_non) (nomark _)) (s_one (s_ret (m_data m_bl))) s_nil))))))))))))
    (s_one (s_ret (m_data (m_eq hr.units rfl (m_frz (m_lc (t := (.one 11)) rfl rfl rfl sc_law.nd (i_tup rfl (m_tup (m_cons (m_frz (m_neg m_int)) (m_cons m_int m_nil)))) (blkOk_by (own := [("bad", 11)]) (by kernel_rfl)) (fun _ _ _ _ _ => (pg_name (i := 11) sc_law.nd rfl (by first | exact Or.inl rfl | exact Or.inr rfl))) (fun _ _ _ _ _ => ts_nil) (fun _ _ _ _ _ => (m_frz (m_call ok__law_told (hr.mono (by decide)) rfl T.g__law_told k__law_told b__law_told takes0 (m_cons (m_var 2 (pv 2)) (m_cons m_str (m_cons (m_var 11 (pv 11)) m_nil)))))))) (m_frz (m_mul (m_frz (m_lst (m_cons (m_tup (m_cons m_str (m_cons m_str m_nil))) m_nil))) m_int))))))))))
end
/-! the head -/
def fa : List (Fg → Bool) := [fun K => He.Fa.ok K (.free "ValueError"),
  fun K => He.Fa.ok K (.free "isinstance"),
  fun K => He.Fa.ok K (.free "len"),
  fun K => He.Fa.ok K (.free "list"),
  fun K => He.Fa.ok K (.free "range"),
  fun K => He.Fa.ok K (.int "MOST_ASKS" 24),
  fun K => He.Fa.ok K (.int "MOST_NAME" 19),
  fun K => He.Fa.ok K (.int "MOST_ROOM" 12),
  fExc 0,
  fExc 1,
  fExc 2,
  fExc 3,
  fExc 4,
  fExc 5,
  fExc 6,
  fExc 7,
  fAll,
  fKit (fun K => .ref (exC K 6)) (is8 6),
  fKit (fun K => .ref (exC K 4)) (is8 4),
  fKit (fun K => .ref (exC K 3)) (is8 3),
  fKit (fun K => .ref (exC K 1)) (is8 1),
  fKit (fun K => .ref (exC K 0)) (is8 0),
  fKit (fun K => .ref (exC K 2)) (is8 2),
  fKit (fun K => .ref (exC K 7)) (is8 7),
  fKit (fun K => .ref (exC K 5)) (is8 5),
  fKit (fun _ => .type "ValueError") (fun _ => true),
  fun K => He.Fa.ok K (.glo "RoomError"),
  fExm (fun K => .ref (He.ga K "RoomError")) g_RoomError,
  fun K => He.Fa.ok K (.noat "Meter" "names"),
  fun K => He.Fa.ok K (.noat "Meter" "told"),
  fun K => He.Fa.ok K (.noat "Meter" "past"),
  fun K => He.Fa.ok K (.cls "Meter"),
  fun K => He.Fa.ok K (.mkr "Meter"),
  fun K => He.Fa.ok K (.glo "Meter"),
  fun K => He.Fa.ok K (.meth "Meter" "ask"),
  fun K => He.Fa.ok K (.meth "Meter" "asks"),
  fun K => He.Fa.ok K (.meth "Meter" "back"),
  fun K => He.Fa.ok K (.meth "Meter" "forget"),
  fun K => He.Fa.ok K (.meth "Meter" "found_by"),
  fun K => He.Fa.ok K (.meth "Meter" "hits"),
  fun K => He.Fa.ok K (.meth "Meter" "least_room"),
  fun K => He.Fa.ok K (.meth "Meter" "note"),
  fun K => He.Fa.ok K (.meth "Meter" "stack"),
  fun K => He.Fa.ok K (.glo "look_name"),
  fun K => He.Fa.ok K (.glo "look_room"),
  fun K => He.Fa.ok K (.glo "_law_cell"),
  fun K => He.Fa.ok K (.glo "_law_mix"),
  fun K => He.Fa.ok K (.glo "_law_draw"),
  fun K => He.Fa.ok K (.glo "_law_pick"),
  fun K => He.Fa.ok K (.glo "_law_refusal"),
  fun K => He.Fa.ok K (.glo "_law_told"),
  fun K => He.Fa.ok K (.glo "_law_call"),
  fun K => He.Fa.ok K (.glo "law"),
  fun K => !He.Fa.ok K (.glo "most_held")]
def fn : List He.DefD := [⟨("look_name", none), "look_name", "look_name", defArgs s_look_name, defBody s_look_name, defScope s_look_name, [], []⟩,
  ⟨("look_room", none), "look_room", "look_room", defArgs s_look_room, defBody s_look_room, defScope s_look_room, [], []⟩,
  ⟨("Meter", some "note"), "note", "Meter.note", defArgs s_Meter_note, defBody s_Meter_note, defScope s_Meter_note, [], []⟩,
  ⟨("Meter", some "ask"), "ask", "Meter.ask", defArgs s_Meter_ask, defBody s_Meter_ask, defScope s_Meter_ask, [], []⟩,
  ⟨("Meter", some "forget"), "forget", "Meter.forget", defArgs s_Meter_forget, defBody s_Meter_forget, defScope s_Meter_forget, [], []⟩,
  ⟨("Meter", some "back"), "back", "Meter.back", defArgs s_Meter_back, defBody s_Meter_back, defScope s_Meter_back, [], []⟩,
  ⟨("Meter", some "stack"), "stack", "Meter.stack", defArgs s_Meter_stack, defBody s_Meter_stack, defScope s_Meter_stack, [], []⟩,
  ⟨("Meter", some "asks"), "asks", "Meter.asks", defArgs s_Meter_asks, defBody s_Meter_asks, defScope s_Meter_asks, [], []⟩,
  ⟨("Meter", some "hits"), "hits", "Meter.hits", defArgs s_Meter_hits, defBody s_Meter_hits, defScope s_Meter_hits, [], []⟩,
  ⟨("Meter", some "found_by"), "found_by", "Meter.found_by", defArgs s_Meter_found_by, defBody s_Meter_found_by, defScope s_Meter_found_by, [], []⟩,
  ⟨("Meter", some "least_room"), "least_room", "Meter.least_room", defArgs s_Meter_least_room, defBody s_Meter_least_room, defScope s_Meter_least_room, [], []⟩,
  ⟨("_law_cell", none), "_law_cell", "_law_cell", defArgs s__law_cell, defBody s__law_cell, defScope s__law_cell, [], []⟩,
  ⟨("_law_mix", none), "_law_mix", "_law_mix", defArgs s__law_mix, defBody s__law_mix, defScope s__law_mix, [], []⟩,
  ⟨("_law_draw", none), "_law_draw", "_law_draw", defArgs s__law_draw, defBody s__law_draw, defScope s__law_draw, [], []⟩,
  ⟨("_law_pick", none), "_law_pick", "_law_pick", defArgs s__law_pick, defBody s__law_pick, defScope s__law_pick, [], []⟩,
  ⟨("_law_refusal", none), "_law_refusal", "_law_refusal", defArgs s__law_refusal, defBody s__law_refusal, defScope s__law_refusal, [], []⟩,
  ⟨("_law_told", none), "_law_told", "_law_told", defArgs s__law_told, defBody s__law_told, defScope s__law_told, [], []⟩,
  ⟨("_law_call", none), "_law_call", "_law_call", defArgs s__law_call, defBody s__law_call, defScope s__law_call, [], []⟩,
  ⟨("law", none), "law", "law", defArgs s_law, defBody s_law, defScope s_law, [], []⟩,
  ⟨("Meter", some "__init__"), "__init__", "Meter.__init__", defArgs s_Meter_init, defBody s_Meter_init, defScope s_Meter_init, [], []⟩]
theorem tx {K : Fg} {h : Heap} {mg : Str → Option Value} (X : K.In h) (G : h.Ns mainGlobals mg) (c : SaysM fa fn K) : Tx K mg where
  z_ValueError := He.free_ok X G (c.fact 0)
  z_isinstance := He.free_ok X G (c.fact 1)
  z_len := He.free_ok X G (c.fact 2)
  z_list := He.free_ok X G (c.fact 3)
  z_range := He.free_ok X G (c.fact 4)
  c_MOST_ASKS := He.int_ok X G (c.fact 5)
  c_MOST_NAME := He.int_ok X G (c.fact 6)
  c_MOST_ROOM := He.int_ok X G (c.fact 7)
  x_BadRow := exFact X G (c.fact 8)
  x_BadRoom := exFact X G (c.fact 9)
  x_BadRule := exFact X G (c.fact 10)
  x_BadPlan := exFact X G (c.fact 11)
  x_BadDepths := exFact X G (c.fact 12)
  x_BadTurns := exFact X G (c.fact 13)
  x_BadAsk := exFact X G (c.fact 14)
  x_BadText := exFact X G (c.fact 15)
  i_BadAsk := fKit_of (cv := fun K => .ref (exC K 6)) (is8_ge 6) (c.fact 16) (c.fact 17)
  i_BadDepths := fKit_of (cv := fun K => .ref (exC K 4)) (is8_ge 4) (c.fact 16) (c.fact 18)
  i_BadPlan := fKit_of (cv := fun K => .ref (exC K 3)) (is8_ge 3) (c.fact 16) (c.fact 19)
  i_BadRoom := fKit_of (cv := fun K => .ref (exC K 1)) (is8_ge 1) (c.fact 16) (c.fact 20)
  i_BadRow := fKit_of (cv := fun K => .ref (exC K 0)) (is8_ge 0) (c.fact 16) (c.fact 21)
  i_BadRule := fKit_of (cv := fun K => .ref (exC K 2)) (is8_ge 2) (c.fact 16) (c.fact 22)
  i_BadText := fKit_of (cv := fun K => .ref (exC K 7)) (is8_ge 7) (c.fact 16) (c.fact 23)
  i_BadTurns := fKit_of (cv := fun K => .ref (exC K 5)) (is8_ge 5) (c.fact 16) (c.fact 24)
  i_ValueError := fKit_of (cv := fun _ => .type "ValueError") (fun _ _ => rfl) (c.fact 16) (c.fact 25)
  gc_RoomError := He.glo_ok X G (c.fact 26)
  e_RoomError := fExm_of (cv := fun K => .ref (He.ga K "RoomError")) (fun _ _ => rfl) (c.fact 27)
  na_0 := He.noat_ok (c.fact 28)
  na_1 := He.noat_ok (c.fact 29)
  na_2 := He.noat_ok (c.fact 30)
  cl := He.cls_ok (c.fact 31)
  mkr := He.mkr_ok (c.fact 32)
  g_Meter := He.glo_ok X G (c.fact 33)
  me_ask := He.meth_ok (c.fact 34)
  me_asks := He.meth_ok (c.fact 35)
  me_back := He.meth_ok (c.fact 36)
  me_forget := He.meth_ok (c.fact 37)
  me_found_by := He.meth_ok (c.fact 38)
  me_hits := He.meth_ok (c.fact 39)
  me_least_room := He.meth_ok (c.fact 40)
  me_note := He.meth_ok (c.fact 41)
  me_stack := He.meth_ok (c.fact 42)
  g_look_name := He.glo_ok X G (c.fact 43)
  g_look_room := He.glo_ok X G (c.fact 44)
  g__law_cell := He.glo_ok X G (c.fact 45)
  g__law_mix := He.glo_ok X G (c.fact 46)
  g__law_draw := He.glo_ok X G (c.fact 47)
  g__law_pick := He.glo_ok X G (c.fact 48)
  g__law_refusal := He.glo_ok X G (c.fact 49)
  g__law_told := He.glo_ok X G (c.fact 50)
  g__law_call := He.glo_ok X G (c.fact 51)
  g_law := He.glo_ok X G (c.fact 52)
  lamNo := (c.fact 53)
  d_look_name := c.def_ 0
  d_look_room := c.def_ 1
  d_Meter_note := c.def_ 2
  d_Meter_ask := c.def_ 3
  d_Meter_forget := c.def_ 4
  d_Meter_back := c.def_ 5
  d_Meter_stack := c.def_ 6
  d_Meter_asks := c.def_ 7
  d_Meter_hits := c.def_ 8
  d_Meter_found_by := c.def_ 9
  d_Meter_least_room := c.def_ 10
  d__law_cell := c.def_ 11
  d__law_mix := c.def_ 12
  d__law_draw := c.def_ 13
  d__law_pick := c.def_ 14
  d__law_refusal := c.def_ 15
  d__law_told := c.def_ 16
  d__law_call := c.def_ 17
  d_law := c.def_ 18
  d_Meter_init := c.def_ 19
abbrev R : PySem.W.OpenRow := PySem.W.OpenLaw.row PySem.Challenge.rw_allrooms_k70_whole_meters
abbrev hk : PySem.W.Hook := hookM 5 fa fn
def ob (s : PySem.W.SharedT) : He.AlD := obsMG 5 fa fn (HandSHeadRun.getT s)
theorem ob_eq (s : PySem.W.SharedT) : ob s = hk.obs s.abs := obsMG_eq (HandSHeadRun.getT_eq s)
def loose : List Str := "RoomError" :: "BadRow" :: "BadRoom" :: "BadRule" :: "BadPlan" :: "BadDepths" :: "BadTurns" :: "BadAsk" :: "BadText" :: "MOST_ASKS" :: "MOST_NAME" :: "MOST_ROOM" :: "look_name" :: "look_room" :: "Meter" :: "_law_cell" :: "_law_mix" :: "_law_draw" :: "_law_pick" :: "_law_refusal" :: "_law_told" :: "_law_call" :: []
theorem run (w : World) : HandSHeadRun.RunEq R (PySem.W.view R.prog [26]) hk ob 4000 loose w := by
  intro os
  kernel_rfl
end
end K70
namespace G8
open PySem L2
/-! what the common parts of the laws do -/
theorem draw_eq (ns : List Int) (xs : List Dt) (m : Int) (hm : 0 < m) (hk : xs.length < 999999) : F__law_draw [.scr ns, .ls true xs, .d (.int m)] = .ok (.d (.int (drw ns (xs.length + 1) m))) [none, some (.ls true (xs ++ [.int 0])), none] := Fdraw_eq ns xs m hm hk
def wordN : Nat → Str
  | 0 => "row"
  | 1 => "room"
  | 2 => "rule"
  | 3 => "plan"
  | 4 => "depths"
  | 5 => "turns"
  | 6 => "ask"
  | _ => "text"
def refD (k : Nat) : Dt := .tuple [.str "refused", .str (wordN k)]
theorem refusal_eq (k : Nat) (h : k < 8) : F__law_refusal [.ex k] = .ok (.d (refD k)) [none] := by
  match k, h with
  | 0, _ => rfl
  | 1, _ => rfl
  | 2, _ => rfl
  | 3, _ => rfl
  | 4, _ => rfl
  | 5, _ => rfl
  | 6, _ => rfl
  | 7, _ => rfl
  | k + 8, h => omega
/-! depths.how_many -/
def stir : Nat → Nat → Nat
  | 0, 0 => 1
  | 0, _ + 1 => 0
  | _ + 1, 0 => 0
  | k + 1, m + 1 => stir k (m + 1) * (m + 1) + stir k m
theorem stir_big : ∀ (k m : Nat), k < m → stir k m = 0
  | 0, m + 1, _ => rfl
  | k + 1, m + 1, h => by
    rw [stir, stir_big k (m + 1) (by omega), stir_big k m (by omega)]
    simp
def ways (k f : Nat) : List Dt := (List.range (f + 1)).map fun m => PyData.int ((stir k m : Nat) : Int)
theorem ways_len (k f : Nat) : (ways k f).length = f + 1 := by simp [ways]
theorem ways_at (k f m : Nat) (h : m ≤ f) : atI (ways k f) (m : Int) = some (.int (stir k m : Nat)) := by
  rw [G8.atI_nat, ways, List.getElem?_map, List.getElem?_range (by omega)]
  rfl
theorem ways0 (f : Nat) : PyData.int 1 :: List.replicate f (PyData.int 0) = ways 0 f := by
  apply List.ext_getElem?
  intro i
  cases i with
  | zero => simp [ways, stir]
  | succ i =>
    by_cases h : i < f
    · simp [ways, List.getElem?_replicate, h, stir]
    · simp [ways, List.getElem?_replicate, h]
theorem how_step (f a k m : Nat) (x3 : Option Sv) (hm : m ≤ f) (hf : f ≤ 20) : stepL (.one 4) (retM true) e_how_many_1 (.int (m : Int)) [some (.d (.int f)), some (.d (.int a)), some (.ls false (ways k f)), x3, none]
    = .ok (some (.int (stir (k + 1) m : Nat))) [some (.d (.int f)), some (.d (.int a)), some (.ls false (ways k f)), x3, none] := by
  have sm : G8.small64 (m : Int) = true := small_nat (by omega)
  have w1 := ways_at k f m hm
  cases m with
  | zero =>
    simp at sm w1
    simp [stepL_ap, e_how_many_1, w1, sm, stir]
  | succ m =>
    have w2 := ways_at k f m (by omega)
    have e1 : ((m : Int) + 1 - 1) = m := by omega
    simp at w1 sm
    have p1 : (0 : Int) < (m : Int) + 1 := by omega
    simp [stepL_ap, e_how_many_1, w1, sm, w2, e1, stir, p1]
theorem how_ok (f a : Nat) (ha : a ≤ 24) (hf : f ≤ a) (hf2 : f ≤ 20) : F_how_many [.d (.int f), .d (.int a)] = .ok (.d (.int (stir a f : Nat))) [none, none] := by
  have hm : mid (a : Int) = true := mid_nat (by omega)
  have hm1 : mid ((f : Int) + 1) = true := mid_nat (n := f + 1) (by omega)
  have c0 : (a : Int) ≤ 24 := by omega
  have c1 : (f : Int) ≤ (if (20 : Int) < (a : Int) then (20 : Int) else (a : Int)) := by split <;> omega
  have c2 : (f : Int) ≤ 1000 := by omega
  have c3 : mid (f : Int) = true := mid_nat (by omega)
  have c5 : (List.replicate f [PyData.int 0]).flatten = List.replicate f (PyData.int 0) := by simp
  have c4 : 1 + f ≤ 1000000 := by omega
  have t1 : ((f : Int) + 1).toNat = f + 1 := by omega
  have wl := ways_at a f f (Nat.le_refl f)
  obtain ⟨ρ', h1, x3, h2, h3⟩ := forL_inv (t := .one 3) (body := b_how_many_1) (fun (i : Nat) => PyData.int (i : Int)) (fun k ρ => ∃ x3, ownAt (some x3) = false ∧ ρ = [some (.d (.int f)), some (.d (.int a)), some (.ls false (ways k f)), x3, none]) (List.range a) 0
    [some (.d (.int f)), some (.d (.int a)), some (.ls false (ways 0 f)), none, none] ⟨none, rfl, rfl⟩ (by
      rintro i x ρ hx ⟨x3, h3, rfl⟩
      refine ⟨_, .inl ?_, some (.d (.int x)), rfl, rfl⟩
      have cp := compL_map (t := .one 4) (ft := retM true) (fe := e_how_many_1) (ρ := [some (.d (.int f)), some (.d (.int a)), some (.ls false (ways (0 + i) f)), some (.d (.int x)), none]) (fun (i : Nat) => PyData.int (i : Int)) (fun m => .int (stir (0 + i + 1) m : Nat)) (List.range (f + 1)) (by simp; omega)
        (fun m hm => how_step f a (0 + i) m _ (by simp at hm; omega) hf2)
      rw [show (List.range (f + 1)).map (fun m => PyData.int ((stir (0 + i + 1) m : Nat) : Int)) = ways (0 + i + 1) f from rfl] at cp
      simp only [Nat.zero_add] at cp ⊢
      simp [roundM_ap, b_how_many_1, h3, hm1, rangeD0, cp, t1])
  subst h3
  simp at h1
  simp [F_how_many, f_how_many, bodyF_ap, c0, c1, c2, c3, c4, c5, hm, rangeD0, h1, ways0, wl]
theorem how_bad (f a : Int) (h : ¬ (0 ≤ a ∧ a ≤ 24 ∧ 0 ≤ f ∧ f ≤ a ∧ f ≤ 20)) : F_how_many [.d (.int f), .d (.int a)] = .err 4 [none, none] := by
  by_cases h1 : 0 ≤ a
  · by_cases h2 : a ≤ 24
    · by_cases h3 : 0 ≤ f
      · have c1 : ¬ f ≤ (if (20 : Int) < a then (20 : Int) else a) := by split <;> omega
        simp [F_how_many, f_how_many, bodyF_ap, h1, h2, h3, c1]
      · simp [F_how_many, f_how_many, bodyF_ap, h1, h2, h3]
    · simp [F_how_many, f_how_many, bodyF_ap, h1, h2]
  · simp [F_how_many, f_how_many, bodyF_ap, h1]
end G8
namespace G8
open PySem L2
/-! rows -/
def il (xs : List Int) : Dt := .list (xs.map PyData.int)
theorem il_eq (xs : List Int) : il xs = .list (xs.map PyData.int) := rfl
theorem nice_il (n : Nat) (xs : List Int) : nice (n + 1) (il xs) := nice_ints n xs
def okName (n : Int) : Prop := 0 ≤ n ∧ n ≤ 19
instance (n : Int) : Decidable (okName n) := by unfold okName; infer_instance
def okRow (xs : List Int) : Prop := xs.length ≤ 24 ∧ ∀ x ∈ xs, okName x
instance (xs : List Int) : Decidable (okRow xs) := by unfold okRow; infer_instance
theorem look_name_ok {n : Int} (h : okName n) : F_look_name [.d (.int n)] = .ok (.d .none) [none] := by
  simp [F_look_name, f_look_name, bodyF_ap, h.1, h.2]
theorem look_name_bad {n : Int} (h : ¬ okName n) : F_look_name [.d (.int n)] = .err 0 [none] := by
  unfold okName at h
  by_cases h1 : 0 ≤ n
  · have h2 : ¬ n ≤ 19 := fun z => h ⟨h1, z⟩
    simp [F_look_name, f_look_name, bodyF_ap, h1, h2]
  · simp [F_look_name, f_look_name, bodyF_ap, h1]
theorem look_loop (r : Dt) : ∀ (xs : List Int) (x1 : Option Sv), ownAt (some x1) = false → ∃ x1', forL (.one 1) b_look_row_1 (xs.map PyData.int) [some (.d r), x1] = if (∀ x ∈ xs, okName x) then .ok .nx [some (.d r), x1'] else .err 0 [some (.d r), x1']
  | [], x1, _ => ⟨x1, by simp⟩
  | x :: xs, x1, h => by
    by_cases hx : okName x
    · obtain ⟨x1', e⟩ := look_loop r xs (some (.d (.int x))) rfl
      refine ⟨x1', ?_⟩
      rw [List.map_cons, forL_round]
      simp [roundM_ap, b_look_row_1_ap, h, look_name_ok hx, e, hx]
    · refine ⟨some (.d (.int x)), ?_⟩
      rw [List.map_cons, forL_round]
      simp [roundM_ap, b_look_row_1_ap, h, look_name_bad hx, hx]
theorem look_row_ok {xs : List Int} (h : okRow xs) : F_look_row [.d (il xs)] = .ok (.d .none) [none] := by
  obtain ⟨x1', e⟩ := look_loop (.list (xs.map PyData.int)) xs none rfl
  rw [if_pos h.2] at e
  have h1 : ¬ (24 : Int) < (xs.length : Int) := by have := h.1; omega
  simp [F_look_row, f_look_row, bodyF_ap, il, e, h1]
theorem look_row_bad {xs : List Int} (h : ¬ okRow xs) : F_look_row [.d (il xs)] = .err 0 [none] := by
  obtain ⟨x1', e⟩ := look_loop (.list (xs.map PyData.int)) xs none rfl
  by_cases hl : xs.length ≤ 24
  · have h1 : ¬ (24 : Int) < (xs.length : Int) := by omega
    rw [if_neg (fun z => h ⟨hl, z⟩)] at e
    simp [F_look_row, f_look_row, bodyF_ap, il, e, h1]
  · have h1 : (24 : Int) < (xs.length : Int) := by omega
    simp [F_look_row, f_look_row, bodyF_ap, il, h1]
theorem look_room_ok {n : Int} (h : 0 ≤ n ∧ n ≤ 12) : F_look_room [.d (.int n)] = .ok (.d .none) [none] := by
  simp [F_look_room, f_look_room, bodyF_ap, h.1, h.2]
theorem look_room_bad {n : Int} (h : ¬ (0 ≤ n ∧ n ≤ 12)) : F_look_room [.d (.int n)] = .err 1 [none] := by
  by_cases h1 : 0 ≤ n
  · have h2 : ¬ n ≤ 12 := fun z => h ⟨h1, z⟩
    simp [F_look_room, f_look_room, bodyF_ap, h1, h2]
  · simp [F_look_room, f_look_room, bodyF_ap, h1]
/-! names, in the order of first asks -/
def uniq : List Int → List Int → List Int
  | [], acc => acc
  | x :: xs, acc => uniq xs (if x ∈ acc then acc else acc ++ [x])
theorem names_loop (r : Dt) : ∀ (xs acc : List Int) (x2 : Option Sv), acc.length + xs.length < 1000000 → ownAt (some x2) = false →
    ∃ x2', forL (.one 2) b_names_1 (xs.map PyData.int) [some (.d r), some (.ls false (acc.map PyData.int)), x2] = .ok .nx [some (.d r), some (.ls false ((uniq xs acc).map PyData.int)), x2']
  | [], acc, x2, _, _ => ⟨x2, by simp [uniq]⟩
  | x :: xs, acc, x2, hl, h => by
    have hi := ninD_ints x acc
    by_cases hx : x ∈ acc
    · obtain ⟨x2', e⟩ := names_loop r xs acc (some (.d (.int x))) (by simp at hl; omega) rfl
      refine ⟨x2', ?_⟩
      rw [List.map_cons, forL_round]
      simp [hx] at hi
      simp [roundM_ap, b_names_1_ap, h, hi, e, uniq, hx]
    · obtain ⟨x2', e⟩ := names_loop r xs (acc ++ [x]) (some (.d (.int x))) (by simp at hl ⊢; omega) rfl
      refine ⟨x2', ?_⟩
      rw [List.map_cons, forL_round]
      simp [hx] at hi
      have h3 : acc.length < 1000000 := by simp at hl; omega
      simp at e
      simp [roundM_ap, b_names_1_ap, h, hi, e, uniq, hx, appD, h3]
theorem names_ok {xs : List Int} (h : okRow xs) : F_names [.d (il xs)] = .ok (.l ((uniq xs []).map PyData.int)) [none] := by
  obtain ⟨x2', e⟩ := names_loop (.list (xs.map PyData.int)) xs [] none (by have := h.1; simp; omega) rfl
  have l := look_row_ok h
  simp [il] at l
  simp at e
  simp [F_names, f_names, bodyF_ap, il, l, e]
theorem names_bad {xs : List Int} (h : ¬ okRow xs) : F_names [.d (il xs)] = .err 0 [none] := by
  have l := look_row_bad h
  simp [il] at l
  simp [F_names, f_names, bodyF_ap, il, l]
end G8
namespace G8
open PySem L2
/-! lists of ints as data -/
theorem atI_ints {xs : List Int} {k : Nat} {x : Int} (h : xs[k]? = some x) : atI (xs.map PyData.int) (k : Int) = some (.int x) := by
  rw [G8.atI_nat, List.getElem?_map, h]
  rfl
theorem countD_ints (xs : List Int) (x : Int) : countD (xs.map PyData.int) (.int x) = some ((xs.count x : Nat) : Int) := by
  unfold countD
  rw [List.countP_map]
  congr 3
theorem indexD_ints {xs : List Int} {x : Int} (h : x ∈ xs) : indexD (xs.map PyData.int) (.int x) = some ((xs.idxOf x : Nat) : Int) := by
  unfold indexD SeqAt.dataPlace
  rw [List.findIdx?_map]
  have e : (fun y => PyData.eqv y (PyData.int x)) ∘ PyData.int = fun y => y == x := by
    funext y
    rw [Function.comp_apply, eqv_ii]
    by_cases q : y = x <;> simp [q]
  rw [e, List.findIdx?_eq_some_of_exists ⟨x, h, by simp⟩]
  rfl
theorem cut_take {xs : List Dt} (k : Nat) : cutD xs none (some (k : Int)) = xs.take k := by
  unfold cutD
  rw [HT.sIx_none, HT.sIx_nat]
  simp [List.take_eq_take_iff]
theorem cut_drop {xs : List Dt} (k : Nat) : cutD xs (some (k : Int)) none = xs.drop k := by
  unfold cutD
  rw [HT.sIx_none, HT.sIx_nat]
  by_cases h : k ≤ xs.length
  · rw [Nat.min_eq_left h, List.take_of_length_le (by simp)]
  · rw [Nat.min_eq_right (by omega), List.drop_eq_nil_of_le (Nat.le_refl _), List.drop_eq_nil_of_le (by omega)]
    simp
theorem alikeB_ints (xs : List Int) : alikeB (xs.map PyData.int) = true := by
  unfold alikeB
  rw [Bool.and_eq_true, List.all_eq_true, List.all_eq_true]
  refine ⟨fun x hx => List.all_eq_true.mpr fun y hy => ?_, fun x hx => ?_⟩
  · obtain ⟨i, _, rfl⟩ := List.mem_map.mp hx
    obtain ⟨j, _, rfl⟩ := List.mem_map.mp hy
    rw [PySem.W.alike]
  · obtain ⟨i, _, rfl⟩ := List.mem_map.mp hx
    rfl
theorem max_ints (x : Int) (xs : List Int) : bestD PySem.W.maxD [.list (.int x :: xs.map PyData.int)] = some (.d (.int (xs.foldl max x))) := by
  have e1 : alikeB (.int x :: xs.map PyData.int) = true := alikeB_ints (x :: xs)
  have e2 : shalL (.int x :: xs.map PyData.int) = true := shalL_ints (x :: xs)
  show (if shalL (.int x :: xs.map PyData.int) && alikeB (.int x :: xs.map PyData.int) then some (Rv.d (PySem.W.maxD (.int x) (xs.map PyData.int))) else none) = _
  rw [e1, e2, PySem.W.maxD_ints]
  rfl
theorem min_ints (x : Int) (xs : List Int) : bestD PySem.W.minD [.list (.int x :: xs.map PyData.int)] = some (.d (.int (xs.foldl min x))) := by
  have e1 : alikeB (.int x :: xs.map PyData.int) = true := alikeB_ints (x :: xs)
  have e2 : shalL (.int x :: xs.map PyData.int) = true := shalL_ints (x :: xs)
  show (if shalL (.int x :: xs.map PyData.int) && alikeB (.int x :: xs.map PyData.int) then some (Rv.d (PySem.W.minD (.int x) (xs.map PyData.int))) else none) = _
  rw [e1, e2, PySem.W.minD_ints]
  rfl
/-! caches.last_of, next_of -/
def occ (row : List Int) (k : Nat) (x : Int) : List Nat := (List.range k).filter fun j => decide (row[j]? = some x)
def lastIx (row : List Int) (k : Nat) (x : Int) : Nat := (occ row k x).getLastD 0
theorem foldl_max_last : ∀ (xs : List Nat) (x : Nat), (x :: xs).Pairwise (· < ·) → (xs.map fun (i : Nat) => (i : Int)).foldl max (x : Int) = ((xs.getLastD x : Nat) : Int)
  | [], x, _ => rfl
  | y :: ys, x, h => by
    have h1 : x < y := (List.pairwise_cons.mp h).1 y (List.mem_cons_self ..)
    rw [List.map_cons, List.foldl_cons, show max (x : Int) (y : Int) = (y : Int) by omega, foldl_max_last ys y (List.pairwise_cons.mp h).2]
    cases ys <;> rfl
theorem last_step (row : List Int) (k : Nat) (x : Int) (j : Nat) (hj : j < row.length) : stepL (.one 3) t_last_of_1 (varM 3) (.int (j : Int)) [some (.d (il row)), some (.d (.int (k : Int))), some (.d (.int x)), none]
    = .ok (if row[j]? = some x then some (.int (j : Int)) else none) [some (.d (il row)), some (.d (.int (k : Int))), some (.d (.int x)), none] := by
  have e := atI_ints (List.getElem?_eq_getElem hj)
  rw [List.getElem?_eq_getElem hj]
  by_cases hx : row[j] = x
  · simp [stepL_ap, t_last_of_1_ap, il, e, hx]
  · simp [stepL_ap, t_last_of_1_ap, il, e, hx]
theorem last_of_ok (row : List Int) (k : Nat) (x : Int) (hk : k ≤ row.length) (hl : row.length ≤ 24) (hx : x ∈ row.take k) : F_last_of [.d (il row), .d (.int (k : Int)), .d (.int x)] = .ok (.d (.int (lastIx row k x : Nat))) [none, none, none] := by
  have hm : mid (k : Int) = true := mid_nat (by omega)
  have cp := compL_fmap (t := .one 3) (ft := t_last_of_1) (fe := varM 3) (ρ := [some (.d (il row)), some (.d (.int (k : Int))), some (.d (.int x)), none]) (fun (i : Nat) => PyData.int (i : Int)) (fun j => if row[j]? = some x then some (.int (j : Int)) else none) (List.range k) (by simp; omega)
    (fun j hj => last_step row k x j (by have := List.mem_range.mp hj; omega))
  have ef : (List.range k).filterMap (fun (j : Nat) => if row[j]? = some x then some (PyData.int (j : Int)) else none) = ((occ row k x).map fun (i : Nat) => (i : Int)).map PyData.int := by
    unfold occ
    rw [List.map_map, ← List.filterMap_eq_map, List.filterMap_filter]
    congr 1
    funext j
    by_cases h : row[j]? = some x <;> simp [h]
  rw [ef] at cp
  obtain ⟨y, ys, ho⟩ : ∃ y ys, occ row k x = y :: ys := by
    obtain ⟨j, hj, e⟩ := List.mem_iff_getElem.mp hx
    rw [List.length_take] at hj
    rw [List.getElem_take] at e
    have : j ∈ occ row k x := by
      unfold occ
      rw [List.mem_filter, List.mem_range, decide_eq_true_eq]
      exact ⟨by omega, by rw [List.getElem?_eq_getElem (by omega), e]⟩
    cases h : occ row k x with
    | nil => rw [h] at this; cases this
    | cons y ys => exact ⟨y, ys, rfl⟩
  have pw : (occ row k x).Pairwise (· < ·) := List.Pairwise.filter _ List.pairwise_lt_range
  rw [ho] at pw
  have mx := max_ints (y : Int) (ys.map fun (i : Nat) => (i : Int))
  rw [foldl_max_last ys y pw] at mx
  have el : lastIx row k x = ys.getLastD y := by
    unfold lastIx
    rw [ho]
    cases ys <;> rfl
  rw [ho] at cp
  simp only [List.map_cons] at cp mx
  rw [el]
  simp at cp mx
  simp [F_last_of, f_last_of, bodyF_ap, hm, rangeD0, cp, mx]
/-! stacks.moved, by any order -/
def lt2 (p q : Int × Int) : Bool := HT.lexLt [p.1, p.2] [q.1, q.2]
def mv (lt : Int → Int → Bool) (name : Int) : List Int → List Int → Option Int → List Int × Option Int
  | [], found, c => (found, c)
  | o :: rest, found, c => if o = name then (found, c) else (match c with
    | none => mv lt name rest found (some o)
    | some d => if lt o d then mv lt name rest (found ++ [d]) (some o) else mv lt name rest (found ++ [o]) (some d))
def moveP (lt : Int → Int → Bool) (name : Int) (stack : List Int) : List Int :=
  let r := mv lt name stack [name] none
  let f := r.1 ++ r.2.toList
  f ++ stack.drop f.length
def optI : Option Int → Dt
  | none => .none
  | some i => .int i
theorem moved_loop (rule : Str) (row : List Int) (k : Int) (name : Int) (st : Dt) (rk : Int → Int × Int) : ∀ (xs found : List Int) (c : Option Int) (x7 : Option Sv), found.length + xs.length < 1000000 → ownAt (some x7) = false →
    (∀ x, (x ∈ xs ∨ c = some x) → F_rank [.d (.str rule), .d (il row), .d (.int k), .d (.int x)] = .ok (.d (.tuple [.int (rk x).1, .int (rk x).2])) [none, none, none, none]) →
    ∃ x7', forL (.one 7) b_moved_1 (xs.map PyData.int) [some (.d (.str rule)), some (.d (il row)), some (.d (.int k)), some (.d st), some (.d (.int name)), some (.ls false (found.map PyData.int)), some (.d (optI c)), x7]
      = .ok .nx [some (.d (.str rule)), some (.d (il row)), some (.d (.int k)), some (.d st), some (.d (.int name)), some (.ls false ((mv (fun a b => lt2 (rk a) (rk b)) name xs found c).1.map PyData.int)), some (.d (optI (mv (fun a b => lt2 (rk a) (rk b)) name xs found c).2)), x7']
  | [], found, c, x7, _, _, _ => ⟨x7, by simp [mv]⟩
  | x :: xs, found, c, x7, hl, h, hr => by
    have hl1 : found.length < 1000000 := by simp at hl; omega
    by_cases hn : x = name
    · refine ⟨some (.d (.int x)), ?_⟩
      rw [List.map_cons, forL_round]
      simp [roundM_ap, b_moved_1_ap, h, hn, mv]
    · cases c with
      | none =>
        obtain ⟨x7', e⟩ := moved_loop rule row k name st rk xs found (some x) (some (.d (.int x))) (by simp at hl; omega) rfl (fun y hy => hr y (by
          rcases hy with hy | hy
          · exact .inl (List.mem_cons_of_mem _ hy)
          · cases hy; exact .inl (List.mem_cons_self ..)))
        refine ⟨x7', ?_⟩
        rw [List.map_cons, forL_round]
        simp [roundM_ap, b_moved_1_ap, h, hn, mv, optI]
        exact e
      | some d =>
        have r1 := hr x (.inl (List.mem_cons_self ..))
        have r2 := hr d (.inr rfl)
        by_cases hlt : lt2 (rk x) (rk d) = true
        · obtain ⟨x7', e⟩ := moved_loop rule row k name st rk xs (found ++ [d]) (some x) (some (.d (.int x))) (by simp at hl ⊢; omega) rfl (fun y hy => hr y (by
            rcases hy with hy | hy
            · exact .inl (List.mem_cons_of_mem _ hy)
            · cases hy; exact .inl (List.mem_cons_self ..)))
          refine ⟨x7', ?_⟩
          rw [List.map_cons, forL_round]
          unfold lt2 at hlt
          simp [roundM_ap, b_moved_1_ap, h, hn, mv, optI, r1, r2, intsOf, hlt, appD, hl1, lt2]
          simp [optI, lt2] at e
          exact e
        · obtain ⟨x7', e⟩ := moved_loop rule row k name st rk xs (found ++ [x]) (some d) (some (.d (.int x))) (by simp at hl ⊢; omega) rfl (fun y hy => hr y (by
            rcases hy with hy | hy
            · exact .inl (List.mem_cons_of_mem _ hy)
            · exact .inr hy))
          refine ⟨x7', ?_⟩
          rw [List.map_cons, forL_round]
          unfold lt2 at hlt
          simp [roundM_ap, b_moved_1_ap, h, hn, mv, optI, r1, r2, intsOf, hlt, appD, hl1, lt2]
          simp [optI, lt2] at e
          exact e
end G8
namespace G8
open PySem L2
/-! what the methods of a meter do -/
@[simp] theorem isRef_m (r : Bool) (m : Ms) : (Sv.mt r m).isRef = r := rfl
@[simp] theorem own_m (r : Bool) (m : Ms) : (Sv.mt r m).own = true := rfl
@[simp] theorem mark_m (b r : Bool) (m : Ms) : (Sv.mt r m).mark b = .mt b m := rfl
@[simp] theorem wbAt_m (r : Bool) (m : Ms) (s : Sv) : wbAt (some (.mt r m)) (some (some s)) = some (s.mark r) := rfl
@[simp] theorem mtAt_m (r : Bool) (m : Ms) : mtAt (some (some (.mt r m))) = some (r, m) := rfl
@[simp] theorem methM_ap (n : Nat) (F : Fn) (i : Nat) (fl : M (List Av)) (ρ : Ev) : methM n F i fl ρ = bindM (optM fun ρ => mtAt ρ[i]?) (fun _ => bindM fl fun as => callF n F (.s i :: as)) ρ := rfl
@[simp] theorem fldM_ap (i k : Nat) (ρ : Ev) : fldM i k ρ = optM (fun ρ => match mtAt ρ[i]? with
  | some (_, m) => if k < 2 then some (.list (fLs m k)) else none
  | none => none) ρ := rfl
@[simp] theorem fLs_0 (m : Ms) : fLs m 0 = m.names.map PyData.int := rfl
@[simp] theorem fLs_1 (m : Ms) : fLs m 1 = m.told.map oD := rfl
@[simp] theorem lenO_ap (fo : M Dt) (ρ : Ev) : lenO fo ρ = bindM fo (fun y => match y with
  | .list xs => retM (.d (.int xs.length))
  | _ => badM) ρ := rfl
@[simp] theorem listO_ap (fo : M Dt) (ρ : Ev) : listO fo ρ = bindM fo (fun y => match y with
  | .list xs => retM (.l xs)
  | _ => badM) ρ := rfl
@[simp] theorem cmpTO_ap (g : Dt → Dt → Option Bool) (fa : M Av) (fo : M Dt) (ρ : Ev) : cmpTO g fa fo ρ = bindM fa (fun a => bindM fo fun y => optM fun ρ => (res ρ a).bind fun x => g x y) ρ := rfl
@[simp] theorem truP_ap (i : Nat) (ρ : Ev) : truP i ρ = optM (fun ρ => (mtAt ρ[i]?).map fun rm => !rm.2.past.isEmpty) ρ := rfl
@[simp] theorem slotZ_m (r : Bool) (m : Ms) : slotZ (some (some (.mt r m))) = none := rfl
/-- where a name stands, from 1 on -/
def depN (ns : List Int) (n : Int) : Option Int := if n ∈ ns then some (((ns.idxOf n : Nat) : Int) + 1) else none
def outN (ns : List Int) (n : Int) : List Int := ns.filter fun y => !decide (y = n)
def hitsN (os : List (Option Int)) (room : Int) : List (Option Int) := os.filter fun o => match o with
  | none => false
  | some d => decide (d ≤ room)
theorem filt_ne (j : Nat) (ρ : Ev) (n : Int) (h : slotZ ρ[j]? = some (.int n)) : ∀ ns : List Int, filtO (prNe j ρ) (ns.map PyData.int) = some ((outN ns n).map PyData.int)
  | [] => rfl
  | y :: ns => by
    have ih := filt_ne j ρ n h ns
    rw [List.map_cons, filtO, ih]
    unfold prNe
    rw [h]
    unfold outN
    by_cases e : y = n <;> simp [e]
theorem filt_le (j : Nat) (ρ : Ev) (n : Int) (h : slotZ ρ[j]? = some (.int n)) : ∀ os : List (Option Int), filtO (prLe j ρ) (os.map oD) = some ((hitsN os n).map oD)
  | [] => rfl
  | o :: os => by
    have ih := filt_le j ρ n h os
    rw [List.map_cons, filtO, ih]
    unfold prLe
    rw [h]
    unfold hitsN
    cases o with
    | none => simp [oD]
    | some d => by_cases e : d ≤ n <;> simp [oD, e]
theorem intsO_ints : ∀ is : List Int, intsO (is.map PyData.int) = some is
  | [] => rfl
  | i :: is => by
    show (intsO (is.map PyData.int)).map _ = _
    rw [intsO_ints is]
    rfl
theorem dO_oD (o : Option Int) : dO (oD o) = some o := by cases o <;> rfl
theorem shal_int (i : Int) : shal (.int i) = true := rfl
def noteMs (m : Ms) : Ms := ⟨m.names, m.told, m.past ++ [(m.names, m.told)]⟩
def askMs (m : Ms) (n : Int) : Ms := ⟨n :: outN m.names n, m.told ++ [depN m.names n], m.past ++ [(m.names, m.told)]⟩
def forMs (m : Ms) (n : Int) : Ms := ⟨m.names.eraseIdx (m.names.idxOf n), m.told, m.past ++ [(m.names, m.told)]⟩
/-- within the bounds -/
structure MsOk (m : Ms) : Prop where
  na : m.names.length ≤ 100
  to : m.told.length ≤ 24
  pa : m.past.length ≤ 100
theorem fm_note {m : Ms} (h : MsOk m) : F_Meter_note [.mt true m] = .ok (.d .none) [some (.mt true (noteMs m))] := by
  have h1 : m.past.length < 1000 := by have := h.pa; omega
  simp [F_Meter_note, f_Meter_note, bodyF_ap, noteS, h1, noteMs]
theorem fm_ask_name {m : Ms} {n : Int} (hn : ¬ okName n) : F_Meter_ask [.mt true m, .d (.int n)] = .err 0 [some (.mt true m), none] := by
  simp [F_Meter_ask, f_Meter_ask, bodyF_ap, look_name_bad hn]
theorem fm_ask_full {m : Ms} {n : Int} (hn : okName n) (h : m.told.length = 24) : F_Meter_ask [.mt true m, .d (.int n)] = .err 6 [some (.mt true m), none] := by
  simp [F_Meter_ask, f_Meter_ask, bodyF_ap, look_name_ok hn, h]
theorem fm_ask {m : Ms} {n : Int} (ok : MsOk m) (hn : okName n) (h : ¬ m.told.length = 24) : F_Meter_ask [.mt true m, .d (.int n)] = .ok (.d (oD (depN m.names n))) [some (.mt true (askMs m n)), none] := by
  have h1 : ¬ ((m.told.length : Int) = 24) := by omega
  have h2 : m.told.length < 1000 := by have := ok.to; omega
  have h3 : m.names.length ≤ 1000 := by have := ok.na; omega
  have h4 : (outN m.names n).length ≤ m.names.length := List.length_filter_le ..
  have h5 : (outN m.names n).length ≤ 999999 := by omega
  have fi : ∀ ρ : Ev, slotZ ρ[1]? = some (.int n) → filtO (prNe 1 ρ) (m.names.map PyData.int) = some ((outN m.names n).map PyData.int) := fun ρ h => filt_ne 1 ρ n h m.names
  have io : intsO (PyData.int n :: (outN m.names n).map PyData.int) = some (n :: outN m.names n) := intsO_ints (n :: outN m.names n)
  by_cases hx : n ∈ m.names
  · have e : depN m.names n = some (((m.names.idxOf n : Nat) : Int) + 1) := by unfold depN; rw [if_pos hx]
    rw [askMs, e]
    simp [F_Meter_ask, f_Meter_ask, bodyF_ap, look_name_ok hn, h1, fm_note ok, noteMs, inD_ints, hx, idxF, shal_int, indexD_ints hx, setN, lcF, h3, fi, io, appF, dO, h2, oD, h5, Nat.add_comm]
  · have e : depN m.names n = none := by unfold depN; rw [if_neg hx]
    rw [askMs, e]
    simp [F_Meter_ask, f_Meter_ask, bodyF_ap, look_name_ok hn, h1, fm_note ok, noteMs, inD_ints, hx, idxF, shal_int, setN, lcF, h3, fi, io, appF, dO, h2, oD, h5, Nat.add_comm]
theorem fm_forget_name {m : Ms} {n : Int} (hn : ¬ okName n) : F_Meter_forget [.mt true m, .d (.int n)] = .err 0 [some (.mt true m), none] := by
  simp [F_Meter_forget, f_Meter_forget, bodyF_ap, look_name_bad hn]
theorem fm_forget_no {m : Ms} {n : Int} (hn : okName n) (h : n ∉ m.names) : F_Meter_forget [.mt true m, .d (.int n)] = .err 6 [some (.mt true m), none] := by
  simp [F_Meter_forget, f_Meter_forget, bodyF_ap, look_name_ok hn, ninD_ints, h]
theorem fm_forget {m : Ms} {n : Int} (ok : MsOk m) (hn : okName n) (h : n ∈ m.names) : F_Meter_forget [.mt true m, .d (.int n)] = .ok (.d .none) [some (.mt true (forMs m n)), none] := by
  simp [F_Meter_forget, f_Meter_forget, bodyF_ap, look_name_ok hn, ninD_ints, h, fm_note ok, noteMs, remN, forMs]
theorem fm_back_no {m : Ms} (h : m.past = []) : F_Meter_back [.mt true m] = .err 6 [some (.mt true m)] := by
  simp [F_Meter_back, f_Meter_back, bodyF_ap, h]
theorem fm_back {m : Ms} {ps : List (List Int × List (Option Int))} {q : List Int × List (Option Int)} (h : m.past = ps ++ [q]) : F_Meter_back [.mt true m] = .ok (.d .none) [some (.mt true ⟨q.1, q.2, ps⟩)] := by
  have he : (ps ++ [q]).isEmpty = false := by cases ps <;> rfl
  simp [F_Meter_back, f_Meter_back, bodyF_ap, h, backS, he]
theorem fm_stack (m : Ms) : F_Meter_stack [.mt true m] = .ok (.l (m.names.map PyData.int)) [some (.mt true m)] := by
  simp [F_Meter_stack, f_Meter_stack, bodyF_ap]
theorem fm_asks (m : Ms) : F_Meter_asks [.mt true m] = .ok (.d (.int m.told.length)) [some (.mt true m)] := by
  simp [F_Meter_asks, f_Meter_asks, bodyF_ap]
theorem fm_hits_no {m : Ms} {n : Int} (hn : ¬ (0 ≤ n ∧ n ≤ 12)) : F_Meter_hits [.mt true m, .d (.int n)] = .err 1 [some (.mt true m), none] := by
  simp [F_Meter_hits, f_Meter_hits, bodyF_ap, look_room_bad hn]
theorem fm_hits {m : Ms} {n : Int} (ok : MsOk m) (hn : 0 ≤ n ∧ n ≤ 12) : F_Meter_hits [.mt true m, .d (.int n)] = .ok (.d (.int (hitsN m.told n).length)) [some (.mt true m), none] := by
  have h3 : m.told.length ≤ 1000 := by have := ok.to; omega
  have fi : ∀ ρ : Ev, slotZ ρ[1]? = some (.int n) → filtO (prLe 1 ρ) (m.told.map oD) = some ((hitsN m.told n).map oD) := fun ρ h => filt_le 1 ρ n h m.told
  simp [F_Meter_hits, f_Meter_hits, bodyF_ap, look_room_ok hn, lcF, h3, fi, lenA, lenD]
theorem fm_found {m : Ms} {n : Int} (ok : MsOk m) : F_Meter_found_by [.mt true m, .d (.int n)] = .ok (.d (.int (hitsN m.told n).length)) [some (.mt true m), none] := by
  have h3 : m.told.length ≤ 1000 := by have := ok.to; omega
  have fi : ∀ ρ : Ev, slotZ ρ[1]? = some (.int n) → filtO (prLe 1 ρ) (m.told.map oD) = some ((hitsN m.told n).map oD) := fun ρ h => filt_le 1 ρ n h m.told
  simp [F_Meter_found_by, f_Meter_found_by, bodyF_ap, lcF, h3, fi, lenA, lenD]
end G8
namespace G8
open PySem L2
theorem mv_len (lt : Int → Int → Bool) (name : Int) : ∀ (xs found : List Int) (c : Option Int), (mv lt name xs found c).1.length ≤ found.length + xs.length
  | [], found, c => by simp [mv]
  | x :: xs, found, c => by
    cases c with
    | none =>
      have h1 := mv_len lt name xs found (some x)
      by_cases h : x = name
      · simp [mv, h]
      · simp [mv, h]; omega
    | some d =>
      have h1 := mv_len lt name xs (found ++ [d]) (some x)
      have h2 := mv_len lt name xs (found ++ [x]) (some d)
      simp at h1 h2
      by_cases h : x = name
      · simp [mv, h]
      · by_cases hl : lt x d = true
        · simp [mv, h, hl]; omega
        · simp [mv, h, hl]; omega
theorem moved_ok (rule : Str) (row stack : List Int) (k : Nat) (name : Int) (rk : Int → Int × Int) (hk : row[k]? = some name) (hl : stack.length < 1000)
    (hr : ∀ x ∈ stack, F_rank [.d (.str rule), .d (il row), .d (.int (k : Int)), .d (.int x)] = .ok (.d (.tuple [.int (rk x).1, .int (rk x).2])) [none, none, none, none]) :
    F_moved [.d (.str rule), .d (il row), .d (.int (k : Int)), .d (il stack)] = .ok (.l ((moveP (fun a b => lt2 (rk a) (rk b)) name stack).map PyData.int)) [none, none, none, none] := by
  obtain ⟨x7', e⟩ := moved_loop rule row k name (il stack) rk stack [name] none none (by simp; omega) rfl (fun x hx => hr x (by
    rcases hx with hx | hx
    · exact hx
    · cases hx))
  have e1 := atI_ints hk
  have hlen := mv_len (fun a b => lt2 (rk a) (rk b)) name stack [name] none
  unfold moveP
  generalize hmv : mv (fun a b => lt2 (rk a) (rk b)) name stack [name] none = r at e hlen
  obtain ⟨f, c⟩ := r
  simp at hlen
  simp [il, optI] at e
  cases c with
  | none =>
    have sz : f.length + (stack.length - f.length) ≤ 1000000 := by omega
    have ct := cut_drop (xs := stack.map PyData.int) f.length
    simp [F_moved, f_moved, bodyF_ap, il, e1, e, optI, slD, ct, sz]
  | some d =>
    have h1 : f.length < 1000000 := by omega
    have sz : f.length + 1 + (stack.length - (f.length + 1)) ≤ 1000000 := by omega
    have ct := cut_drop (xs := stack.map PyData.int) (f.length + 1)
    simp at ct
    simp [F_moved, f_moved, bodyF_ap, il, e1, e, optI, slD, appD, h1, ct, sz]
/-! stacks.walked -/
/-- the stack ahead of each ask, by an order for each time -/
def stackAt (lt : Nat → Int → Int → Bool) (row : List Int) : Nat → List Int
  | 0 => []
  | k + 1 => match row[k]? with
    | some name => moveP (lt k) name (stackAt lt row k)
    | none => stackAt lt row k
def depthAt (lt : Nat → Int → Int → Bool) (row : List Int) (k : Nat) : Option Int := match row[k]? with
  | some name => if name ∈ stackAt lt row k then some ((stackAt lt row k).idxOf name + 1 : Nat) else none
  | none => none
def ol (xs : List (Option Int)) : Dt := .list (xs.map optI)
def depthsP (lt : Nat → Int → Int → Bool) (row : List Int) (n : Nat) : List (Option Int) := (List.range n).map (depthAt lt row)
theorem depthsP_succ (lt : Nat → Int → Int → Bool) (row : List Int) (n : Nat) : depthsP lt row (n + 1) = depthsP lt row n ++ [depthAt lt row n] := by
  unfold depthsP
  rw [List.range_succ, List.map_append]
  rfl
theorem walked_ok (rule : Str) (row : List Int) (rk : Nat → Int → Int × Int) (hl : row.length ≤ 24) (hst : ∀ k, k ≤ row.length → (stackAt (fun k a b => lt2 (rk k a) (rk k b)) row k).length < 1000)
    (hr : ∀ k, k < row.length → ∀ x ∈ stackAt (fun k a b => lt2 (rk k a) (rk k b)) row k, F_rank [.d (.str rule), .d (il row), .d (.int (k : Int)), .d (.int x)] = .ok (.d (.tuple [.int (rk k x).1, .int (rk k x).2])) [none, none, none, none]) :
    F_walked [.d (.str rule), .d (il row)] = .ok (.d (.tuple [ol (depthsP (fun k a b => lt2 (rk k a) (rk k b)) row row.length), il (stackAt (fun k a b => lt2 (rk k a) (rk k b)) row row.length)])) [none, none] := by
  have hm : mid (row.length : Int) = true := mid_nat (by omega)
  generalize hlt : (fun k a b => lt2 (rk k a) (rk k b)) = lt at hst hr ⊢
  obtain ⟨ρ', h1, x4, h2, h3⟩ := forL_inv (t := .one 4) (body := b_walked_1) (fun (i : Nat) => PyData.int (i : Int)) (fun n ρ => ∃ x4, ownAt (some x4) = false ∧ ρ = [some (.d (.str rule)), some (.d (il row)), some (.ls false ((stackAt lt row n).map PyData.int)), some (.ls false ((depthsP lt row n).map optI)), x4])
    (List.range row.length) 0 [some (.d (.str rule)), some (.d (il row)), some (.ls false []), some (.ls false []), none] ⟨none, rfl, rfl⟩ (by
      rintro i x ρ hx ⟨x4, h4, rfl⟩
      have hxn : x < row.length := List.mem_range.mp (List.mem_of_getElem? hx)
      have hix : x = 0 + i := by
        rw [List.getElem?_range (by
          have := (List.getElem?_eq_some_iff.mp hx).1
          simpa using this)] at hx
        cases hx
        omega
      subst hix
      have hn := List.getElem?_eq_getElem hxn
      have e1 := atI_ints hn
      have mo := moved_ok rule row (stackAt lt row (0 + i)) (0 + i) row[0 + i] (rk (0 + i)) hn (hst _ (by omega)) (hr _ hxn)
      have eq1 : (fun a b => lt2 (rk (0 + i) a) (rk (0 + i) b)) = lt (0 + i) := by rw [← hlt]
      rw [eq1] at mo
      have es : stackAt lt row (0 + i + 1) = moveP (lt (0 + i)) row[0 + i] (stackAt lt row (0 + i)) := by
        rw [stackAt, hn]
      have ed := depthsP_succ lt row (0 + i)
      have hdl : (depthsP lt row (0 + i)).length < 1000000 := by simp [depthsP]; omega
      have hin := inD_ints row[0 + i] (stackAt lt row (0 + i))
      simp only [Nat.zero_add] at *
      refine ⟨_, .inl ?_, some (.d (.int (i : Int))), rfl, rfl⟩
      rw [es, ed]
      by_cases hmem : row[i] ∈ stackAt lt row i
      · have hid := indexD_ints hmem
        have da : depthAt lt row i = some ((stackAt lt row i).idxOf row[i] + 1 : Nat) := by
          unfold depthAt
          rw [hn]
          simp [hmem]
        simp [hmem] at hin
        simp [il] at mo e1
        simp [roundM_ap, b_walked_1_ap, h4, il, e1, hin, lookD, hid, appD, hdl, mo, da, optI]
      · have da : depthAt lt row i = none := by
          unfold depthAt
          rw [hn]
          simp [hmem]
        simp [hmem] at hin
        simp [il] at mo e1
        simp [roundM_ap, b_walked_1_ap, h4, il, e1, hin, appD, hdl, mo, da, optI])
  subst h3
  simp [il] at h1
  simp [F_walked, f_walked, bodyF_ap, il, ol, hm, rangeD0, h1]
end G8
namespace G8
open PySem L2
/-! the rule "last" -/
theorem rank_last (row : List Int) (k : Nat) (x : Int) (hk : k ≤ row.length) (hl : row.length ≤ 24) (hx : x ∈ row.take k) :
    F_rank [.d (.str "last"), .d (il row), .d (.int (k : Int)), .d (.int x)] = .ok (.d (.tuple [.int (lastIx row k x : Nat), .int 0])) [none, none, none, none] := by
  have h := last_of_ok row k x hk hl hx
  simp [F_rank, f_rank, bodyF_ap, h]
def push (s : List Int) (x : Int) : List Int := x :: s.erase x
def lru (xs : List Int) : List Int := xs.foldl push []
theorem lru_snoc (xs : List Int) (x : Int) : lru (xs ++ [x]) = push (lru xs) x := by simp [lru]
theorem push_nodup {s : List Int} (h : s.Nodup) (x : Int) : (push s x).Nodup := by
  unfold push
  rw [List.nodup_cons]
  exact ⟨h.not_mem_erase, h.erase x⟩
theorem mem_push (s : List Int) (x y : Int) : y ∈ push s x ↔ y = x ∨ y ∈ s := by
  unfold push
  rw [List.mem_cons]
  by_cases h : y = x
  · simp [h]
  · simp [h, List.mem_erase_of_ne h]
theorem snocInd {α : Type} {P : List α → Prop} (h0 : P []) (h1 : ∀ xs x, P xs → P (xs ++ [x])) (l : List α) : P l := by
  have key : ∀ l : List α, P l.reverse := fun l => by
    induction l with
    | nil => exact h0
    | cons x xs ih =>
      rw [List.reverse_cons]
      exact h1 _ _ ih
  have := key l.reverse
  rwa [List.reverse_reverse] at this
theorem lru_all (xs : List Int) : (lru xs).Nodup ∧ ∀ y, y ∈ lru xs ↔ y ∈ xs := by
  induction xs using snocInd with
  | h0 => simp [lru]
  | h1 xs x ih =>
    rw [lru_snoc]
    refine ⟨push_nodup ih.1 x, fun y => ?_⟩
    rw [mem_push, ih.2]
    simp [or_comm]
theorem lru_len (xs : List Int) : (lru xs).length ≤ xs.length := by
  induction xs using snocInd with
  | h0 => simp [lru]
  | h1 xs x ih =>
    rw [lru_snoc]
    unfold push
    have := List.length_erase_le (a := x) (l := lru xs)
    simp; omega
theorem occ_succ (row : List Int) (k : Nat) (x : Int) : occ row (k + 1) x = occ row k x ++ if row[k]? = some x then [k] else [] := by
  unfold occ
  rw [List.range_succ, List.filter_append]
  congr 1
  by_cases h : row[k]? = some x <;> simp [h]
theorem lastIx_succ (row : List Int) (k : Nat) (x : Int) : lastIx row (k + 1) x = if row[k]? = some x then k else lastIx row k x := by
  unfold lastIx
  rw [occ_succ]
  by_cases h : row[k]? = some x <;> simp [h]
theorem occ_mem {row : List Int} {k : Nat} {x : Int} {j : Nat} : j ∈ occ row k x ↔ j < k ∧ row[j]? = some x := by
  unfold occ
  rw [List.mem_filter, List.mem_range, decide_eq_true_eq]
theorem lastIx_lt {row : List Int} {k : Nat} {x : Int} (hk : 0 < k) : lastIx row k x < k := by
  unfold lastIx
  cases h : (occ row k x).getLast? with
  | none =>
    rw [List.getLastD_eq_getLast?, h]
    exact hk
  | some j =>
    rw [List.getLastD_eq_getLast?, h]
    exact (occ_mem.mp (List.mem_of_getLast? h)).1
theorem lru_desc (row : List Int) : ∀ k, k ≤ row.length → (lru (row.take k)).Pairwise fun a b => lastIx row k b < lastIx row k a
  | 0, _ => by simp [lru]
  | k + 1, h => by
    have ih := lru_desc row k (by omega)
    have hk : row[k]? = some row[k] := List.getElem?_eq_getElem (by omega)
    rw [List.take_succ, hk]
    show (lru (row.take k ++ [row[k]])).Pairwise _
    rw [lru_snoc]
    unfold push
    have hne : ∀ b, b ∈ (lru (row.take k)).erase row[k] → b ≠ row[k] ∧ b ∈ lru (row.take k) := fun b hb => by
      rw [(lru_all (row.take k)).1.mem_erase_iff] at hb
      exact hb
    have hl : ∀ b, b ≠ row[k] → lastIx row (k + 1) b = lastIx row k b := fun b hb => by
      rw [lastIx_succ, hk, if_neg]
      intro e
      cases e
      exact hb rfl
    have hkk : lastIx row (k + 1) row[k] = k := by
      rw [lastIx_succ, if_pos hk]
    rw [List.pairwise_cons]
    refine ⟨fun b hb => ?_, ?_⟩
    · obtain ⟨h1, h2⟩ := hne b hb
      rw [hl b h1, hkk]
      refine lastIx_lt ?_
      cases k with
      | zero => simp [lru] at h2
      | succ k => omega
    · have p : ((lru (row.take k)).erase row[k]).Pairwise fun a b => lastIx row k b < lastIx row k a := ih.sublist (List.erase_sublist ..)
      refine List.Pairwise.imp_of_mem (fun {a b} ha hb hab => ?_) p
      rw [hl a (hne a ha).1, hl b (hne b hb).1]
      exact hab
/-- a stack in order is turned as by putting the name ahead -/
theorem mv_desc (lt : Int → Int → Bool) (name : Int) : ∀ (xs found : List Int) (d : Int), (d :: xs).Pairwise (fun a b => lt b a = true) →
    (mv lt name xs found (some d)).1 ++ (mv lt name xs found (some d)).2.toList = found ++ d :: xs.takeWhile (fun x => decide (x ≠ name))
  | [], found, d, _ => by simp [mv]
  | x :: xs, found, d, h => by
    by_cases hn : x = name
    · simp [mv, hn]
    · have h1 : lt x d = true := (List.pairwise_cons.mp h).1 x (List.mem_cons_self ..)
      have ih := mv_desc lt name xs (found ++ [d]) x (List.pairwise_cons.mp h).2
      simp [mv, hn, h1]
      simp at ih
      exact ih
theorem drop_while (name : Int) : ∀ (xs : List Int), xs.takeWhile (fun x => decide (x ≠ name)) ++ xs.drop ((xs.takeWhile (fun x => decide (x ≠ name))).length + 1) = xs.erase name
  | [] => rfl
  | x :: xs => by
    by_cases h : x = name
    · simp [h]
    · have := drop_while name xs
      simp at this
      simp [h, List.erase_cons_tail, this]
theorem moveP_desc (lt : Int → Int → Bool) (name : Int) (xs : List Int) (h : xs.Pairwise (fun a b => lt b a = true)) : moveP lt name xs = push xs name := by
  unfold moveP push
  have key : (mv lt name xs [name] none).1 ++ (mv lt name xs [name] none).2.toList = name :: xs.takeWhile (fun x => decide (x ≠ name)) := by
    cases xs with
    | nil => simp [mv]
    | cons x xs =>
      by_cases hn : x = name
      · simp [mv, hn]
      · have := mv_desc lt name xs [name] x h
        simp [mv, hn]
        simp at this
        exact this
  dsimp only
  rw [key, ← drop_while name xs]
  rfl
def rkLast (row : List Int) (k : Nat) (x : Int) : Int × Int := ((lastIx row k x : Nat), 0)
theorem lt2_last (row : List Int) (k : Nat) (a b : Int) : lt2 (rkLast row k a) (rkLast row k b) = decide (lastIx row k a < lastIx row k b) := by
  unfold lt2 rkLast
  rw [HT.lexLt_cons, HT.lexLt_cons, HT.lexLt_nil_nil]
  by_cases h : lastIx row k a = lastIx row k b
  · simp [h]
  · rw [if_neg (by omega)]
    simp
theorem stackAt_last (row : List Int) : ∀ k, k ≤ row.length → stackAt (fun k a b => lt2 (rkLast row k a) (rkLast row k b)) row k = lru (row.take k)
  | 0, _ => by simp [stackAt, lru]
  | k + 1, h => by
    have hk : row[k]? = some row[k] := List.getElem?_eq_getElem (by omega)
    rw [stackAt, hk, stackAt_last row k (by omega), List.take_succ, hk]
    show moveP _ row[k] _ = lru (row.take k ++ [row[k]])
    rw [lru_snoc, moveP_desc]
    refine (lru_desc row k (by omega)).imp fun {a b} h => ?_
    rw [lt2_last]
    exact decide_eq_true h
/-- the depth of an ask, by the rule "last" -/
def depL (row : List Int) (k : Nat) : Option Int := match row[k]? with
  | some name => if name ∈ lru (row.take k) then some ((lru (row.take k)).idxOf name + 1 : Nat) else none
  | none => none
def depsL (row : List Int) : List (Option Int) := (List.range row.length).map (depL row)
theorem walked_last (row : List Int) (hl : row.length ≤ 24) : F_walked [.d (.str "last"), .d (il row)] = .ok (.d (.tuple [ol (depsL row), il (lru row)])) [none, none] := by
  have hs := stackAt_last row
  have w := walked_ok "last" row (rkLast row) hl (fun k hk => by
    rw [hs k hk]
    have := lru_len (row.take k)
    simp at this
    omega) (fun k hk x hx => by
    rw [hs k (by omega)] at hx
    exact rank_last row k x (by omega) hl ((lru_all _).2 x |>.mp hx))
  rw [hs row.length (Nat.le_refl _), List.take_length] at w
  have e : depthsP (fun k a b => lt2 (rkLast row k a) (rkLast row k b)) row row.length = depsL row := by
    unfold depthsP depsL
    refine List.map_congr_left fun k hk => ?_
    have hk := List.mem_range.mp hk
    unfold depthAt depL
    rw [hs k (by omega)]
    all_goals (cases row[k]? <;> rfl)
  rw [e] at w
  exact w
theorem rule_last : F_look_stacked [.d (.str "last")] = .ok (.d .none) [none] := by rfl
theorem depths_last {row : List Int} (h : okRow row) : F_depths [.d (.str "last"), .d (il row)] = .ok (.d (ol (depsL row))) [none, none] := by
  have w := walked_last row h.1
  have l := look_row_ok h
  have r := rule_last
  simp [F_depths, f_depths, bodyF_ap, l, r, w, show atI [ol (depsL row), il (lru row)] 0 = some (ol (depsL row)) from rfl]
theorem stack_last {row : List Int} (h : okRow row) : F_stack [.d (.str "last"), .d (il row)] = .ok (.d (il (lru row))) [none, none] := by
  have w := walked_last row h.1
  have l := look_row_ok h
  have r := rule_last
  simp [F_stack, f_stack, bodyF_ap, l, r, w, show atI [ol (depsL row), il (lru row)] 1 = some (il (lru row)) from rfl]
end G8
namespace G8
open PySem L2
/-! depths.can_be -/
def canGo : List (Option Int) → Int → Option Int
  | [], f => some f
  | none :: r, f => canGo r (f + 1)
  | some d :: r, f => if 1 ≤ d ∧ d ≤ f then canGo r f else none
def canB (s : List (Option Int)) : Bool := decide (s.length ≤ 24) && (match canGo s 0 with
  | some f => decide (f ≤ 20)
  | none => false)
@[simp] theorem isNone_oi_n : isNone (optI none) = true := rfl
@[simp] theorem isNone_oi_s (i : Int) : isNone (optI (some i)) = false := rfl
@[simp] theorem intD_b (k : Bool) : intD [.bool k] = some (.d (.int (if k then 1 else 0))) := rfl
theorem can_loop (r : Dt) : ∀ (xs : List (Option Int)) (f : Int) (x2 : Option Sv), ownAt (some x2) = false →
    ∃ ρ', forL (.one 2) b_can_be_1 (xs.map optI) [some (.d r), some (.d (.int f)), x2] = (match canGo xs f with
      | some g => .ok .nx [some (.d r), some (.d (.int g)), ρ']
      | none => .ok (.rt (.d (.bool false))) [some (.d r), some (.d (.int f)), ρ']) ∨ ∃ f', canGo xs f = none ∧ forL (.one 2) b_can_be_1 (xs.map optI) [some (.d r), some (.d (.int f)), x2] = .ok (.rt (.d (.bool false))) [some (.d r), some (.d (.int f')), ρ']
  | [], f, x2, _ => ⟨x2, .inl (by simp [canGo])⟩
  | none :: xs, f, x2, h => by
    obtain ⟨ρ', e⟩ := can_loop r xs (f + 1) (some (.d .none)) rfl
    refine ⟨ρ', ?_⟩
    rw [List.map_cons, forL_round]
    have rd : roundM (.one 2) b_can_be_1 (optI none) [some (.d r), some (.d (.int f)), x2] = .ok .nx [some (.d r), some (.d (.int (f + 1))), some (.d .none)] := by
      simp [roundM_ap, b_can_be_1_ap, h, optI]
    rw [rd, canGo]
    dsimp only
    rcases e with e | ⟨f', e1, e2⟩
    · cases hc : canGo xs (f + 1) with
      | none => rw [hc] at e; exact .inr ⟨f + 1, rfl, e⟩
      | some g => rw [hc] at e; exact .inl e
    · exact .inr ⟨f', e1, e2⟩
  | some d :: xs, f, x2, h => by
    by_cases hd : 1 ≤ d ∧ d ≤ f
    · obtain ⟨ρ', e⟩ := can_loop r xs f (some (.d (.int d))) rfl
      refine ⟨ρ', ?_⟩
      rw [List.map_cons, forL_round]
      have rd : roundM (.one 2) b_can_be_1 (optI (some d)) [some (.d r), some (.d (.int f)), x2] = .ok .nx [some (.d r), some (.d (.int f)), some (.d (.int d))] := by
        simp [roundM_ap, b_can_be_1_ap, h, optI, hd.1, hd.2]
      rw [rd, canGo, if_pos hd]
      exact e
    · refine ⟨some (.d (.int d)), .inl ?_⟩
      rw [List.map_cons, forL_round]
      have rd : roundM (.one 2) b_can_be_1 (optI (some d)) [some (.d r), some (.d (.int f)), x2] = .ok (.rt (.d (.bool false))) [some (.d r), some (.d (.int f)), some (.d (.int d))] := by
        by_cases h1 : 1 ≤ d
        · have h2 : ¬ d ≤ f := fun z => hd ⟨h1, z⟩
          simp [roundM_ap, b_can_be_1_ap, h, optI, h1, h2]
        · simp [roundM_ap, b_can_be_1_ap, h, optI, h1]
      rw [rd, canGo, if_neg hd]
theorem can_be_eq (s : List (Option Int)) : F_can_be [.d (ol s)] = .ok (.d (.bool (canB s))) [none] := by
  by_cases hl : s.length ≤ 24
  · have h1 : ¬ (24 : Int) < (s.length : Int) := by omega
    obtain ⟨ρ', e⟩ := can_loop (.list (s.map optI)) s 0 none rfl
    unfold canB
    cases hc : canGo s 0 with
    | none =>
      have e : ∃ f', forL (.one 2) b_can_be_1 (s.map optI) [some (.d (.list (s.map optI))), some (.d (.int 0)), none] = .ok (.rt (.d (.bool false))) [some (.d (.list (s.map optI))), some (.d (.int f')), ρ'] := by
        rcases e with e | ⟨f', _, e⟩
        · rw [hc] at e; exact ⟨0, e⟩
        · exact ⟨f', e⟩
      obtain ⟨f', e⟩ := e
      simp [F_can_be, f_can_be, bodyF_ap, ol, h1, e]
    | some g =>
      rcases e with e | ⟨f', e1, e⟩
      · rw [hc] at e
        simp [F_can_be, f_can_be, bodyF_ap, ol, h1, e, hl]
      · rw [hc] at e1; cases e1
  · have h1 : (24 : Int) < (s.length : Int) := by omega
    simp [F_can_be, f_can_be, bodyF_ap, ol, h1, canB, hl]
end G8
namespace G8
open PySem L2
/-! depths.row_of -/
def rowStep (row : List Int) : Option Int → List Int
  | none => row ++ [((lru row).length : Int)]
  | some d => row ++ [(lru row).getD (d - 1).toNat 0]
def rowP (s : List (Option Int)) : List Int := s.foldl rowStep []
/-- the names of a row are 0, 1, .. in some order -/
def Full (row : List Int) : Prop := ∀ y ∈ row, 0 ≤ y ∧ y < ((lru row).length : Int)
theorem push_new {s : List Int} {x : Int} (h : x ∉ s) : push s x = x :: s := by
  unfold push
  rw [List.erase_of_not_mem h]
theorem full_none {row : List Int} (h : Full row) : ((lru row).length : Int) ∉ lru row := fun hm => by
  have := h _ (((lru_all row).2 _).mp hm)
  omega
theorem lru_none {row : List Int} (h : Full row) : lru (rowStep row none) = ((lru row).length : Int) :: lru row := by
  unfold rowStep
  rw [lru_snoc, push_new (full_none h)]
theorem erase_nth : ∀ {l : List Int} {n : Nat} (h : l.Nodup) (hn : n < l.length), l.erase l[n] = l.eraseIdx n
  | x :: xs, 0, h, _ => by simp
  | x :: xs, n + 1, h, hn => by
    have hn' : n < xs.length := by simpa using hn
    have hne : x ≠ xs[n] := fun e => (List.nodup_cons.mp h).1 (e ▸ List.getElem_mem hn')
    have ih := erase_nth (List.nodup_cons.mp h).2 hn'
    rw [List.getElem_cons_succ, List.erase_cons_tail (by simpa using hne), ih]
    rfl
theorem map_eraseN {α β : Type} (f : α → β) : ∀ (l : List α) (n : Nat), (l.map f).eraseIdx n = (l.eraseIdx n).map f
  | [], _ => rfl
  | x :: xs, 0 => rfl
  | x :: xs, n + 1 => by
    show f x :: (xs.map f).eraseIdx n = _
    rw [map_eraseN f xs n]
    rfl
theorem lru_some {row : List Int} {n : Nat} (hd : n < (lru row).length) : rowStep row (some ((n : Int) + 1)) = row ++ [(lru row)[n]] ∧ lru (rowStep row (some ((n : Int) + 1))) = (lru row)[n] :: (lru row).eraseIdx n := by
  have e : (lru row).getD ((n : Int) + 1 - 1).toNat 0 = (lru row)[n] := by
    rw [show ((n : Int) + 1 - 1).toNat = n by omega, List.getD_eq_getElem?_getD, List.getElem?_eq_getElem hd]
    rfl
  have e1 : rowStep row (some ((n : Int) + 1)) = row ++ [(lru row)[n]] := by
    show row ++ [(lru row).getD ((n : Int) + 1 - 1).toNat 0] = _
    rw [e]
  refine ⟨e1, ?_⟩
  rw [e1, lru_snoc]
  unfold push
  rw [erase_nth (lru_all row).1 hd]
theorem pred_of {d : Int} {m : Nat} (h : 1 ≤ d ∧ d ≤ (m : Int)) : ∃ n : Nat, d = (n : Int) + 1 ∧ n < m := ⟨(d - 1).toNat, by omega, by omega⟩
theorem full_step {row : List Int} (h : Full row) (o : Option Int) (ho : ∀ d, o = some d → 1 ≤ d ∧ d ≤ ((lru row).length : Int)) : Full (rowStep row o) ∧ ((lru (rowStep row o)).length : Int) = ((lru row).length : Int) + (if o = none then 1 else 0) := by
  cases o with
  | none =>
    have e := lru_none h
    have el : (lru (rowStep row none)).length = (lru row).length + 1 := by rw [e]; rfl
    refine ⟨fun y hy => ?_, by rw [el]; simp⟩
    rw [el]
    have hy' : y ∈ row ++ [((lru row).length : Int)] := hy
    rw [List.mem_append, List.mem_singleton] at hy'
    rcases hy' with hy' | hy'
    · have := h y hy'
      omega
    · omega
  | some d =>
    obtain ⟨n, rfl, hd⟩ := pred_of (ho d rfl)
    obtain ⟨e1, e2⟩ := lru_some hd
    have el : (lru (rowStep row (some ((n : Int) + 1)))).length = (lru row).length := by
      rw [e2, List.length_cons, List.length_eraseIdx, if_pos hd]
      omega
    refine ⟨fun y hy => ?_, by rw [el]; simp⟩
    rw [el]
    rw [e1, List.mem_append, List.mem_singleton] at hy
    rcases hy with hy | hy
    · exact h y hy
    · rw [hy]
      exact h _ (((lru_all row).2 _).mp (List.getElem_mem hd))
theorem row_loop (r : Dt) : ∀ (xs : List (Option Int)) (row : List Int) (g : Int) (x4 x5 : Option Sv), Full row → canGo xs ((lru row).length : Int) = some g → row.length + xs.length ≤ 1000 → ownAt (some x4) = false → ownAt (some x5) = false →
    ∃ x4' x5', forL (.one 4) b_row_of_1 (xs.map optI) [some (.d r), some (.ls false ((lru row).map PyData.int)), some (.ls false (row.map PyData.int)), some (.d (.int ((lru row).length : Int))), x4, x5]
      = .ok .nx [some (.d r), some (.ls false ((lru (xs.foldl rowStep row)).map PyData.int)), some (.ls false ((xs.foldl rowStep row).map PyData.int)), some (.d (.int ((lru (xs.foldl rowStep row)).length : Int))), x4', x5']
  | [], row, g, x4, x5, _, _, _, _, _ => ⟨x4, x5, by simp⟩
  | none :: xs, row, g, x4, x5, hf, hg, hl, h4, h5 => by
    obtain ⟨f1, f2⟩ := full_step hf none (fun d e => by cases e)
    simp at f2
    rw [canGo, ← f2] at hg
    obtain ⟨x4', x5', e⟩ := row_loop r xs (rowStep row none) g (some (.d .none)) (some (.d (.int ((lru row).length : Int)))) f1 hg (by simp [rowStep] at hl ⊢; omega) rfl rfl
    refine ⟨x4', x5', ?_⟩
    rw [List.map_cons, forL_round]
    have l5 : refAt (some x5) = false := by
      cases x5 with
      | none => rfl
      | some s => cases s <;> first | rfl | cases h5
    have e1 := lru_none hf
    have e2 : rowStep row none = row ++ [((lru row).length : Int)] := rfl
    have hl1 : (lru row).length < 1000000 := by have := lru_len row; simp at hl; omega
    have hl2 : row.length < 1000000 := by simp at hl; omega
    have rd : roundM (.one 4) b_row_of_1 (optI none) [some (.d r), some (.ls false ((lru row).map PyData.int)), some (.ls false (row.map PyData.int)), some (.d (.int ((lru row).length : Int))), x4, x5]
        = .ok .nx [some (.d r), some (.ls false ((lru (rowStep row none)).map PyData.int)), some (.ls false ((rowStep row none).map PyData.int)), some (.d (.int ((lru (rowStep row none)).length : Int))), some (.d .none), some (.d (.int ((lru row).length : Int)))] := by
      rw [e1, e2]
      simp [roundM_ap, b_row_of_1_ap, h4, l5, optI, insD, appD, hl1, hl2, mid]
    rw [rd]
    exact e
  | some d :: xs, row, g, x4, x5, hf, hg, hl, h4, h5 => by
    rw [canGo] at hg
    by_cases hd : 1 ≤ d ∧ d ≤ ((lru row).length : Int)
    · rw [if_pos hd] at hg
      obtain ⟨f1, f2⟩ := full_step hf (some d) (fun d' e => by cases e; exact hd)
      simp at f2
      obtain ⟨n, rfl, hdl⟩ := pred_of hd
      obtain ⟨e1, e2⟩ := lru_some hdl
      obtain ⟨x4', x5', e⟩ := row_loop r xs (rowStep row (some ((n : Int) + 1))) g (some (.d (.int ((n : Int) + 1)))) (some (.d (.int (lru row)[n]))) f1 (by rw [f2]; exact hg) (by simp [rowStep] at hl ⊢; omega) rfl rfl
      refine ⟨x4', x5', ?_⟩
      rw [List.map_cons, forL_round]
      have l5 : refAt (some x5) = false := by
        cases x5 with
        | none => rfl
        | some s => cases s <;> first | rfl | cases h5
      have hl1 : (lru row).length < 1000000 := by have := lru_len row; simp at hl; omega
      have hl2 : row.length < 1000000 := by simp at hl; omega
      have hmd : mid (n : Int) = true := mid_nat (by omega)
      have hl4 : ((lru row).eraseIdx n).length < 1000000 := by
        have := List.length_eraseIdx_le (lru row) n
        omega
      have s1 : (n : Int) + 1 - 1 = n := by omega
      have rd : roundM (.one 4) b_row_of_1 (optI (some ((n : Int) + 1))) [some (.d r), some (.ls false ((lru row).map PyData.int)), some (.ls false (row.map PyData.int)), some (.d (.int ((lru row).length : Int))), x4, x5]
          = .ok .nx [some (.d r), some (.ls false ((lru (rowStep row (some ((n : Int) + 1)))).map PyData.int)), some (.ls false ((rowStep row (some ((n : Int) + 1))).map PyData.int)), some (.d (.int ((lru (rowStep row (some ((n : Int) + 1)))).length : Int))), some (.d (.int ((n : Int) + 1))), some (.d (.int (lru row)[n]))] := by
        rw [f2, e2, e1]
        simp [roundM_ap, b_row_of_1_ap, h4, l5, optI, insD, appD, popAtD, hl2, hmd, hdl, map_eraseN, hl4, s1, show mid 0 = true from rfl]
      rw [rd]
      exact e
    · rw [if_neg hd] at hg
      cases hg
theorem full_nil : Full [] := fun y hy => by cases hy
theorem row_of_ok {s : List (Option Int)} (h : canB s = true) : F_row_of [.d (ol s)] = .ok (.l ((rowP s).map PyData.int)) [none] := by
  have c := can_be_eq s
  rw [h] at c
  unfold canB at h
  rw [Bool.and_eq_true, decide_eq_true_eq] at h
  obtain ⟨hl, h⟩ := h
  cases hc : canGo s 0 with
  | none => rw [hc] at h; cases h
  | some g =>
    obtain ⟨x4, x5, e⟩ := row_loop (ol s) s [] g none none full_nil (by simpa [lru] using hc) (by simp; omega) rfl rfl
    simp [lru] at e
    have e0 : itM (varM 0) [some (.d (ol s)), some (.ls false []), some (.ls false []), some (.d (.int 0)), none, none] = .ok (s.map optI) [some (.d (ol s)), some (.ls false []), some (.ls false []), some (.d (.int 0)), none, none] := by
      simp [ol]
    simp [F_row_of, f_row_of, bodyF_ap, c, rowP]
    simp [ol] at e ⊢
    simp [e]
theorem row_of_bad {s : List (Option Int)} (h : canB s = false) : F_row_of [.d (ol s)] = .err 4 [none] := by
  have c := can_be_eq s
  rw [h] at c
  simp [F_row_of, f_row_of, bodyF_ap, c]
end G8
namespace G8
open PySem L2
/-! plain laws of depths and rows -/
def dep1 (s : List Int) (x : Int) : Option Int := if x ∈ s then some ((s.idxOf x : Int) + 1) else none
theorem depsL_snoc (row : List Int) (x : Int) : depsL (row ++ [x]) = depsL row ++ [dep1 (lru row) x] := by
  unfold depsL
  rw [List.length_append, List.length_singleton, List.range_succ, List.map_append]
  congr 1
  · refine List.map_congr_left fun k hk => ?_
    have hk := List.mem_range.mp hk
    unfold depL
    rw [List.getElem?_append_left hk, List.take_append_of_le_length (by omega)]
  · show [depL (row ++ [x]) row.length] = _
    unfold depL dep1
    rw [List.getElem?_append_right (Nat.le_refl _), Nat.sub_self, List.take_append_of_le_length (Nat.le_refl _), List.take_length]
    simp
theorem dep_none {row : List Int} (h : Full row) : dep1 (lru row) ((lru row).length : Int) = none := by
  unfold dep1
  rw [if_neg (full_none h)]
theorem idxOf_nth : ∀ {l : List Int} {n : Nat} (h : l.Nodup) (hn : n < l.length), l.idxOf l[n] = n
  | x :: xs, 0, h, _ => by simp
  | x :: xs, n + 1, h, hn => by
    have hn' : n < xs.length := by simpa using hn
    have hne : x ≠ xs[n] := fun e => (List.nodup_cons.mp h).1 (e ▸ List.getElem_mem hn')
    have ih := idxOf_nth (List.nodup_cons.mp h).2 hn'
    have hb : (x == xs[n]) = false := by simpa using hne
    simp [List.idxOf_cons, hb, ih]
theorem dep_some {row : List Int} {n : Nat} (h : n < (lru row).length) : dep1 (lru row) (lru row)[n] = some ((n : Int) + 1) := by
  unfold dep1
  rw [if_pos (List.getElem_mem h), idxOf_nth (lru_all row).1 h]
theorem deps_row : ∀ (xs : List (Option Int)) (row : List Int) (g : Int), Full row → canGo xs ((lru row).length : Int) = some g → depsL (xs.foldl rowStep row) = depsL row ++ xs
  | [], row, g, _, _ => by simp
  | none :: xs, row, g, hf, hg => by
    obtain ⟨f1, f2⟩ := full_step hf none (fun d e => by cases e)
    simp at f2
    rw [canGo, ← f2] at hg
    rw [List.foldl_cons, deps_row xs _ g f1 hg]
    show depsL (row ++ [((lru row).length : Int)]) ++ xs = _
    rw [depsL_snoc, dep_none hf, List.append_assoc]
    rfl
  | some d :: xs, row, g, hf, hg => by
    rw [canGo] at hg
    by_cases hd : 1 ≤ d ∧ d ≤ ((lru row).length : Int)
    · rw [if_pos hd] at hg
      obtain ⟨f1, f2⟩ := full_step hf (some d) (fun d' e => by cases e; exact hd)
      simp at f2
      obtain ⟨n, rfl, hdl⟩ := pred_of hd
      obtain ⟨e1, e2⟩ := lru_some hdl
      rw [List.foldl_cons, deps_row xs _ g f1 (by rw [f2]; exact hg), e1, depsL_snoc, dep_some hdl, List.append_assoc]
      rfl
    · rw [if_neg hd] at hg
      cases hg
theorem canB_go {s : List (Option Int)} (h : canB s = true) : s.length ≤ 24 ∧ ∃ g, canGo s 0 = some g ∧ g ≤ 20 := by
  unfold canB at h
  rw [Bool.and_eq_true, decide_eq_true_eq] at h
  obtain ⟨hl, h⟩ := h
  cases hc : canGo s 0 with
  | none => rw [hc] at h; cases h
  | some g =>
    rw [hc] at h
    exact ⟨hl, g, rfl, of_decide_eq_true h⟩
theorem deps_rowP {s : List (Option Int)} (h : canB s = true) : depsL (rowP s) = s := by
  obtain ⟨_, g, hg, _⟩ := canB_go h
  have := deps_row s [] g full_nil (by simpa [lru] using hg)
  show depsL (s.foldl rowStep []) = s
  rw [this]
  rfl
/-! renaming -/
def nms (xs : List Int) : List Int := uniq xs []
def renP (xs : List Int) : List Int := xs.map fun x => ((nms xs).idxOf x : Int)
theorem uniq_snoc : ∀ (xs acc : List Int) (x : Int), uniq (xs ++ [x]) acc = if x ∈ uniq xs acc then uniq xs acc else uniq xs acc ++ [x]
  | [], acc, x => rfl
  | y :: ys, acc, x => uniq_snoc ys _ x
theorem nms_snoc (xs : List Int) (x : Int) : nms (xs ++ [x]) = if x ∈ nms xs then nms xs else nms xs ++ [x] := uniq_snoc xs [] x
theorem nms_all (xs : List Int) : (nms xs).Nodup ∧ (∀ y, y ∈ nms xs ↔ y ∈ xs) ∧ (nms xs).length = (lru xs).length := by
  induction xs using snocInd with
  | h0 => simp [nms, uniq, lru]
  | h1 xs x ih =>
    obtain ⟨i1, i2, i3⟩ := ih
    rw [nms_snoc, lru_snoc]
    by_cases h : x ∈ nms xs
    · rw [if_pos h]
      have hx := (i2 x).mp h
      refine ⟨i1, fun y => ?_, ?_⟩
      · rw [i2 y, List.mem_append, List.mem_singleton]
        exact ⟨.inl, fun z => z.elim id fun e => e ▸ hx⟩
      · unfold push
        rw [i3, List.length_cons, List.length_erase_of_mem (((lru_all xs).2 x).mpr hx)]
        have := List.length_pos_of_mem (((lru_all xs).2 x).mpr hx)
        omega
    · rw [if_neg h]
      have hx : x ∉ xs := fun z => h ((i2 x).mpr z)
      refine ⟨?_, fun y => ?_, ?_⟩
      · rw [List.nodup_append]
        refine ⟨i1, by simp, fun a ha b hb => ?_⟩
        rw [List.mem_singleton] at hb
        rintro rfl
        exact h (hb ▸ ha)
      · simp [i2 y]
      · rw [push_new (fun z => hx (((lru_all xs).2 x).mp z))]
        simp [i3]
theorem ren_snoc (xs : List Int) (x : Int) : renP (xs ++ [x]) = renP xs ++ [if x ∈ xs then ((nms xs).idxOf x : Int) else ((lru xs).length : Int)] := by
  obtain ⟨i1, i2, i3⟩ := nms_all xs
  unfold renP
  rw [List.map_append, nms_snoc]
  by_cases h : x ∈ nms xs
  · rw [if_pos h, if_pos ((i2 x).mp h)]
    rfl
  · rw [if_neg h, if_neg (fun z => h ((i2 x).mpr z))]
    congr 1
    · refine List.map_congr_left fun y hy => ?_
      rw [List.idxOf_append, if_pos ((i2 y).mpr hy)]
    · show [(((nms xs ++ [x]).idxOf x : Nat) : Int)] = _
      rw [List.idxOf_append, if_neg h, ← i3]
      simp
theorem map_erase_inj (f : Int → Int) : ∀ (s : List Int) (x : Int), (∀ a ∈ s, ∀ b, (b ∈ s ∨ b = x) → f a = f b → a = b) → (s.map f).erase (f x) = (s.erase x).map f
  | [], _, _ => rfl
  | y :: s, x, h => by
    by_cases e : y = x
    · subst e; simp
    · have hne : f y ≠ f x := fun z => e (h y (List.mem_cons_self ..) x (.inr rfl) z)
      rw [List.map_cons, List.erase_cons_tail (by simpa using hne), List.erase_cons_tail (by simpa using e), List.map_cons, map_erase_inj f s x fun a ha b hb => h a (List.mem_cons_of_mem _ ha) b (hb.imp (List.mem_cons_of_mem _) id)]
theorem lru_map (f : Int → Int) (xs : List Int) (h : ∀ a ∈ xs, ∀ b ∈ xs, f a = f b → a = b) : lru (xs.map f) = (lru xs).map f := by
  induction xs using snocInd with
  | h0 => rfl
  | h1 xs x ih =>
    have ih := ih fun a ha b hb => h a (List.mem_append_left _ ha) b (List.mem_append_left _ hb)
    rw [List.map_append, List.map_singleton, lru_snoc, lru_snoc, ih]
    unfold push
    rw [List.map_cons, map_erase_inj]
    intro a ha b hb
    refine h a (List.mem_append_left _ (((lru_all xs).2 a).mp ha)) b ?_
    rcases hb with hb | hb
    · exact List.mem_append_left _ (((lru_all xs).2 b).mp hb)
    · exact List.mem_append_right _ (by simp [hb])
theorem idxOf_inj {l : List Int} {a b : Int} (ha : a ∈ l) (hb : b ∈ l) (h : l.idxOf a = l.idxOf b) : a = b := by
  have h1 := List.getElem_idxOf (List.idxOf_lt_length_of_mem ha)
  have h2 := List.getElem_idxOf (List.idxOf_lt_length_of_mem hb)
  rw [← h1, ← h2]
  congr 1
theorem lru_ren (xs : List Int) : lru (renP xs) = (lru xs).map fun x => ((nms xs).idxOf x : Int) := by
  unfold renP
  refine lru_map _ _ fun a ha b hb e => ?_
  obtain ⟨_, i2, _⟩ := nms_all xs
  exact idxOf_inj ((i2 a).mpr ha) ((i2 b).mpr hb) (by omega)
theorem rowP_deps (row : List Int) : rowP (depsL row) = renP row := by
  induction row using snocInd with
  | h0 => rfl
  | h1 xs x ih =>
    rw [depsL_snoc, ren_snoc]
    unfold rowP at ih ⊢
    rw [List.foldl_append, ih, List.foldl_cons, List.foldl_nil]
    unfold dep1
    by_cases h : x ∈ xs
    · have hm := ((lru_all xs).2 x).mpr h
      rw [if_pos hm, if_pos h]
      have hi := List.idxOf_lt_length_of_mem hm
      have := (lru_some (row := renP xs) (n := (lru xs).idxOf x) (by rw [lru_ren]; simpa using hi)).1
      rw [this]
      congr 2
      have e : ∀ (l : List Int) (hl : l = (lru xs).map fun x => ((nms xs).idxOf x : Int)) (hh : (lru xs).idxOf x < l.length), l[(lru xs).idxOf x] = ((nms xs).idxOf x : Int) := by
        intro l hl hh
        subst hl
        rw [List.getElem_map, List.getElem_idxOf]
      exact e _ (lru_ren xs) _
    · rw [if_neg (fun z => h (((lru_all xs).2 x).mp z)), if_neg h]
      show renP xs ++ [((lru (renP xs)).length : Int)] = _
      rw [lru_ren, List.length_map]
theorem ren_rowP {s : List (Option Int)} (h : canB s = true) : renP (rowP s) = rowP s := by
  rw [← rowP_deps, deps_rowP h]
theorem canGo_snoc : ∀ (xs : List (Option Int)) (f : Int) (o : Option Int), canGo (xs ++ [o]) f = (canGo xs f).bind fun g => canGo [o] g
  | [], f, o => rfl
  | none :: xs, f, o => by
    show canGo (xs ++ [o]) (f + 1) = _
    rw [canGo_snoc xs]
    rfl
  | some d :: xs, f, o => by
    show (if 1 ≤ d ∧ d ≤ f then canGo (xs ++ [o]) f else none) = (if 1 ≤ d ∧ d ≤ f then canGo xs f else none).bind _
    split
    · exact canGo_snoc xs f o
    · rfl
theorem canGo_deps (row : List Int) : canGo (depsL row) 0 = some ((lru row).length : Int) := by
  induction row using snocInd with
  | h0 => rfl
  | h1 xs x ih =>
    rw [depsL_snoc, canGo_snoc, ih, lru_snoc]
    show canGo [dep1 (lru xs) x] ((lru xs).length : Int) = _
    unfold dep1
    by_cases h : x ∈ lru xs
    · have hi := List.idxOf_lt_length_of_mem h
      rw [if_pos h]
      show (if 1 ≤ ((lru xs).idxOf x : Int) + 1 ∧ ((lru xs).idxOf x : Int) + 1 ≤ ((lru xs).length : Int) then some ((lru xs).length : Int) else none) = _
      rw [if_pos ⟨by omega, by omega⟩]
      unfold push
      rw [List.length_cons, List.length_erase_of_mem h]
      congr 1
      omega
    · rw [if_neg h, push_new h]
      show some (((lru xs).length : Int) + 1) = _
      simp
theorem nodup_le : ∀ {l m : List Int}, l.Nodup → (∀ x ∈ l, x ∈ m) → l.length ≤ m.length
  | [], m, _, _ => Nat.zero_le _
  | x :: l, m, h, hs => by
    have hx := hs x (List.mem_cons_self ..)
    obtain ⟨h1, h2⟩ := List.nodup_cons.mp h
    have := nodup_le (m := m.erase x) h2 fun y hy => (List.mem_erase_of_ne (show y ≠ x from fun e => h1 (e ▸ hy))).mpr (hs y (List.mem_cons_of_mem _ hy))
    rw [List.length_erase_of_mem hx] at this
    have := List.length_pos_of_mem hx
    simp; omega
theorem lru_len_eq {a b : List Int} (h : ∀ x, x ∈ a ↔ x ∈ b) : (lru a).length = (lru b).length := by
  have h1 := nodup_le (lru_all a).1 (m := lru b) fun x hx => ((lru_all b).2 x).mpr ((h x).mp (((lru_all a).2 x).mp hx))
  have h2 := nodup_le (lru_all b).1 (m := lru a) fun x hx => ((lru_all a).2 x).mpr ((h x).mpr (((lru_all b).2 x).mp hx))
  omega
theorem lru_le_names {row : List Int} (h : ∀ x ∈ row, okName x) : (lru row).length ≤ 20 := by
  have := nodup_le (lru_all row).1 (m := (List.range 20).map fun (i : Nat) => (i : Int)) fun x hx => by
    have hx := h x (((lru_all row).2 x).mp hx)
    refine List.mem_map.mpr ⟨x.toNat, List.mem_range.mpr ?_, ?_⟩
    · have := hx.1; have := hx.2; omega
    · exact Int.toNat_of_nonneg hx.1
  simpa using this
theorem depsL_len (row : List Int) : (depsL row).length = row.length := by simp [depsL]
theorem canB_deps {row : List Int} (h : okRow row) : canB (depsL row) = true := by
  unfold canB
  rw [canGo_deps, depsL_len]
  have := lru_le_names h.2
  simp [h.1]
  omega
theorem deps_ren (row : List Int) : depsL (renP row) = depsL row := by
  rw [← rowP_deps]
  have := deps_row (depsL row) [] _ full_nil (by simpa [lru] using canGo_deps row)
  show depsL ((depsL row).foldl rowStep []) = _
  rw [this]
  rfl
theorem alike_iff (a b : List Int) : renP a = renP b ↔ depsL a = depsL b := by
  constructor
  · intro h
    rw [← deps_ren a, h, deps_ren]
  · intro h
    rw [← rowP_deps a, h, rowP_deps]
/-- a row behind a stack -/
theorem foldl_push (s : List Int) (hs : s.Nodup) (xs : List Int) : xs.foldl push s = lru xs ++ s.filter fun y => decide (y ∉ xs) := by
  induction xs using snocInd with
  | h0 =>
    simp only [List.foldl_nil, lru, List.nil_append, List.not_mem_nil, not_false_eq_true, decide_true]
    rw [List.filter_eq_self.mpr (fun _ _ => rfl)]
  | h1 xs x ih =>
    rw [List.foldl_append, ih, lru_snoc]
    show push (lru xs ++ s.filter fun y => decide (y ∉ xs)) x = _
    unfold push
    rw [List.cons_append]
    congr 1
    by_cases h : x ∈ lru xs
    · have hx := ((lru_all xs).2 x).mp h
      rw [List.erase_append_left _ h]
      congr 1
      refine List.filter_congr fun y _ => ?_
      simp only [List.mem_append, List.mem_singleton]
      by_cases e : y = x
      · simp [e, hx]
      · simp [e]
    · have hx : x ∉ xs := fun z => h (((lru_all xs).2 x).mpr z)
      rw [List.erase_append_right _ h, List.erase_of_not_mem h]
      congr 1
      have hf : (s.filter fun y => decide (y ∉ xs)).Nodup := hs.filter _
      rw [hf.erase_eq_filter, List.filter_filter]
      refine List.filter_congr fun y _ => ?_
      simp only [List.mem_append, List.mem_singleton]
      by_cases e : y = x
      · simp [e]
      · simp [e]
/-- the depth of an ask is the number of names since -/
theorem dep_since (pre rest : List Int) (x : Int) (h : x ∉ rest) : dep1 (lru (pre ++ x :: rest)) x = some ((lru (x :: rest)).length : Int) := by
  have e1 : lru (pre ++ x :: rest) = rest.foldl push (push (lru pre) x) := by
    unfold lru
    rw [List.foldl_append, List.foldl_cons]
  have n1 := push_nodup (lru_all pre).1 x
  have hl : x ∉ lru rest := fun z => h (((lru_all rest).2 x).mp z)
  have e2 : lru (x :: rest) = lru rest ++ [x] := by
    show rest.foldl push (push [] x) = _
    rw [foldl_push _ (by simp [push])]
    simp [push, h]
  rw [e1, foldl_push _ n1, e2]
  unfold push dep1
  rw [List.filter_cons_of_pos (by simpa using h), if_pos (by simp), List.idxOf_append, if_neg hl]
  simp
end G8
namespace G8
open PySem L2
/-! equality of lists of ints, of depths -/
theorem eqvA_self_of {xs ys : List Dt} (h : xs = ys) (hp : ∀ x ∈ xs, nice 60 x) : PyData.eqvAll xs ys = true := by
  subst h
  exact PySem.SeqAt.eqvAll_refl_plain xs (nice_all hp).1
theorem shal_il (xs : List Int) : shal (.list (xs.map PyData.int)) = true := shal_nice (nice_up (nice_ints 0 xs) (by decide))
theorem eqD_il (xs ys : List Int) : eqD (.list (xs.map PyData.int)) (.list (ys.map PyData.int)) = some (decide (xs = ys)) := by
  unfold eqD
  rw [shal_il, shal_il, eqv_ll, eqvA_ints]
  rfl
theorem neD_il (xs ys : List Int) : neD (.list (xs.map PyData.int)) (.list (ys.map PyData.int)) = some (!decide (xs = ys)) := by
  unfold neD
  rw [shal_il, shal_il, eqv_ll, eqvA_ints]
  rfl
theorem eqD_iln (xs : List Int) : eqD (.list (xs.map PyData.int)) (.list []) = some (decide (xs = [])) := eqD_il xs []
theorem neD_iln (xs : List Int) : neD (.list (xs.map PyData.int)) (.list []) = some (!decide (xs = [])) := neD_il xs []
theorem nice_oi (n : Nat) (o : Option Int) : nice n (optI o) := by
  cases o with
  | none => exact nice_none n
  | some i => exact nice_int n i
theorem nice_ol (n : Nat) (xs : List (Option Int)) : nice (n + 1) (.list (xs.map optI)) := nice_list fun x hx => by
  obtain ⟨i, _, rfl⟩ := List.mem_map.mp hx
  exact nice_oi n i
theorem eqv_oi (a b : Option Int) : PyData.eqv (optI a) (optI b) = decide (a = b) := by
  cases a <;> cases b <;> simp [optI]
theorem eqvA_ol : ∀ (xs ys : List (Option Int)), PyData.eqvAll (xs.map optI) (ys.map optI) = decide (xs = ys)
  | [], [] => by simp
  | [], _ :: _ => by simp
  | _ :: _, [] => by simp
  | x :: xs, y :: ys => by simp [eqvA_ol xs ys, eqv_oi, Bool.decide_and]
theorem shal_ol (xs : List (Option Int)) : shal (.list (xs.map optI)) = true := shal_nice (nice_up (nice_ol 0 xs) (by decide))
theorem eqD_ol (xs ys : List (Option Int)) : eqD (.list (xs.map optI)) (.list (ys.map optI)) = some (decide (xs = ys)) := by
  unfold eqD
  rw [shal_ol, shal_ol, eqv_ll, eqvA_ol]
  rfl
theorem neD_ol (xs ys : List (Option Int)) : neD (.list (xs.map optI)) (.list (ys.map optI)) = some (!decide (xs = ys)) := by
  unfold neD
  rw [shal_ol, shal_ol, eqv_ll, eqvA_ol]
  rfl
theorem eqD_oln (xs : List (Option Int)) : eqD (.list (xs.map optI)) (.list []) = some (decide (xs = [])) := eqD_ol xs []
theorem neD_oln (xs : List (Option Int)) : neD (.list (xs.map optI)) (.list []) = some (!decide (xs = [])) := neD_ol xs []
/-! the laws' own rows -/
theorem draw_ex (ns : List Int) (xs : List Dt) (m : Int) (hm : 0 < m) (hk : xs.length < 999999) : ∃ v : Int, 0 ≤ v ∧ v < m ∧ F__law_draw [.scr ns, .ls true xs, .d (.int m)] = .ok (.d (.int v)) [none, some (.ls true (xs ++ [.int 0])), none] :=
  ⟨_, drw_lo ns _ hm, drw_hi ns _ hm, draw_eq ns xs m hm hk⟩
theorem row_round (ns : List Int) (t : List Dt) (most kinds many : Int) (row : List Int) (x6 x7 : Option Sv) (k : Int) (hm : 0 < many) (ht : t.length < 900000) (hr : row.length < 1000) (hb : ∀ x ∈ row, 0 ≤ x ∧ x < many) (h6 : ownAt (some x6) = false) (h7 : ownAt (some x7) = false) :
    ∃ v t' x7', 0 ≤ v ∧ v < many ∧ t'.length ≤ t.length + 3 ∧ ownAt (some x7') = false ∧
      roundM (.one 6) b__law_row_1 (.int k) [some (.scr ns), some (.ls true t), some (.d (.int most)), some (.d (.int kinds)), some (.d (.int many)), some (.ls false (row.map PyData.int)), x6, x7]
        = .ok .nx [some (.scr ns), some (.ls true t'), some (.d (.int most)), some (.d (.int kinds)), some (.d (.int many)), some (.ls false ((row ++ [v]).map PyData.int)), some (.d (.int k)), x7'] := by
  obtain ⟨v, v1, v2, dv⟩ := draw_ex ns t many hm (by omega)
  have hr' : row.length < 1000000 := by omega
  have r7 : refAt (some x7) = false := by
    cases x7 with
    | none => rfl
    | some s => cases s <;> first | rfl | cases h7
  by_cases he : row = []
  · subst he
    refine ⟨v, t ++ [.int 0], some (.d (.int v)), v1, v2, by simp, rfl, ?_⟩
    have q := neD_iln []
    simp at q
    simp [roundM_ap, b__law_row_1_ap, h6, r7, dv, q, appD]
  · have q := neD_iln row
    simp [he] at q
    obtain ⟨u, u1, u2, du⟩ := draw_ex ns (t ++ [.int 0]) 4 (by decide) (by simp; omega)
    by_cases hu : u = 0
    · subst hu
      have hp : 0 < row.length := List.length_pos_iff.mpr he
      obtain ⟨w, w1, w2, dw⟩ := draw_ex ns (t ++ [.int 0] ++ [.int 0]) (row.length : Int) (by omega) (by simp; omega)
      obtain ⟨n, rfl⟩ : ∃ n : Nat, w = (n : Int) := ⟨w.toNat, by omega⟩
      have hn : n < row.length := by omega
      have hx := List.getElem?_eq_getElem hn
      have ea := atI_ints hx
      have hbn := hb row[n] (List.getElem_mem hn)
      refine ⟨row[n], t ++ [.int 0] ++ [.int 0] ++ [.int 0], some (.d (.int row[n])), hbn.1, hbn.2, by simp, rfl, ?_⟩
      simp at dv du dw
      simp [roundM_ap, b__law_row_1_ap, h6, r7, dv, q, appD, du, dw, ea, hr']
    · refine ⟨v, t ++ [.int 0] ++ [.int 0], some (.d (.int v)), v1, v2, by simp, rfl, ?_⟩
      simp at dv du
      simp [roundM_ap, b__law_row_1_ap, h6, r7, dv, q, appD, du, hu, hr']
theorem row_drawn (ns : List Int) (t : List Dt) (most kinds : Nat) (hm : most ≤ 24) (hk : 0 < kinds) (hk2 : kinds ≤ 1000) (ht : t.length < 800000) :
    ∃ (row : List Int) (t' : List Dt), row.length ≤ most ∧ (∀ x ∈ row, 0 ≤ x ∧ x < (kinds : Int)) ∧ t'.length ≤ t.length + 80 ∧
      F__law_row [.scr ns, .ls true t, .d (.int most), .d (.int kinds)] = .ok (.l (row.map PyData.int)) [none, some (.ls true t'), none, none] := by
  obtain ⟨v, v1, v2, dv⟩ := draw_ex ns t kinds (by omega) (by omega)
  obtain ⟨w, w1, w2, dw⟩ := draw_ex ns (t ++ [.int 0]) ((most : Int) + 1) (by omega) (by simp; omega)
  obtain ⟨n, rfl⟩ : ∃ n : Nat, w = (n : Int) := ⟨w.toNat, by omega⟩
  obtain ⟨ρ', h1, row, t', x6, x7, h2, h3, h4, h5, h6, h7⟩ := forL_inv (t := .one 6) (body := b__law_row_1) (fun (i : Nat) => PyData.int (i : Int))
    (fun k ρ => ∃ (row : List Int) (t' : List Dt) (x6 x7 : Option Sv), row.length = k ∧ (∀ x ∈ row, 0 ≤ x ∧ x < 1 + v) ∧ t'.length ≤ t.length + 2 + 3 * k ∧ ownAt (some x6) = false ∧ ownAt (some x7) = false ∧
      ρ = [some (.scr ns), some (.ls true t'), some (.d (.int most)), some (.d (.int kinds)), some (.d (.int (1 + v))), some (.ls false (row.map PyData.int)), x6, x7])
    (List.range n) 0 [some (.scr ns), some (.ls true (t ++ [.int 0] ++ [.int 0])), some (.d (.int most)), some (.d (.int kinds)), some (.d (.int (1 + v))), some (.ls false []), none, none]
    ⟨[], t ++ [.int 0] ++ [.int 0], none, none, rfl, by simp, by simp, rfl, rfl, rfl⟩ (by
      rintro i x ρ hx ⟨row, t', x6, x7, h2, h3, h4, h5, h6, rfl⟩
      have hi : i < n := by
        have := (List.getElem?_eq_some_iff.mp hx).1
        simpa using this
      obtain ⟨u, t2, x7', u1, u2, u3, u4, e⟩ := row_round ns t' most kinds (1 + v) row x6 x7 x (by omega) (by omega) (by omega) h3 h5 h6
      refine ⟨_, .inl e, row ++ [u], t2, _, x7', by simp [h2], fun y hy => ?_, by omega, rfl, u4, rfl⟩
      rcases List.mem_append.mp hy with hy | hy
      · exact h3 y hy
      · rw [List.mem_singleton.mp hy]; exact ⟨u1, u2⟩)
  subst h7
  have hl : row.length = n := by simpa using h2
  refine ⟨row, t', by omega, fun x hx => ?_, by simp at h4; omega, ?_⟩
  · have := h3 x hx
    omega
  · have hmn : mid (n : Int) = true := mid_nat (by omega)
    simp at h1 dv dw
    simp [F__law_row, f__law_row, bodyF_ap, dv, dw, hmn, rangeD0, h1]
end G8
namespace G8
open PySem L2
/-! sorted ints, slices, the last item -/
def srt (ns : List Int) : List Int := ns.mergeSort fun a b => decide (a ≤ b)
theorem srt_perm (ns : List Int) : (srt ns).Perm ns := List.mergeSort_perm ns _
theorem srt_sorted (ns : List Int) : (srt ns).Pairwise (· ≤ ·) := by
  have := List.pairwise_mergeSort (le := fun a b : Int => decide (a ≤ b)) (fun a b c h1 h2 => by simp at *; omega) (fun a b => by simp; omega) ns
  exact this.imp fun h => of_decide_eq_true h
theorem srt_len (ns : List Int) : (srt ns).length = ns.length := List.length_mergeSort _
theorem sortD_ints (ns : List Int) : sortD [.list (ns.map PyData.int)] = some (.l ((srt ns).map PyData.int)) := by
  have e1 : alikeA (ns.map PyData.int) = true := by
    have := alikeB_ints ns
    unfold alikeB at this
    rw [Bool.and_eq_true] at this
    exact this.1
  have e2 : shalL (ns.map PyData.int) = true := shalL_ints ns
  have e3 : sortB (ns.map PyData.int) = true := by
    unfold sortB
    rw [Bool.or_eq_true]
    refine .inr (List.all_eq_true.mpr fun x hx => ?_)
    obtain ⟨i, _, rfl⟩ := List.mem_map.mp hx
    rfl
  have e4 : (ns.map PyData.int).mergeSort leD = (srt ns).map PyData.int := by
    unfold srt
    refine (List.map_mergeSort fun a _ b _ => ?_).symm
    have := congrFun (congrFun (PySem.W.dataLe_int (fun b : Int => b)) a) b
    rw [← this]
    rfl
  show (if shalL (ns.map PyData.int) && alikeA (ns.map PyData.int) && sortB (ns.map PyData.int) then some (Rv.l ((ns.map PyData.int).mergeSort leD)) else none) = _
  rw [e1, e2, e3, e4]
  rfl
theorem atI_last {α : Type} {xs : List α} (h : xs ≠ []) : atI xs (-1) = xs[xs.length - 1]? := by
  have := List.length_pos_iff.mpr h
  unfold atI ixN
  rw [if_neg (by omega), if_pos (by omega)]
  show xs[((-1 : Int) + (xs.length : Int)).toNat]? = _
  congr 1
  omega
theorem cut_both {xs : List Dt} (p k : Nat) (h : k ≤ xs.length) : cutD xs (some (p : Int)) (some (k : Int)) = (xs.drop p).take (k - p) := by
  unfold cutD
  rw [HT.sIx_nat, HT.sIx_nat, Nat.min_eq_left h]
  by_cases hp : p ≤ xs.length
  · rw [Nat.min_eq_left hp]
  · rw [Nat.min_eq_right (by omega), show k - p = 0 by omega, show k - xs.length = 0 by omega]
    simp
/-! the steps of a sorted list are its names -/
def stepsOf (xs : List Int) : List Nat := (List.range xs.length).filter fun j => decide (j = 0 ∨ xs[j]? ≠ xs[j - 1]?)
theorem steps_snoc (xs : List Int) (y : Int) : (stepsOf (xs ++ [y])).length = (stepsOf xs).length + if xs.getLast? = some y then 0 else 1 := by
  unfold stepsOf
  rw [List.length_append, List.length_singleton, List.range_succ, List.filter_append, List.length_append]
  congr 1
  · congr 1
    refine List.filter_congr fun j hj => ?_
    have hj := List.mem_range.mp hj
    rw [List.getElem?_append_left hj, List.getElem?_append_left (by omega)]
  · rw [List.getLast?_eq_getElem?]
    cases xs with
    | nil => simp
    | cons x xs =>
      have h0 : (x :: xs).length ≠ 0 := by simp
      have h1 : ((x :: xs) ++ [y])[(x :: xs).length]? = some y := by
        rw [List.getElem?_append_right (Nat.le_refl _), Nat.sub_self]
        rfl
      have h2 : ((x :: xs) ++ [y])[(x :: xs).length - 1]? = (x :: xs)[(x :: xs).length - 1]? := List.getElem?_append_left (by simp)
      by_cases e : (x :: xs)[(x :: xs).length - 1]? = some y
      · rw [List.filter_cons, if_neg, if_pos e]
        · rfl
        · rw [decide_eq_true_eq, h1, h2, e]
          simp
      · rw [List.filter_cons, if_pos, if_neg e]
        · rfl
        · rw [decide_eq_true_eq, h1, h2]
          exact .inr fun z => e z.symm
theorem steps_sorted (xs : List Int) (h : xs.Pairwise (· ≤ ·)) : (stepsOf xs).length = (lru xs).length := by
  induction xs using snocInd with
  | h0 => rfl
  | h1 xs y ih =>
    obtain ⟨p1, _, p3⟩ := List.pairwise_append.mp h
    rw [steps_snoc, ih p1, lru_snoc]
    unfold push
    rw [List.length_cons]
    by_cases hm : y ∈ xs
    · have hm' := ((lru_all xs).2 y).mpr hm
      have hl : xs.getLast? = some y := by
        have hne : xs ≠ [] := fun z => by rw [z] at hm; cases hm
        rw [List.getLast?_eq_some_getLast hne]
        congr 1
        obtain ⟨ini, e⟩ : ∃ ini, xs = ini ++ [xs.getLast hne] := ⟨xs.dropLast, (List.dropLast_concat_getLast hne).symm⟩
        have h1 := p3 (xs.getLast hne) (List.getLast_mem hne) y (by simp)
        have h2 : y ≤ xs.getLast hne := by
          rw [e] at hm
          rcases List.mem_append.mp hm with hm | hm
          · rw [e] at p1
            exact (List.pairwise_append.mp p1).2.2 y hm _ (by simp)
          · rw [List.mem_singleton] at hm
            omega
        omega
      rw [if_pos hl, List.length_erase_of_mem hm']
      have := List.length_pos_of_mem hm'
      omega
    · have hm' : y ∉ lru xs := fun z => hm (((lru_all xs).2 y).mp z)
      have hl : xs.getLast? ≠ some y := fun z => hm (List.mem_of_getLast? z)
      rw [if_neg hl, List.erase_of_not_mem hm']
/-! _law_depth -/
theorem depL_dep1 {row : List Int} {k : Nat} (hk : k < row.length) : depL row k = dep1 (lru (row.take k)) row[k] := by
  unfold depL dep1
  rw [List.getElem?_eq_getElem hk]
  simp
theorem ld_step1 (row : List Int) (k : Nat) (hk : k < row.length) (j : Nat) (hj : j < row.length) : stepL (.one 4) t__law_depth_1 (varM 4) (.int (j : Int)) [some (.d (il row)), some (.d (.int (k : Int))), none, none, none]
    = .ok (if row[j]? = some row[k] then some (.int (j : Int)) else none) [some (.d (il row)), some (.d (.int (k : Int))), none, none, none] := by
  have e := atI_ints (List.getElem?_eq_getElem hj)
  have e2 := atI_ints (List.getElem?_eq_getElem hk)
  rw [List.getElem?_eq_getElem hj]
  by_cases hx : row[j] = row[k]
  · simp [stepL_ap, t__law_depth_1_ap, il, e, e2, hx]
  · simp [stepL_ap, t__law_depth_1_ap, il, e, e2, hx]
theorem ld_step2 (r kk : Dt) (la : List Dt) (s : List Int) (j : Nat) (hj : j < s.length) : stepL (.one 4) t__law_depth_2 (varM 4) (.int (j : Int)) [some (.d r), some (.d kk), some (.ls false la), some (.ls false (s.map PyData.int)), none]
    = .ok (if j = 0 ∨ s[j]? ≠ s[j - 1]? then some (.int (j : Int)) else none) [some (.d r), some (.d kk), some (.ls false la), some (.ls false (s.map PyData.int)), none] := by
  have e := atI_ints (List.getElem?_eq_getElem hj)
  cases j with
  | zero => simp [stepL_ap, t__law_depth_2_ap]
  | succ j =>
    have e2 := atI_ints (List.getElem?_eq_getElem (show j < s.length by omega))
    have s1 : (j : Int) + 1 - 1 = j := by omega
    have s2 : ¬ ((j : Int) + 1 = 0) := by omega
    simp at e
    rw [List.getElem?_eq_getElem hj, show j + 1 - 1 = j from rfl, List.getElem?_eq_getElem (show j < s.length by omega)]
    by_cases hx : s[j + 1] = s[j]
    · simp [stepL_ap, t__law_depth_2_ap, e, e2, hx, s1, s2]
    · simp [stepL_ap, t__law_depth_2_ap, e, e2, hx, s1, s2]
theorem law_depth_ok (row : List Int) (k : Nat) (hk : k < row.length) (hl : row.length ≤ 24) : F__law_depth [.d (il row), .d (.int (k : Int))] = .ok (.d (optI (depL row k))) [none, none] := by
  have hm : mid (k : Int) = true := mid_nat (by omega)
  have cp := compL_fmap (t := .one 4) (ft := t__law_depth_1) (fe := varM 4) (ρ := [some (.d (il row)), some (.d (.int (k : Int))), none, none, none]) (fun (i : Nat) => PyData.int (i : Int)) (fun j => if row[j]? = some row[k] then some (.int (j : Int)) else none) (List.range k) (by simp; omega)
    (fun j hj => ld_step1 row k hk j (by have := List.mem_range.mp hj; omega))
  have ef : (List.range k).filterMap (fun (j : Nat) => if row[j]? = some row[k] then some (PyData.int (j : Int)) else none) = ((occ row k row[k]).map fun (i : Nat) => (i : Int)).map PyData.int := by
    unfold occ
    rw [List.map_map, ← List.filterMap_eq_map, List.filterMap_filter]
    congr 1
    funext j
    by_cases h : row[j]? = some row[k] <;> simp [h]
  rw [ef] at cp
  have q := eqD_iln ((occ row k row[k]).map fun (i : Nat) => (i : Int))
  rw [depL_dep1 hk]
  by_cases ho : occ row k row[k] = []
  · have hn : row[k] ∉ lru (row.take k) := fun z => by
      have z := ((lru_all _).2 _).mp z
      obtain ⟨j, hj, e⟩ := List.mem_iff_getElem.mp z
      rw [List.length_take] at hj
      rw [List.getElem_take] at e
      have : j ∈ occ row k row[k] := occ_mem.mpr ⟨by omega, by rw [List.getElem?_eq_getElem (by omega), e]⟩
      rw [ho] at this
      cases this
    unfold dep1
    rw [if_neg hn]
    rw [ho] at cp q
    simp at cp q
    simp [F__law_depth, f__law_depth, bodyF_ap, hm, rangeD0, cp, q, optI]
  · obtain ⟨p, hp⟩ : ∃ p, (occ row k row[k]).getLast? = some p := by
      cases h : (occ row k row[k]).getLast? with
      | none => exact absurd (List.getLast?_eq_none_iff.mp h) ho
      | some p => exact ⟨p, rfl⟩
    obtain ⟨p1, p2⟩ := occ_mem.mp (List.mem_of_getLast? hp)
    have pl : ∀ j, p < j → j < k → row[j]? ≠ some row[k] := fun j h1 h2 e => by
      have hj : j ∈ occ row k row[k] := occ_mem.mpr ⟨h2, e⟩
      have pw : (occ row k row[k]).Pairwise (· < ·) := List.Pairwise.filter _ List.pairwise_lt_range
      obtain ⟨ini, e2⟩ : ∃ ini, occ row k row[k] = ini ++ [p] := by
        have hne := ho
        refine ⟨(occ row k row[k]).dropLast, ?_⟩
        have e3 := (List.dropLast_concat_getLast hne).symm
        rw [List.getLast?_eq_some_getLast hne] at hp
        cases hp
        exact e3
      rw [e2] at hj pw
      rcases List.mem_append.mp hj with hj | hj
      · have := (List.pairwise_append.mp pw).2.2 j hj p (by simp)
        omega
      · rw [List.mem_singleton] at hj
        omega
    have hpl : p < row.length := by omega
    have hpx : row[p] = row[k] := by
      rw [List.getElem?_eq_getElem hpl] at p2
      exact Option.some.inj p2
    obtain ⟨rest, hrest⟩ : ∃ rest, rest = (row.drop (p + 1)).take (k - p - 1) := ⟨_, rfl⟩
    have hseg : (row.drop p).take (k - p) = row[k] :: rest := by
      rw [List.drop_eq_getElem_cons hpl, hpx, show k - p = (k - p - 1) + 1 by omega, List.take_succ_cons, hrest]
    have htk : row.take k = row.take p ++ row[k] :: rest := by
      rw [← hseg, show k = p + (k - p) by omega, List.take_add]
      congr 2
      omega
    have hnr : row[k] ∉ rest := fun z => by
      rw [hrest] at z
      obtain ⟨i, hi, e⟩ := List.mem_iff_getElem.mp z
      rw [List.length_take, List.length_drop] at hi
      rw [List.getElem_take, List.getElem_drop] at e
      exact pl (p + 1 + i) (by omega) (by omega) (by rw [List.getElem?_eq_getElem (by omega), e])
    have hd : dep1 (lru (row.take k)) row[k] = some ((lru (row[k] :: rest)).length : Int) := by
      rw [htk]
      exact dep_since _ _ _ hnr
    rw [hd]
    have hsg : (stepsOf (srt (row[k] :: rest))).length = (lru (row[k] :: rest)).length := by
      rw [steps_sorted _ (srt_sorted _)]
      exact lru_len_eq fun x => (srt_perm _).mem_iff
    have hsl : (srt (row[k] :: rest)).length ≤ 24 := by
      rw [srt_len, ← hseg, List.length_take, List.length_drop]
      omega
    have so := sortD_ints (row[k] :: rest)
    have hmi : (((occ row k row[k]).map fun (i : Nat) => (i : Int)).map PyData.int) ≠ [] := by simpa using ho
    have al := atI_last hmi
    have al2 : (((occ row k row[k]).map fun (i : Nat) => (i : Int)).map PyData.int)[(((occ row k row[k]).map fun (i : Nat) => (i : Int)).map PyData.int).length - 1]? = some (.int (p : Int)) := by
      rw [List.getLast?_eq_getElem?] at hp
      rw [List.length_map, List.length_map, List.getElem?_map, List.getElem?_map, hp]
      rfl
    rw [al2] at al
    have cb := cut_both (xs := row.map PyData.int) p k (by simp; omega)
    rw [← List.map_drop, ← List.map_take, hseg] at cb
    have cp2 := compL_fmap (t := .one 4) (ft := t__law_depth_2) (fe := varM 4) (ρ := [some (.d (il row)), some (.d (.int (k : Int))), some (.ls false (((occ row k row[k]).map fun (i : Nat) => (i : Int)).map PyData.int)), some (.ls false ((srt (row[k] :: rest)).map PyData.int)), none]) (fun (i : Nat) => PyData.int (i : Int)) (fun j => if j = 0 ∨ (srt (row[k] :: rest))[j]? ≠ (srt (row[k] :: rest))[j - 1]? then some (.int (j : Int)) else none) (List.range (srt (row[k] :: rest)).length) (by simp; omega)
      (fun j hj => ld_step2 _ _ _ _ j (List.mem_range.mp hj))
    have ef2 : (List.range (srt (row[k] :: rest)).length).filterMap (fun (j : Nat) => if j = 0 ∨ (srt (row[k] :: rest))[j]? ≠ (srt (row[k] :: rest))[j - 1]? then some (PyData.int (j : Int)) else none) = (stepsOf (srt (row[k] :: rest))).map fun (i : Nat) => PyData.int (i : Int) := by
      unfold stepsOf
      rw [← List.filterMap_eq_map, List.filterMap_filter]
      congr 1
      funext j
      by_cases h : j = 0 ∨ (srt (row[k] :: rest))[j]? ≠ (srt (row[k] :: rest))[j - 1]? <;> simp [h]
    rw [ef2] at cp2
    generalize srt (row[k] :: rest) = sg at *
    generalize stepsOf sg = st at *
    generalize hoc : (((occ row k row[k]).map fun (i : Nat) => (i : Int)).map PyData.int) = oc at *
    have hms : mid (sg.length : Int) = true := mid_nat (by omega)
    have q2 : eqD (.list oc) (.list []) = some false := by
      rw [q]
      simp [ho]
    rw [show il row = .list (row.map PyData.int) from rfl] at *
    rw [List.map_cons] at so cb
    simp [F__law_depth, f__law_depth, bodyF_ap, hm, rangeD0, cp, q2, optI, al, slD, cb, so, hms, cp2, hsg]
end G8
namespace G8
open PySem L2
/-- the rooms that found so many -/
def roomsN (m : Ms) (share : Int) : List Nat := (List.range (m.names.length + m.told.length + 1)).filter fun (r : Nat) => decide (share ≤ ((hitsN m.told r).length : Int))
def leastN (m : Ms) (share : Int) : Option Int := (roomsN m share).head?.map fun (r : Nat) => (r : Int)
theorem least_comp {m : Ms} (ok : MsOk m) (share : Int) : compL (.one 3) t_Meter_least_room_1 (varM 3) (rangeD 0 (m.names.length + m.told.length + 1)) [] [some (.mt true m), some (.d (.int share)), none, none] = .ok ((roomsN m share).map fun (r : Nat) => PyData.int r) [some (.mt true m), some (.d (.int share)), none, none] := by
  have h1 := ok.na
  have h2 := ok.to
  rw [rangeD0, compL_fmap (fun (r : Nat) => PyData.int (r : Int)) (fun (r : Nat) => if share ≤ ((hitsN m.told r).length : Int) then some (PyData.int r) else none) _ (by rw [List.length_range]; omega) fun r _ => ?_]
  · congr 1
    unfold roomsN
    generalize List.range (m.names.length + m.told.length + 1) = l
    induction l with
    | nil => rfl
    | cons r l ih => by_cases h : share ≤ ((hitsN m.told r).length : Int) <;> simp [h, ih]
  · by_cases h : share ≤ ((hitsN m.told r).length : Int) <;> simp [stepL_ap, t_Meter_least_room_1_ap, fm_found ok, h]
theorem fm_least {m : Ms} (ok : MsOk m) (share : Int) : F_Meter_least_room [.mt true m, .d (.int share)] = .ok (.d (oD (leastN m share))) [some (.mt true m), none] := by
  have h1 := ok.na
  have h2 := ok.to
  have c := least_comp ok share
  have hm : mid ((m.names.length : Int) + (m.told.length : Int) + 1) = true := by
    have := mid_nat (n := m.names.length + m.told.length + 1) (by omega)
    simpa using this
  have hn : ((m.names.length : Int) + (m.told.length : Int) + 1).toNat = m.names.length + m.told.length + 1 := by omega
  unfold leastN
  cases hr : roomsN m share with
  | nil =>
    rw [hr] at c
    simp at c
    simp [F_Meter_least_room, f_Meter_least_room, bodyF_ap, hm, hn, c, slotT, oD]
  | cons r rs =>
    rw [hr] at c
    simp at c
    simp [F_Meter_least_room, f_Meter_least_room, bodyF_ap, hm, hn, c, slotT, oD, atI, ixN]
end G8
namespace G8
open PySem L2
/-! rows.renamed, are_alike -/
theorem renamed_ok {xs : List Int} (h : okRow xs) : F_renamed [.d (il xs)] = .ok (.l ((renP xs).map PyData.int)) [none] := by
  have n := names_ok h
  have cp := compL_map (t := .one 2) (ft := retM true) (fe := e_renamed_1) (ρ := [some (.d (il xs)), some (.ls false ((nms xs).map PyData.int)), none]) PyData.int (fun x => .int ((nms xs).idxOf x : Int)) xs (by have := h.1; omega) (fun x hx => by
    have hi := indexD_ints (((nms_all xs).2.1 x).mpr hx)
    simp [stepL_ap, e_renamed_1, lookD, hi])
  have e : xs.map (fun x => PyData.int ((nms xs).idxOf x : Int)) = (renP xs).map PyData.int := by
    unfold renP
    rw [List.map_map]
    rfl
  rw [e] at cp
  rw [show (uniq xs []) = nms xs from rfl] at n
  rw [il_eq] at n cp ⊢
  simp [F_renamed, f_renamed, bodyF_ap, n, cp]
theorem renamed_bad {xs : List Int} (h : ¬ okRow xs) : F_renamed [.d (il xs)] = .err 0 [none] := by
  have n := names_bad h
  rw [il_eq] at n ⊢
  simp [F_renamed, f_renamed, bodyF_ap, n]
theorem alike_ok {xs ys : List Int} (h : okRow xs) (h2 : okRow ys) : F_are_alike [.d (il xs), .d (il ys)] = .ok (.d (.bool (decide (renP xs = renP ys)))) [none, none] := by
  have n := renamed_ok h
  have n2 := renamed_ok h2
  have e := eqD_il (renP xs) (renP ys)
  rw [il_eq] at n n2
  rw [il_eq, il_eq]
  simp [F_are_alike, f_are_alike, bodyF_ap, n, n2, e]
theorem pick_ok (ns : List Int) (t : List Dt) (xs : List Dt) (hx : xs ≠ []) (ht : t.length < 900000) :
    ∃ x ∈ xs, F__law_pick [.scr ns, .ls true t, .d (.list xs)] = .ok (.d x) [none, some (.ls true (t ++ [.int 0])), none] := by
  have hp := List.length_pos_iff.mpr hx
  obtain ⟨v, v1, v2, dv⟩ := draw_ex ns t (xs.length : Int) (by omega) (by omega)
  obtain ⟨n, rfl⟩ : ∃ n : Nat, v = (n : Int) := ⟨v.toNat, by omega⟩
  have hn : n < xs.length := by omega
  refine ⟨xs[n], List.getElem_mem hn, ?_⟩
  have e : atI xs (n : Int) = some xs[n] := by rw [G8.atI_nat, List.getElem?_eq_getElem hn]
  simp [F__law_pick, f__law_pick, bodyF_ap, dv, e]
end G8
namespace K70
open PySem L2 G8
/-! what is told -/
theorem w1 : (("hits" : Str) == "ask") = false := by decide +kernel
theorem w2 : (("hits" : Str) == "forget") = false := by decide +kernel
theorem w3 : (("hits" : Str) == "back") = false := by decide +kernel
theorem w4 : (("back" : Str) == "ask") = false := by decide +kernel
theorem w5 : (("back" : Str) == "forget") = false := by decide +kernel
theorem w6 : (("forget" : Str) == "ask") = false := by decide +kernel
theorem told_ask {m m' : Ms} {n : Int} {d : Dt} (h : F_Meter_ask [.mt true m, .d (.int n)] = .ok (.d d) [some (.mt true m'), none]) : F__law_told [.mt true m, .d (.str "ask"), .d (.int n)] = .ok (.d d) [some (.mt true m'), none, none] := by
  simp [F__law_told, f__law_told, bodyF_ap, w1, w2, w3, w4, w5, w6, h]
theorem told_askX {m : Ms} {n : Int} {k : Nat} (hk : k < 8) (h : F_Meter_ask [.mt true m, .d (.int n)] = .err k [some (.mt true m), none]) : F__law_told [.mt true m, .d (.str "ask"), .d (.int n)] = .ok (.d (refD k)) [some (.mt true m), none, none] := by
  simp [F__law_told, f__law_told, bodyF_ap, w1, w2, w3, w4, w5, w6, h, g_RoomError, refusal_eq k hk, nonA]
theorem told_forget {m m' : Ms} {n : Int} {d : Dt} (h : F_Meter_forget [.mt true m, .d (.int n)] = .ok (.d d) [some (.mt true m'), none]) : F__law_told [.mt true m, .d (.str "forget"), .d (.int n)] = .ok (.d d) [some (.mt true m'), none, none] := by
  simp [F__law_told, f__law_told, bodyF_ap, w1, w2, w3, w4, w5, w6, h]
theorem told_forgetX {m : Ms} {n : Int} {k : Nat} (hk : k < 8) (h : F_Meter_forget [.mt true m, .d (.int n)] = .err k [some (.mt true m), none]) : F__law_told [.mt true m, .d (.str "forget"), .d (.int n)] = .ok (.d (refD k)) [some (.mt true m), none, none] := by
  simp [F__law_told, f__law_told, bodyF_ap, w1, w2, w3, w4, w5, w6, h, g_RoomError, refusal_eq k hk, nonA]
theorem told_hits {m m' : Ms} {n : Int} {d : Dt} (h : F_Meter_hits [.mt true m, .d (.int n)] = .ok (.d d) [some (.mt true m'), none]) : F__law_told [.mt true m, .d (.str "hits"), .d (.int n)] = .ok (.d d) [some (.mt true m'), none, none] := by
  simp [F__law_told, f__law_told, bodyF_ap, w1, w2, w3, w4, w5, w6, h]
theorem told_hitsX {m : Ms} {n : Int} {k : Nat} (hk : k < 8) (h : F_Meter_hits [.mt true m, .d (.int n)] = .err k [some (.mt true m), none]) : F__law_told [.mt true m, .d (.str "hits"), .d (.int n)] = .ok (.d (refD k)) [some (.mt true m), none, none] := by
  simp [F__law_told, f__law_told, bodyF_ap, w1, w2, w3, w4, w5, w6, h, g_RoomError, refusal_eq k hk, nonA]
theorem told_back {m m' : Ms} {n : Int} {d : Dt} (h : F_Meter_back [.mt true m] = .ok (.d d) [some (.mt true m')]) : F__law_told [.mt true m, .d (.str "back"), .d (.int n)] = .ok (.d d) [some (.mt true m'), none, none] := by
  simp [F__law_told, f__law_told, bodyF_ap, w1, w2, w3, w4, w5, w6, h]
theorem told_backX {m : Ms} {n : Int} {k : Nat} (hk : k < 8) (h : F_Meter_back [.mt true m] = .err k [some (.mt true m)]) : F__law_told [.mt true m, .d (.str "back"), .d (.int n)] = .ok (.d (refD k)) [some (.mt true m), none, none] := by
  simp [F__law_told, f__law_told, bodyF_ap, w1, w2, w3, w4, w5, w6, h, g_RoomError, refusal_eq k hk, nonA]
/-- all states, the last one that stands -/
def qD (q : List Int × List (Option Int)) : Dt := .tuple [.list (q.1.map PyData.int), .list (q.2.map oD)]
def pastD (m : Ms) : List Dt := (m.past ++ [(m.names, m.told)]).map qD
theorem atI_lastD (xs : List Dt) (x : Dt) : atI (xs ++ [x]) (-1) = some x := by
  unfold atI ixN
  rw [if_neg (by omega), if_pos (by simp; omega)]
  have e : (((xs ++ [x]).length : Int) + -1).toNat = xs.length := by simp; omega
  rw [Int.add_comm, e]
  simp
theorem past_last (m : Ms) : atI (pastD m) (-1) = some (.tuple [.list (m.names.map PyData.int), .list (m.told.map oD)]) := by
  unfold pastD
  rw [List.map_append]
  exact atI_lastD _ _
def Good (q : List Int × List (Option Int)) : Prop := q.1.Nodup ∧ q.1.length ≤ q.2.length ∧ q.2.length ≤ 24 ∧ ∀ d, some d ∈ q.2 → d ≤ (q.2.length : Int)
structure GoodM (m : Ms) : Prop where
  now : Good (m.names, m.told)
  old : ∀ q ∈ m.past, Good q
theorem comp_out {ns : List Int} {t P : List Dt} {m : Ms} {w n : Int} {x6 : Option Sv} {td : Dt} (xs : List Int) (hl : xs.length ≤ 100) : compL (.one 12) (cmpT neD (varM 12) (varM 5)) (varM 12) (xs.map PyData.int) [] [some (.scr ns), some (.ls true t), some (.mt true m), some (.ls true P), some (.d (.int w)), some (.d (.int n)), x6, some (.d (.list (m.names.map PyData.int))), some (.d td), none, none, none, none]
    = .ok ((outN xs n).map PyData.int) [some (.scr ns), some (.ls true t), some (.mt true m), some (.ls true P), some (.d (.int w)), some (.d (.int n)), x6, some (.d (.list (m.names.map PyData.int))), some (.d td), none, none, none, none] := by
  rw [compL_fmap PyData.int (fun y => if decide (y = n) then none else some (PyData.int y)) xs (by omega) fun y _ => by by_cases h : y = n <;> simp [stepL_ap, h]]
  congr 1
  unfold outN
  clear hl
  induction xs with
  | nil => rfl
  | cons y xs ih =>
    simp only [decide_eq_true_eq] at ih
    by_cases h : y = n <;> simp [h, ih]
theorem comp_bad {ns : List Int} {t P : List Dt} {m : Ms} {w n bad : Int} {td : Dt} (hb : ¬ okName bad) : compL (.one 11) (retM true) e__law_call_1 [.str "ask", .str "forget"] [] [some (.scr ns), some (.ls true t), some (.mt true m), some (.ls true P), some (.d (.int w)), some (.d (.int n)), none, some (.d (.list (m.names.map PyData.int))), some (.d td), none, some (.d (.int bad)), none, none]
    = .ok [refD 0, refD 0] [some (.scr ns), some (.ls true t), some (.mt true m), some (.ls true P), some (.d (.int w)), some (.d (.int n)), none, some (.d (.list (m.names.map PyData.int))), some (.d td), none, some (.d (.int bad)), none, none] := by
  have h1 := told_askX (m := m) (n := bad) (k := 0) (by decide) (fm_ask_name hb)
  have h2 := told_forgetX (m := m) (n := bad) (k := 0) (by decide) (fm_forget_name hb)
  exact compL_map PyData.str (fun _ => refD 0) ["ask", "forget"] (by decide) fun y hy => by
    simp only [List.mem_cons, List.not_mem_nil, or_false] at hy
    rcases hy with rfl | rfl
    · simp [stepL_ap, e__law_call_1_ap, h1]
    · simp [stepL_ap, e__law_call_1_ap, h2]
theorem eq_ref6 : eqD (refD 6) (.tuple [.str "refused", .str "ask"]) = some true := by decide +kernel
theorem eq_row2 : eqD (.list [refD 0, refD 0]) (.list [.tuple [.str "refused", .str "row"], .tuple [.str "refused", .str "row"]]) = some true := by decide +kernel
theorem mul_row2 : mulD (.list [.tuple [.str "refused", .str "row"]]) (.int 2) = some (.l [.tuple [.str "refused", .str "row"], .tuple [.str "refused", .str "row"]]) := rfl
theorem eq_oD (o : Option Int) : eqD (oD o) (oD o) = some true := by
  cases o with
  | none => rfl
  | some i => simp [oD]
theorem eq_nn : eqD .none .none = some true := rfl
theorem okN {n : Int} (h0 : 0 ≤ n) (h1 : n < 20) : okName n := ⟨h0, by omega⟩
section
variable {ns : List Int} {t : List Dt} {m : Ms}
theorem call_0 {v p n : Int} {t1 t2 t3 : List Dt} (h0 : m.past = []) (d1 : F__law_draw [.scr ns, .ls true t, .d (.int 9)] = .ok (.d (.int v)) [none, some (.ls true t1), none])
    (d2 : F__law_pick [.scr ns, .ls true t1, .d (.list [.int 3, .int 6, .int 20])] = .ok (.d (.int p)) [none, some (.ls true t2), none])
    (d3 : F__law_draw [.scr ns, .ls true t2, .d (.int p)] = .ok (.d (.int n)) [none, some (.ls true t3), none]) (hv : v = 0) :
    F__law_call [.scr ns, .ls true t, .mt true m, .ls true (pastD m)] = .ok (.d (.bool true)) [none, some (.ls true t3), some (.mt true m), some (.ls true (pastD m))] := by
  subst hv
  have pl := past_last m
  have hlen : (pastD m).length = 1 := by unfold pastD; rw [h0]; rfl
  have tb := told_backX (n := 0) (k := 6) (by decide) (fm_back_no h0)
  generalize pastD m = P at pl hlen
  simp [F__law_call, f__law_call, bodyF_ap, pl, d1, d2, d3, lenA, hlen, nonA, isNone, tb, eq_ref6]
theorem call_0b {v p n : Int} {t1 t2 t3 : List Dt} {ps : List (List Int × List (Option Int))} {q : List Int × List (Option Int)} (h0 : m.past = ps ++ [q]) (d1 : F__law_draw [.scr ns, .ls true t, .d (.int 9)] = .ok (.d (.int v)) [none, some (.ls true t1), none])
    (d2 : F__law_pick [.scr ns, .ls true t1, .d (.list [.int 3, .int 6, .int 20])] = .ok (.d (.int p)) [none, some (.ls true t2), none])
    (d3 : F__law_draw [.scr ns, .ls true t2, .d (.int p)] = .ok (.d (.int n)) [none, some (.ls true t3), none]) (hv : v = 0) :
    F__law_call [.scr ns, .ls true t, .mt true m, .ls true (pastD m)] = .ok (.d (.bool true)) [none, some (.ls true t3), some (.mt true ⟨q.1, q.2, ps⟩), some (.ls true (pastD ⟨q.1, q.2, ps⟩))] := by
  subst hv
  have pl := past_last m
  have hlen : ¬ (((pastD m).length : Nat) : Int) = 1 := by unfold pastD; rw [h0]; simp; omega
  have tb := told_back (n := 0) (fm_back h0)
  have pp : popD (pastD m) [] = some (.tuple [.list (m.names.map PyData.int), .list (m.told.map oD)], pastD ⟨q.1, q.2, ps⟩) := by
    unfold popD
    rw [show pastD m = (m.past.map qD) ++ [qD (m.names, m.told)] by unfold pastD; simp]
    simp [pastD, h0, qD]
  generalize pastD m = P at pl hlen pp
  generalize pastD ⟨q.1, q.2, ps⟩ = P' at pp
  simp [F__law_call, f__law_call, bodyF_ap, pl, d1, d2, d3, lenA, hlen, nonA, isNone, tb, eq_nn, pp]
theorem call_1 {v p n bad : Int} {t1 t2 t3 t4 : List Dt} (d1 : F__law_draw [.scr ns, .ls true t, .d (.int 9)] = .ok (.d (.int v)) [none, some (.ls true t1), none])
    (d2 : F__law_pick [.scr ns, .ls true t1, .d (.list [.int 3, .int 6, .int 20])] = .ok (.d (.int p)) [none, some (.ls true t2), none])
    (d3 : F__law_draw [.scr ns, .ls true t2, .d (.int p)] = .ok (.d (.int n)) [none, some (.ls true t3), none]) (hv : v = 1)
    (d4 : F__law_pick [.scr ns, .ls true t3, .d (.list [.int (-1), .int 20])] = .ok (.d (.int bad)) [none, some (.ls true t4), none]) (hb : ¬ okName bad) :
    F__law_call [.scr ns, .ls true t, .mt true m, .ls true (pastD m)] = .ok (.d (.bool true)) [none, some (.ls true t4), some (.mt true m), some (.ls true (pastD m))] := by
  subst hv
  have pl := past_last m
  generalize pastD m = P at pl
  have cb := comp_bad (ns := ns) (t := t4) (P := P) (m := m) (w := 1) (n := n) (td := .list (m.told.map oD)) hb
  simp [F__law_call, f__law_call, bodyF_ap, pl, d1, d2, d3, d4, cb, show mid 2 = true from rfl, eq_row2, tupOf]
theorem call_2n {v p n : Int} {t1 t2 t3 : List Dt} (d1 : F__law_draw [.scr ns, .ls true t, .d (.int 9)] = .ok (.d (.int v)) [none, some (.ls true t1), none])
    (d2 : F__law_pick [.scr ns, .ls true t1, .d (.list [.int 3, .int 6, .int 20])] = .ok (.d (.int p)) [none, some (.ls true t2), none])
    (d3 : F__law_draw [.scr ns, .ls true t2, .d (.int p)] = .ok (.d (.int n)) [none, some (.ls true t3), none]) (hv : v = 2) (hn : okName n) (hx : n ∉ m.names) :
    F__law_call [.scr ns, .ls true t, .mt true m, .ls true (pastD m)] = .ok (.d (.bool true)) [none, some (.ls true t3), some (.mt true m), some (.ls true (pastD m))] := by
  subst hv
  have pl := past_last m
  generalize pastD m = P at pl
  have tf := told_forgetX (k := 6) (by decide) (fm_forget_no hn hx)
  simp [F__law_call, f__law_call, bodyF_ap, pl, d1, d2, d3, ninD_ints, hx, tf, eq_ref6]
theorem erase_out {n : Int} : ∀ {xs : List Int}, xs.Nodup → n ∈ xs → xs.eraseIdx (xs.idxOf n) = outN xs n
  | [], _, h => by cases h
  | y :: xs, nd, h => by
    have nd' := List.nodup_cons.mp nd
    by_cases e : y = n
    · subst e
      have : outN xs y = xs := by
        unfold outN
        rw [List.filter_eq_self]
        intro z hz
        have : z ≠ y := fun w => nd'.1 (w ▸ hz)
        simp [this]
      unfold outN at this ⊢
      simp [this]
    · have h' : n ∈ xs := by
        rcases List.mem_cons.mp h with z | z
        · exact absurd z.symm e
        · exact z
      have ih := erase_out nd'.2 h'
      have ei : (y :: xs).idxOf n = xs.idxOf n + 1 := by
        rw [List.idxOf_cons]
        have : (y == n) = false := by simpa using e
        rw [this]
        rfl
      rw [ei, List.eraseIdx_cons_succ, ih]
      unfold outN
      simp [e]
theorem call_2 {v p n : Int} {t1 t2 t3 : List Dt} (ok : MsOk m) (d1 : F__law_draw [.scr ns, .ls true t, .d (.int 9)] = .ok (.d (.int v)) [none, some (.ls true t1), none])
    (d2 : F__law_pick [.scr ns, .ls true t1, .d (.list [.int 3, .int 6, .int 20])] = .ok (.d (.int p)) [none, some (.ls true t2), none])
    (d3 : F__law_draw [.scr ns, .ls true t2, .d (.int p)] = .ok (.d (.int n)) [none, some (.ls true t3), none]) (hv : v = 2) (hn : okName n) (hx : n ∈ m.names) (nd : m.names.Nodup) :
    F__law_call [.scr ns, .ls true t, .mt true m, .ls true (pastD m)] = .ok (.d (.bool true)) [none, some (.ls true t3), some (.mt true (forMs m n)), some (.ls true (pastD (forMs m n)))] := by
  subst hv
  have pl := past_last m
  have tf := told_forget (fm_forget ok hn hx)
  have ap : appD (pastD m) [.tuple [.list ((outN m.names n).map PyData.int), .list (m.told.map oD)]] = some (.none, pastD (forMs m n)) := by
    have hl : (pastD m).length < 1000000 := by unfold pastD; have := ok.pa; simp; omega
    unfold appD
    dsimp only
    rw [if_pos hl]
    congr 2
    unfold pastD forMs
    rw [erase_out nd hx]
    simp [qD]
  have co := comp_out (ns := ns) (t := t3) (P := pastD m) (m := m) (w := 2) (n := n) (x6 := none) (td := .list (m.told.map oD)) m.names ok.na
  generalize pastD m = P at pl ap co
  generalize pastD (forMs m n) = P' at ap
  simp [F__law_call, f__law_call, bodyF_ap, pl, d1, d2, d3, ninD_ints, hx, tf, co, ap, nonA, isNone, seqOf]
theorem call_3f {v p n : Int} {t1 t2 t3 : List Dt} (d1 : F__law_draw [.scr ns, .ls true t, .d (.int 9)] = .ok (.d (.int v)) [none, some (.ls true t1), none])
    (d2 : F__law_pick [.scr ns, .ls true t1, .d (.list [.int 3, .int 6, .int 20])] = .ok (.d (.int p)) [none, some (.ls true t2), none])
    (d3 : F__law_draw [.scr ns, .ls true t2, .d (.int p)] = .ok (.d (.int n)) [none, some (.ls true t3), none]) (v0 : ¬ v = 0) (v1 : ¬ v = 1) (v2 : ¬ v = 2) (hn : okName n) (hl : m.told.length = 24) :
    F__law_call [.scr ns, .ls true t, .mt true m, .ls true (pastD m)] = .ok (.d (.bool true)) [none, some (.ls true t3), some (.mt true m), some (.ls true (pastD m))] := by
  have pl := past_last m
  generalize pastD m = P at pl
  have ta := told_askX (k := 6) (by decide) (fm_ask_full hn hl)
  simp [F__law_call, f__law_call, bodyF_ap, pl, d1, d2, d3, v0, v1, v2, lenA, lenD, hl, ta, eq_ref6]
theorem call_3 {v p n : Int} {t1 t2 t3 : List Dt} (ok : MsOk m) (d1 : F__law_draw [.scr ns, .ls true t, .d (.int 9)] = .ok (.d (.int v)) [none, some (.ls true t1), none])
    (d2 : F__law_pick [.scr ns, .ls true t1, .d (.list [.int 3, .int 6, .int 20])] = .ok (.d (.int p)) [none, some (.ls true t2), none])
    (d3 : F__law_draw [.scr ns, .ls true t2, .d (.int p)] = .ok (.d (.int n)) [none, some (.ls true t3), none]) (v0 : ¬ v = 0) (v1 : ¬ v = 1) (v2 : ¬ v = 2) (hn : okName n) (hl : ¬ m.told.length = 24) :
    F__law_call [.scr ns, .ls true t, .mt true m, .ls true (pastD m)] = .ok (.d (.bool true)) [none, some (.ls true t3), some (.mt true (askMs m n)), some (.ls true (pastD (askMs m n)))] := by
  have pl := past_last m
  have ta := told_ask (fm_ask ok hn hl)
  have hl' : ¬ (m.told.length : Int) = 24 := by omega
  have l1 : (outN m.names n).length ≤ 999999 := by
    have : (outN m.names n).length ≤ m.names.length := List.length_filter_le ..
    have := ok.na
    omega
  have l2 : m.told.length ≤ 999999 := by have := ok.to; omega
  have l3 : 1 + (outN m.names n).length ≤ 1000000 := by omega
  have l4 : m.told.length + 1 ≤ 1000000 := by omega
  have ap : appD (pastD m) [.tuple [.list (.int n :: (outN m.names n).map PyData.int), .list (m.told.map oD ++ [oD (depN m.names n)])]] = some (.none, pastD (askMs m n)) := by
    have hl : (pastD m).length < 1000000 := by unfold pastD; have := ok.pa; simp; omega
    unfold appD
    dsimp only
    rw [if_pos hl]
    congr 2
    unfold pastD askMs
    simp [qD]
  have co := fun x6 => comp_out (ns := ns) (t := t3) (P := pastD m) (m := m) (w := v) (n := n) (x6 := x6) (td := .list (m.told.map oD)) m.names ok.na
  generalize pastD m = P at pl ap co
  generalize pastD (askMs m n) = P' at ap
  by_cases hx : n ∈ m.names
  · have e : depN m.names n = some (((m.names.idxOf n : Nat) : Int) + 1) := by unfold depN; rw [if_pos hx]
    rw [e] at ta ap
    simp [oD] at ta ap
    simp [F__law_call, f__law_call, bodyF_ap, pl, d1, d2, d3, v0, v1, v2, lenA, lenD, hl', inD_ints, hx, isL, lookD, shal_int, indexD_ints hx, co, seqOf, l1, l2, l3, l4, ap, ta, oD]
  · have e : depN m.names n = none := by unfold depN; rw [if_neg hx]
    rw [e] at ta ap
    simp [oD] at ta ap
    simp [F__law_call, f__law_call, bodyF_ap, pl, d1, d2, d3, v0, v1, v2, lenA, lenD, hl', inD_ints, hx, co, seqOf, l1, l2, l3, l4, ap, ta, oD, eq_nn]
end
end K70
namespace K70
open PySem L2 G8
theorem good_ask {m : Ms} {n : Int} (g : GoodM m) (hl : ¬ m.told.length = 24) : GoodM (askMs m n) := by
  obtain ⟨n1, n2, n3, n4⟩ := g.now
  dsimp only at n1 n2 n3 n4
  refine ⟨⟨?_, ?_, ?_, fun d hd => ?_⟩, fun q hq => ?_⟩
  · show (n :: outN m.names n).Nodup
    refine List.nodup_cons.mpr ⟨fun h => ?_, n1.sublist List.filter_sublist⟩
    have := (List.mem_filter.mp h).2
    simp at this
  · show (n :: outN m.names n).length ≤ (m.told ++ [depN m.names n]).length
    have : (outN m.names n).length ≤ m.names.length := List.length_filter_le ..
    simp
    omega
  · show (m.told ++ [depN m.names n]).length ≤ 24
    simp
    omega
  · show d ≤ ((m.told ++ [depN m.names n]).length : Int)
    have hd : some d ∈ m.told ++ [depN m.names n] := hd
    rw [List.length_append, List.length_singleton]
    rcases List.mem_append.mp hd with h | h
    · have := n4 d h
      omega
    · have h := List.mem_singleton.mp h
      unfold depN at h
      split at h
      · rename_i hx
        have hi := List.idxOf_lt_length_of_mem hx
        cases h
        omega
      · cases h
  · have hq : q ∈ m.past ++ [(m.names, m.told)] := hq
    rcases List.mem_append.mp hq with h | h
    · exact g.old q h
    · rw [List.mem_singleton.mp h]; exact g.now
theorem good_for {m : Ms} {n : Int} (g : GoodM m) (hx : n ∈ m.names) : GoodM (forMs m n) := by
  obtain ⟨n1, n2, n3, n4⟩ := g.now
  dsimp only at n1 n2 n3 n4
  refine ⟨⟨?_, ?_, n3, n4⟩, fun q hq => ?_⟩
  · show (m.names.eraseIdx (m.names.idxOf n)).Nodup
    exact n1.sublist (List.eraseIdx_sublist ..)
  · show (m.names.eraseIdx (m.names.idxOf n)).length ≤ m.told.length
    have := (List.eraseIdx_sublist m.names (m.names.idxOf n)).length_le
    omega
  · have hq : q ∈ m.past ++ [(m.names, m.told)] := hq
    rcases List.mem_append.mp hq with h | h
    · exact g.old q h
    · rw [List.mem_singleton.mp h]; exact g.now
theorem msok {m : Ms} (g : GoodM m) (h : m.past.length ≤ 100) : MsOk m := by
  obtain ⟨n1, n2, n3, n4⟩ := g.now
  dsimp only at n1 n2 n3 n4
  exact ⟨by omega, n3, h⟩
theorem call_ok (ns : List Int) {t : List Dt} (ht : t.length < 800000) {m : Ms} (g : GoodM m) (hp : m.past.length ≤ 100) : ∃ (t' : List Dt) (m' : Ms), t'.length ≤ t.length + 10 ∧ GoodM m' ∧ m'.past.length ≤ m.past.length + 1 ∧
    F__law_call [.scr ns, .ls true t, .mt true m, .ls true (pastD m)] = .ok (.d (.bool true)) [none, some (.ls true t'), some (.mt true m'), some (.ls true (pastD m'))] := by
  have ok := msok g hp
  obtain ⟨v, a1, a2, d1⟩ := draw_ex ns t 9 (by decide) (by omega)
  obtain ⟨pd, hpd, d2⟩ := pick_ok ns (t ++ [.int 0]) [.int 3, .int 6, .int 20] (by simp) (by simp; omega)
  obtain ⟨p, rfl, p1, p2⟩ : ∃ p : Int, pd = .int p ∧ 0 < p ∧ p ≤ 20 := by
    simp only [List.mem_cons, List.not_mem_nil, or_false] at hpd
    rcases hpd with rfl | rfl | rfl
    · exact ⟨3, rfl, by decide, by decide⟩
    · exact ⟨6, rfl, by decide, by decide⟩
    · exact ⟨20, rfl, by decide, by decide⟩
  obtain ⟨n, b1, b2, d3⟩ := draw_ex ns (t ++ [.int 0] ++ [.int 0]) p p1 (by simp; omega)
  have hn : okName n := ⟨b1, by omega⟩
  by_cases v0 : v = 0
  · by_cases h0 : m.past = []
    · exact ⟨_, m, by simp, g, by omega, call_0 h0 d1 d2 d3 v0⟩
    · obtain ⟨ps, q, hq⟩ : ∃ ps q, m.past = ps ++ [q] := ⟨m.past.dropLast, m.past.getLast h0, (List.dropLast_concat_getLast h0).symm⟩
      refine ⟨_, ⟨q.1, q.2, ps⟩, by simp, ⟨g.old q (by rw [hq]; simp), fun r hr => g.old r (by rw [hq]; simp [hr])⟩, ?_, call_0b hq d1 d2 d3 v0⟩
      rw [hq]
      simp
      omega
  · by_cases v1 : v = 1
    · obtain ⟨bd, hbd, d4⟩ := pick_ok ns (t ++ [.int 0] ++ [.int 0] ++ [.int 0]) [.int (-1), .int 20] (by simp) (by simp; omega)
      obtain ⟨bad, rfl, hb⟩ : ∃ p : Int, bd = .int p ∧ ¬ okName p := by
        simp only [List.mem_cons, List.not_mem_nil, or_false] at hbd
        rcases hbd with rfl | rfl
        · exact ⟨-1, rfl, by decide⟩
        · exact ⟨20, rfl, by decide⟩
      exact ⟨_, m, by simp, g, by omega, call_1 d1 d2 d3 v1 d4 hb⟩
    · by_cases v2 : v = 2
      · by_cases hx : n ∈ m.names
        · exact ⟨_, forMs m n, by simp, good_for g hx, by show (m.past ++ [_]).length ≤ _; simp, call_2 ok d1 d2 d3 v2 hn hx g.now.1⟩
        · exact ⟨_, m, by simp, g, by omega, call_2n d1 d2 d3 v2 hn hx⟩
      · by_cases hl : m.told.length = 24
        · exact ⟨_, m, by simp, g, by omega, call_3f d1 d2 d3 v0 v1 v2 hn hl⟩
        · exact ⟨_, askMs m n, by simp, good_ask g hl, by show (m.past ++ [_]).length ≤ _; simp, call_3 ok d1 d2 d3 v0 v1 v2 hn hl⟩
/-! one round -/
def leO (r : Int) : Option Int → Bool
  | none => false
  | some d => decide (d ≤ r)
theorem hitsN_eq (os : List (Option Int)) (r : Int) : hitsN os r = os.filter (leO r) := by
  unfold hitsN
  apply List.filter_congr
  intro o _
  cases o <;> rfl
def hitI (m : Ms) (r : Nat) : Int := ((hitsN m.told (r : Int)).length : Int)
theorem comp_in {a0 a1 a2 a3 a4 a5 a6 a7 a8 a9 a11 : Option Sv} (r : Nat) (os : List (Option Int)) (hl : os.length ≤ 100) : compL (.one 12) t_law_1 (varM 12) (os.map oD) [] [a0, a1, a2, a3, a4, a5, a6, a7, a8, a9, some (.d (.int r)), a11, none]
    = .ok ((hitsN os r).map oD) [a0, a1, a2, a3, a4, a5, a6, a7, a8, a9, some (.d (.int r)), a11, none] := by
  rw [compL_fmap oD (fun o => if leO r o = true then some (oD o) else none) os (by omega) fun o _ => ?_]
  · congr 1
    rw [hitsN_eq]
    clear hl
    induction os with
    | nil => rfl
    | cons o os ih =>
      rw [List.filterMap_cons, List.filter_cons]
      cases h : leO r o <;> simp [ih]
  · cases o with
    | none => simp [stepL_ap, t_law_1_ap, oD, nonA, isNone, leO]
    | some d => by_cases h : d ≤ (r : Int) <;> simp [stepL_ap, t_law_1_ap, oD, nonA, isNone, h, leO]
theorem comp_hits {a0 a1 a2 a3 a4 a5 a6 a7 a9 a11 : Option Sv} (m : Ms) (hl : m.told.length ≤ 24) : compL (.one 10) (retM true) e_law_1 (rangeD 0 26) [] [a0, a1, a2, a3, a4, a5, a6, a7, some (.d (.list (m.told.map oD))), a9, none, a11, none]
    = .ok ((List.range 26).map fun (r : Nat) => PyData.int (hitI m r)) [a0, a1, a2, a3, a4, a5, a6, a7, some (.d (.list (m.told.map oD))), a9, none, a11, none] := by
  rw [rangeD0]
  refine compL_map (fun (r : Nat) => PyData.int (r : Int)) (fun (r : Nat) => PyData.int (hitI m r)) _ (by simp) fun r _ => ?_
  have c := comp_in (a0 := a0) (a1 := a1) (a2 := a2) (a3 := a3) (a4 := a4) (a5 := a5) (a6 := a6) (a7 := a7) (a8 := some (.d (.list (m.told.map oD)))) (a9 := a9) (a11 := a11) r m.told (by omega)
  simp [stepL_ap, e_law_1_ap, seqOf, c, lenA, lenD, hitI]
theorem comp_told {a0 a1 a3 a4 a5 a6 a7 a8 a9 a11 a12 : Option Sv} (m : Ms) (ok : MsOk m) : compL (.one 10) (retM true) e_law_2 (rangeD 0 13) [] [a0, a1, some (.mt false m), a3, a4, a5, a6, a7, a8, a9, none, a11, a12]
    = .ok ((List.range 13).map fun (r : Nat) => PyData.int (hitI m r)) [a0, a1, some (.mt false m), a3, a4, a5, a6, a7, a8, a9, none, a11, a12] := by
  rw [rangeD0]
  refine compL_map (fun (r : Nat) => PyData.int (r : Int)) (fun (r : Nat) => PyData.int (hitI m r)) _ (by simp) fun r hr => ?_
  have hr := List.mem_range.mp hr
  have th := told_hits (fm_hits ok (n := (r : Int)) ⟨by omega, by omega⟩)
  simp [stepL_ap, e_law_2_ap, th, hitI]
def dueN (m : Ms) (share : Int) : List Nat := (List.range 26).filter fun r => decide (share ≤ hitI m r)
theorem comp_due {a0 a1 a2 a3 a4 a7 a8 a9 a11 a12 : Option Sv} (m : Ms) (share : Int) : compL (.one 10) t_law_2 (varM 10) (rangeD 0 26) [] [a0, a1, a2, a3, a4, some (.ls false ((List.range 26).map fun (r : Nat) => PyData.int (hitI m r))), some (.d (.int share)), a7, a8, a9, none, a11, a12]
    = .ok ((dueN m share).map fun (r : Nat) => PyData.int (r : Int)) [a0, a1, a2, a3, a4, some (.ls false ((List.range 26).map fun (r : Nat) => PyData.int (hitI m r))), some (.d (.int share)), a7, a8, a9, none, a11, a12] := by
  rw [rangeD0, compL_fmap (fun (r : Nat) => PyData.int (r : Int)) (fun (r : Nat) => if share ≤ hitI m r then some (PyData.int (r : Int)) else none) _ (by simp) fun r hr => ?_]
  · congr 1
    unfold dueN
    generalize List.range 26 = l
    induction l with
    | nil => rfl
    | cons r l ih => by_cases h : share ≤ hitI m r <;> simp [h, ih]
  · have hr := List.mem_range.mp hr
    have e : atI ((List.range 26).map fun (r : Nat) => PyData.int (hitI m r)) (r : Int) = some (.int (hitI m r)) := by
      rw [G8.atI_nat, List.getElem?_map, List.getElem?_range hr]
      rfl
    generalize (List.range 26).map (fun (r : Nat) => PyData.int (hitI m r)) = hs at e
    by_cases h : share ≤ hitI m r <;> simp [stepL_ap, t_law_2_ap, e, h]
theorem hit_all {m : Ms} (g : GoodM m) {r : Nat} (h : m.told.length ≤ r) : hitI m r = hitI m m.told.length := by
  unfold hitI
  rw [hitsN_eq, hitsN_eq]
  congr 2
  apply List.filter_congr
  intro o ho
  cases o with
  | none => rfl
  | some d =>
    have := g.now.2.2.2 d ho
    dsimp only at this
    have h1 : d ≤ (r : Int) := by omega
    simp [leO, h1, this]
/-- the first one below a bound, whatever the bound beyond some place -/
theorem first_same {p : Nat → Bool} {L : Nat} (hp : ∀ r, L ≤ r → p r = p L) : ∀ (a b : Nat), L < a → L < b → ((List.range a).filter p).head? = ((List.range b).filter p).head? := by
  have key : ∀ n, ((List.range (L + 1 + n)).filter p).head? = ((List.range (L + 1)).filter p).head? := by
    intro n
    induction n with
    | zero => rfl
    | succ n ih =>
      rw [show L + 1 + (n + 1) = (L + 1 + n) + 1 by omega, List.range_succ, List.filter_append, List.head?_append, ih]
      cases h : ((List.range (L + 1)).filter p).head? with
      | some x => rfl
      | none =>
        have hn := List.head?_eq_none_iff.mp h
        have : p L = false := by
          cases e : p L with
          | false => rfl
          | true =>
            have : L ∈ (List.range (L + 1)).filter p := List.mem_filter.mpr ⟨List.mem_range.mpr (by omega), e⟩
            rw [hn] at this
            cases this
        simp [hp (L + 1 + n) (by omega), this]
  intro a b ha hb
  have h1 := key (a - (L + 1))
  have h2 := key (b - (L + 1))
  rw [show L + 1 + (a - (L + 1)) = a by omega] at h1
  rw [show L + 1 + (b - (L + 1)) = b by omega] at h2
  rw [h1, h2]
theorem due_least {m : Ms} (g : GoodM m) (share : Int) : (dueN m share).head?.map (fun (r : Nat) => (r : Int)) = leastN m share := by
  have hl := g.now.2.2.1
  dsimp only at hl
  unfold leastN dueN roomsN
  congr 1
  exact first_same (p := fun r => decide (share ≤ hitI m r)) (L := m.told.length) (fun r hr => by rw [hit_all g hr]) _ _ (by omega) (by omega)
/-- what a slot may be left with: no list of one's own; none that is lent -/
def jd (j : Option Sv) : Prop := ownAt (some j) = false
def jr (j : Option Sv) : Prop := refAt (some j) = false
theorem ne_nil0 : neD (.list []) (.list []) = some false := rfl
theorem ne_nil1 (r : Nat) (rs : List Nat) : neD (.list (.int (r : Int) :: rs.map fun (r : Nat) => PyData.int (r : Int))) (.list []) = some true := by
  have := neD_iln ((r : Int) :: rs.map fun (r : Nat) => (r : Int))
  rw [List.map_cons, List.map_map] at this
  simp at this
  exact this
abbrev EE (ns : List Int) (t : List Dt) (m : Ms) (x4 x5 x6 x7 x8 x9 : Option Sv) : Ev := [some (.scr ns), some (.ls false t), some (.mt false m), some (.ls false (pastD m)), x4, x5, x6, x7, x8, x9, none, none, none]
def HS (m : Ms) : List Dt := (List.range 26).map fun (r : Nat) => PyData.int (hitI m r)
theorem share_round {ns : List Int} {t : List Dt} {m : Ms} (g : GoodM m) (hp : m.past.length ≤ 100) {x4 x6 x7 x8 x9 : Option Sv} (h6 : jd x6) (h9 : jr x9) (share : Int) :
    ∃ x9', jr x9' ∧ roundM (.one 6) b_law_1 (.int share) (EE ns t m x4 (some (.ls false (HS m))) x6 x7 x8 x9) = .ok .nx (EE ns t m x4 (some (.ls false (HS m))) (some (.d (.int share))) x7 x8 x9') := by
  have ok := msok g hp
  have dl := due_least g share
  have fl := fm_least ok share
  have cd := comp_due (a0 := some (.scr ns)) (a1 := some (.ls false t)) (a2 := some (.mt false m)) (a3 := some (.ls false (pastD m))) (a4 := x4) (a7 := x7) (a8 := x8) (a9 := x9) (a11 := none) (a12 := none) m share
  refine ⟨some (.ls false ((dueN m share).map fun (r : Nat) => PyData.int (r : Int))), rfl, ?_⟩
  unfold jd at h6
  unfold jr at h9
  rw [show (List.range 26).map (fun (r : Nat) => PyData.int (hitI m r)) = HS m from rfl] at cd
  unfold EE
  generalize HS m = hs at cd
  generalize pastD m = P at cd
  have m26 : mid 26 = true := rfl
  cases hd : dueN m share with
  | nil =>
    rw [hd] at dl cd
    have fl : F_Meter_least_room [.mt true m, .d (.int share)] = .ok (.d .none) [some (.mt true m), none] := by rw [fl, ← dl]; rfl
    have nn : neD .none .none = some false := rfl
    simp at cd
    simp [roundM_ap, b_law_1_ap, h6, h9, m26, cd, fl, ne_nil0, nn]
  | cons r rs =>
    rw [hd] at dl cd
    have fl : F_Meter_least_room [.mt true m, .d (.int share)] = .ok (.d (.int r)) [some (.mt true m), none] := by rw [fl, ← dl]; rfl
    have n1 := ne_nil1 r rs
    simp at cd
    simp [roundM_ap, b_law_1_ap, h6, h9, m26, cd, fl, n1, atI, ixN]
theorem share_loop {ns : List Int} {t : List Dt} {m : Ms} (g : GoodM m) (hp : m.past.length ≤ 100) {x4 x7 x8 : Option Sv} : ∀ (ss : List Int) (x6 x9 : Option Sv), jd x6 → jr x9 →
    ∃ x6' x9', jd x6' ∧ jr x9' ∧ forL (.one 6) b_law_1 (ss.map PyData.int) (EE ns t m x4 (some (.ls false (HS m))) x6 x7 x8 x9) = .ok .nx (EE ns t m x4 (some (.ls false (HS m))) x6' x7 x8 x9')
  | [], x6, x9, h6, h9 => ⟨x6, x9, h6, h9, rfl⟩
  | s :: ss, x6, x9, h6, h9 => by
    obtain ⟨x9', h1, e⟩ := share_round (ns := ns) (t := t) (x4 := x4) (x7 := x7) (x8 := x8) g hp h6 h9 s
    obtain ⟨x6'', x9'', h2, h3, e2⟩ := share_loop (ns := ns) (t := t) (x4 := x4) (x7 := x7) (x8 := x8) g hp ss (some (.d (.int s))) x9' rfl h1
    refine ⟨x6'', x9'', h2, h3, ?_⟩
    rw [List.map_cons, forL_round, e]
    exact e2
theorem HS_last (m : Ms) : atI (HS m) (-1) = some (.int (hitI m 25)) := by
  have : HS m = ((List.range 25).map fun (r : Nat) => PyData.int (hitI m r)) ++ [.int (hitI m 25)] := by
    unfold HS
    rw [List.range_succ, List.map_append]
    rfl
  rw [this]
  exact atI_lastD _ _
theorem HS_cut (m : Ms) : slD (.list (HS m)) none (some 13) = some (.l ((List.range 13).map fun (r : Nat) => PyData.int (hitI m r))) := by
  have : cutD (HS m) none (some 13) = (List.range 13).map fun (r : Nat) => PyData.int (hitI m r) := by
    unfold HS
    rfl
  unfold slD
  dsimp only
  rw [this]
theorem ne_same (m : Ms) : neD (.list ((List.range 13).map fun (r : Nat) => PyData.int (hitI m r))) (.list ((List.range 13).map fun (r : Nat) => PyData.int (hitI m r))) = some false := by
  have := neD_il ((List.range 13).map (hitI m)) ((List.range 13).map (hitI m))
  rw [List.map_map] at this
  simp at this
  exact this
theorem round {ns : List Int} {t : List Dt} {m : Ms} (g : GoodM m) (hp : m.past.length ≤ 90) (ht : t.length < 700000) {x4 x5 x6 x7 x8 x9 : Option Sv} (h4 : jd x4) (h5 : jr x5) (h6 : jd x6) (h7 : jd x7) (h8 : jd x8) (h9 : jr x9) (k : Int) :
    ∃ t' m' x4' x5' x6' x7' x8' x9', jd x4' ∧ jr x5' ∧ jd x6' ∧ jd x7' ∧ jd x8' ∧ jr x9' ∧ t'.length ≤ t.length + 20 ∧ GoodM m' ∧ m'.past.length ≤ m.past.length + 1 ∧
      roundM (.one 4) b_law_2 (.int k) (EE ns t m x4 x5 x6 x7 x8 x9) = .ok .nx (EE ns t' m' x4' x5' x6' x7' x8' x9') := by
  obtain ⟨t1, m', c1, g', c2, c3⟩ := call_ok ns (t := t) (by omega) g (by omega)
  have ok := msok g' (by omega)
  obtain ⟨v, a1, a2, d1⟩ := draw_ex ns t1 25 (by decide) (by omega)
  obtain ⟨x6', x9', h6', h9', sl⟩ := share_loop (ns := ns) (t := t1 ++ [.int 0]) (x4 := some (.d (.int k))) (x7 := some (.d (.list (m'.names.map PyData.int)))) (x8 := some (.d (.list (m'.told.map oD)))) g' (by omega) [-1, 0, 1, hitI m' 25, hitI m' 25 + 1, v] x6 x9 h6 h9
  refine ⟨t1 ++ [.int 0], m', some (.d (.int k)), some (.ls false (HS m')), x6', some (.d (.list (m'.names.map PyData.int))), some (.d (.list (m'.told.map oD))), x9', rfl, rfl, h6', rfl, rfl, h9', by simp; omega, g', c2, ?_⟩
  unfold jd at h4 h7 h8
  unfold jr at h5
  have pl := past_last m'
  have ch := comp_hits (a0 := some (.scr ns)) (a1 := some (.ls false t1)) (a2 := some (.mt false m')) (a3 := some (.ls false (pastD m'))) (a4 := some (.d (.int k))) (a5 := x5) (a6 := x6) (a7 := some (.d (.list (m'.names.map PyData.int)))) (a9 := x9) (a11 := none) m' ok.to
  have ct := comp_told (a0 := some (.scr ns)) (a1 := some (.ls false t1)) (a3 := some (.ls false (pastD m'))) (a4 := some (.d (.int k))) (a5 := some (.ls false (HS m'))) (a6 := x6) (a7 := some (.d (.list (m'.names.map PyData.int)))) (a8 := some (.d (.list (m'.told.map oD)))) (a9 := x9) (a11 := none) (a12 := none) m' ok
  rw [show (List.range 26).map (fun (r : Nat) => PyData.int (hitI m' r)) = HS m' from rfl] at ch
  have hl := HS_last m'
  have hc := HS_cut m'
  have ns' := ne_same m'
  have nn : neD (.list (m'.names.map PyData.int)) (.list (m'.names.map PyData.int)) = some false := by rw [neD_il]; simp
  have m26 : mid 26 = true := rfl
  have m13 : mid 13 = true := rfl
  have ln : m'.names.length < 1000000 := by have := ok.na; omega
  unfold EE at sl ⊢
  generalize (List.range 13).map (fun (r : Nat) => PyData.int (hitI m' r)) = h13 at ct hc ns'
  generalize hitI m' 25 = hh at hl sl
  generalize HS m' = hs at ch ct hl hc sl
  generalize pastD m' = P' at pl ch ct sl c3
  simp at sl
  simp [roundM_ap, b_law_2_ap, h4, h5, h7, h8, c3, pl, fm_stack, fm_asks, nn, lenA, lenD, tmpM, tmpE, ln, m26, ch, m13, ct, hc, ns', hl, d1, sl, seqOf]
theorem loop {ns : List Int} : ∀ (ks : List Int) (t : List Dt) (m : Ms) (x4 x5 x6 x7 x8 x9 : Option Sv), GoodM m → m.past.length + ks.length ≤ 90 → t.length + 20 * ks.length < 700000 → jd x4 → jr x5 → jd x6 → jd x7 → jd x8 → jr x9 →
    ∃ t' m' x4' x5' x6' x7' x8' x9', GoodM m' ∧ m'.past.length ≤ 90 ∧ forL (.one 4) b_law_2 (ks.map PyData.int) (EE ns t m x4 x5 x6 x7 x8 x9) = .ok .nx (EE ns t' m' x4' x5' x6' x7' x8' x9')
  | [], t, m, x4, x5, x6, x7, x8, x9, g, hp, _, _, _, _, _, _, _ => ⟨t, m, x4, x5, x6, x7, x8, x9, g, by simpa using hp, rfl⟩
  | k :: ks, t, m, x4, x5, x6, x7, x8, x9, g, hp, ht, h4, h5, h6, h7, h8, h9 => by
    rw [List.length_cons] at hp ht
    obtain ⟨t1, m1, y4, y5, y6, y7, y8, y9, b4, b5, b6, b7, b8, b9, c1, g1, c2, e⟩ := round (ns := ns) (t := t) g (by omega) (by omega) h4 h5 h6 h7 h8 h9 k
    obtain ⟨t2, m2, z4, z5, z6, z7, z8, z9, g2, c3, e2⟩ := loop ks t1 m1 y4 y5 y6 y7 y8 y9 g1 (by omega) (by omega) b4 b5 b6 b7 b8 b9
    refine ⟨t2, m2, z4, z5, z6, z7, z8, z9, g2, c3, ?_⟩
    rw [List.map_cons, forL_round, e]
    exact e2
theorem comp_end {a0 a1 a3 a4 a5 a6 a7 a8 a9 a10 a12 : Option Sv} (m : Ms) : compL (.one 11) (retM true) e_law_3 [.int (-1), .int 13] [] [a0, a1, some (.mt false m), a3, a4, a5, a6, a7, a8, a9, a10, none, a12]
    = .ok [refD 1, refD 1] [a0, a1, some (.mt false m), a3, a4, a5, a6, a7, a8, a9, a10, none, a12] :=
  compL_map PyData.int (fun _ => refD 1) [-1, 13] (by decide) fun y hy => by
    have th := told_hitsX (m := m) (n := y) (k := 1) (by decide) (fm_hits_no (by
      simp only [List.mem_cons, List.not_mem_nil, or_false] at hy
      omega))
    simp [stepL_ap, e_law_3_ap, th]
theorem eq_room2 : eqD (.list [refD 1, refD 1]) (.list [.tuple [.str "refused", .str "room"], .tuple [.str "refused", .str "room"]]) = some true := by decide +kernel
theorem keeps : Keeps F_law := fun ns _ => by
  obtain ⟨v, a1, a2, d1⟩ := draw_ex ns [] 41 (by decide) (by simp)
  obtain ⟨n, rfl⟩ : ∃ n : Nat, v = n := ⟨v.toNat, by omega⟩
  have g0 : GoodM ⟨[], [], []⟩ := ⟨⟨List.nodup_nil, Nat.le_refl _, Nat.zero_le _, fun d hd => by cases hd⟩, fun q hq => by cases hq⟩
  obtain ⟨t2, m2, z4, z5, z6, z7, z8, z9, g2, c3, e2⟩ := loop (ns := ns) ((List.range n).map fun (i : Nat) => (i : Int)) [.int 0] ⟨[], [], []⟩ none none none none none none g0 (by simp; omega) (by simp; omega) rfl rfl rfl rfl rfl rfl
  have hm : mid (n : Int) = true := mid_nat (by omega)
  have ce := comp_end (a0 := some (.scr ns)) (a1 := some (.ls false t2)) (a3 := some (.ls false (pastD m2))) (a4 := z4) (a5 := z5) (a6 := z6) (a7 := z7) (a8 := z8) (a9 := z9) (a10 := none) (a12 := none) m2
  have p0 : pastD ⟨[], [], []⟩ = [.tuple [.list [], .list []]] := rfl
  unfold EE at e2
  rw [p0, List.map_map] at e2
  have er : rangeD 0 n = (List.range n).map (PyData.int ∘ fun (i : Nat) => (i : Int)) := rangeD0 n
  generalize pastD m2 = P2 at e2 ce
  simp at d1
  exact ⟨[none], by simp [F_law, f_law, bodyF_ap, newMt, anyMt, Sv.isMt, d1, hm, er, e2, ce, show mid 2 = true from rfl, eq_room2, tupOf]⟩
end K70
namespace K70
open PySem L2 G8
theorem facts {P : Program} {w : World} {K : PySem.W.Frag} {h : Heap} {mg : Str → Option Value} {f : Addr} (X : K.In h) (G : h.Ns mainGlobals mg) (hfa : mg ("law" : Str) = some (.ref f)) (c : SaysM fa fn K) :
    ∃ fd : FuncData, (∀ (s : Shared) (v : Value), BindsTo s fd ⟨[v], []⟩ [("script", v)]) ∧ ∀ base : Heap, K.In base → base.Ns mainGlobals mg → FnOk P w K mg base CX0 6 f fd ["script"] (spLaw K) := by
  have T := tx X G c
  have e := hfa.symm.trans T.g_law
  cases e
  obtain ⟨fd, F⟩ := T.d_law
  have b := FunD.bindsA (ps := ["script"]) F fun _ _ _ _ _ _ us hl => match us, hl with | [_], _ => rfl
  refine ⟨fd, fun s v => b s [v] rfl, fun base _ _ => ?_⟩
  exact law_end keeps (okF_law (P := P) (w := w) (base := base) T F)
end K70
open PySem PySem.W PySem.Calls PyProof.Rows
theorem PySem.Challenge.cw_allrooms_k70_whole_meters_holds : PySem.Challenge.rw_allrooms_k70_whole_meters.Holds := by
  w_on; o_law
  refine HandSHeadRun.head_any (r := OpenLaw.row PySem.Challenge.rw_allrooms_k70_whole_meters) (q := view (OpenLaw.row PySem.Challenge.rw_allrooms_k70_whole_meters).prog [26]) (H := K70.hk) (ob := K70.ob) (M := 4000) (loose := K70.loose) (d := HandSHeadRun.topDef (OpenLaw.row PySem.Challenge.rw_allrooms_k70_whole_meters).prog 26) (kwd := []) K70.ob_eq
    (by kernel_rfl) (fun s => by kernel_rfl) K70.run (by kernel_rfl) (by kernel_rfl) (by kernel_rfl) (by rfl) (by first | assumption | decide +kernel) (by decide +kernel) ⟨rfl, rfl, rfl, rfl, rfl, by decide +kernel⟩ ?hw ?hc
  case hw => w_witness2
  case hc =>
    refine L2.walk_ofE (l := PySem.Challenge.rw_allrooms_k70_whole_meters) (n := 63) (k := 6) (x := "script") (CX := L2.CX0) rfl (by decide) (by kernel_rfl) ⟨rfl, by decide, by decide⟩ ?F (fun _ _ _ _ z => z)
    intro w mg fa h Y G hmg0
    obtain ⟨K, KX, c⟩ := Y
    have hmg : mg ("law" : PySem.Str) = some (.ref fa) := by
      have e : (HandSHeadRun.topDef (OpenLaw.row PySem.Challenge.rw_allrooms_k70_whole_meters).prog 26).name = ("law" : PySem.Str) := by kernel_rfl
      rw [← e]
      exact hmg0
    obtain ⟨fd, hb, hF⟩ := K70.facts (P := (PySem.Challenge.rw_allrooms_k70_whole_meters).prog) (w := w) KX G hmg c
    exact ⟨K, fd, G8.spLaw K, KX, hb, fun H a ns hl _ hS => ⟨a, ns, rfl, hl, hS, (fun p hp => by rw [G8.tbs_nil (K70.tx KX G c).lamNo] at hp; cases hp), fun _ => rfl⟩, hF⟩
