import PyProof.Rows.All
import Wide.All
import OpenK.AllK
import Wide.FinOn
import HandS.ForMost
import HandS.ForExc
import HandS.Deep
import HandS.Flow
import HandS.Defaults
import HandS.Lambda
import KE.DataEq
import KE.DataFind
import KE.DataMinMax
import KE.SortData
import KE.DataCmp
import HandS.More
import HandS.Strs
import HandS.ExcIs
import HandS.TryOnly
import KE.KStateDown
import Lean
import HandS.Head0
import HandS.Head1
import HandS.Head2
import HandS.HeadEnd
import HandS.HeadHook1
import HandS.HeadHook2
import HandS.HeadHook4
import HandS.HeadWalk
import HandS.Conv
import HandS.Style
import KE.KDictList
import KE.KDictSum
import HandS.SortInts
import PyProof.RangeFor
import HandS.TupSets
import PyProof.Rows.CallKwBuiltin
import KE.SortKeyHeap
import KE.KSortKey
import HandS.Text
import PySem.Challenge.RW_allrooms_k02_whole_texts
set_option Elab.async false
set_option linter.all false
set_option maxRecDepth 100000
set_option maxHeartbeats 4000000
namespace G8
open PySem L2
abbrev Dt := PyData
abbrev Fg := PySem.W.Frag
/-- a tuple of the ground, or one of the text's constants, which begin with a text -/
def TupK (K : Fg) (G : Hp) (a : Addr) (xs : List V) : Prop := G a = some (.tup xs) ∨ (SqT K (fun _ => none) a xs ∧ ∃ (x : Str) (r : List V), xs = V.str x :: r)
mutual
inductive Rp (K : Fg) (G : Hp) : V → Dt → Prop
  | non : Rp K G .non .none
  | bl (b : Bool) : Rp K G (.bl b) (.bool b)
  | int (i : Int) : Rp K G (.int i) (.int i)
  | str (x : Str) : Rp K G (.str x) (.str x)
  | lst {a : Addr} {xs : List V} {ds : List Dt} : G a = some (.lst xs) → Rps K G xs ds → Rp K G (.ref a) (.list ds)
  | tup {a : Addr} {xs : List V} {ds : List Dt} : TupK K G a xs → Rps K G xs ds → Rp K G (.ref a) (.tuple ds)
inductive Rps (K : Fg) (G : Hp) : List V → List Dt → Prop
  | nil : Rps K G [] []
  | cons {v : V} {d : Dt} {vs : List V} {ds : List Dt} : Rp K G v d → Rps K G vs ds → Rps K G (v :: vs) (d :: ds)
end
/-- a mark: an object that is another thing's own -/
def isMk : HO → Bool
  | .rng _ _ => true
  | _ => false
def mkO : HO := .rng 0 0
/-- the same but for marks -/
def SameG (G H : Hp) : Prop := ∀ a o, G a = some o → isMk o = false → H a = some o
theorem sg {G H : Hp} (e : Same G H) : SameG G H := fun a o h _ => e a o h
theorem SameG.tr {G G' H : Hp} (e : Same G G') (h : SameG G' H) : SameG G H := fun a o q m => h a o (e a o q) m
theorem SameG.seq {K : Fg} {H H' : Hp} {a : Addr} {xs : List V} (e : SameG H H') (h : SqL K H a xs) : SqL K H' a xs := by
  rcases h with (h | ⟨o, h⟩) | h
  · exact .inl (.inl (e _ _ h rfl))
  · exact .inl (.inr ⟨o, e _ _ h rfl⟩)
  · exact .inr h
theorem same_sqT {K : Fg} {H H' : Hp} {a : Addr} {xs : List V} (e : SameG H H') (h : SqT K H a xs) : SqT K H' a xs := by
  rcases h with (h | ⟨o, h⟩) | h
  · exact .inl (.inl (e _ _ h rfl))
  · exact .inl (.inr ⟨o, e _ _ h rfl⟩)
  · exact .inr h
theorem TupK.mono {K : Fg} {H H' : Hp} {a : Addr} {xs : List V} (e : SameG H H') (h : TupK K H a xs) : TupK K H' a xs := by
  rcases h with h | h
  · exact .inl (e _ _ h rfl)
  · exact .inr h
theorem TupK.sq {K : Fg} {H : Hp} {a : Addr} {xs : List V} (h : TupK K H a xs) : SqT K H a xs := by
  rcases h with h | h
  · exact SqT.of h
  · exact same_sqT (fun _ _ z _ => by cases z) h.1
section
variable {K : Fg} {G G' : Hp}
mutual
theorem Rp.monoG (e : SameG G G') : ∀ (d : Dt) (v : V), Rp K G v d → Rp K G' v d
  | .none, _, h => by cases h; exact .non
  | .bool b, _, h => by cases h; exact .bl b
  | .int i, _, h => by cases h; exact .int i
  | .str x, _, h => by cases h; exact .str x
  | .list ds, _, h => by
    cases h with
    | lst h1 h2 => exact .lst (e _ _ h1 rfl) (Rps.monoG e ds _ h2)
  | .tuple ds, _, h => by
    cases h with
    | tup h1 h2 => exact .tup (h1.mono e) (Rps.monoG e ds _ h2)
  | .dict _, _, h => by cases h
theorem Rps.monoG (e : SameG G G') : ∀ (ds : List Dt) (vs : List V), Rps K G vs ds → Rps K G' vs ds
  | [], _, h => by cases h; exact .nil
  | d :: ds, _, h => by
    cases h with
    | cons h1 h2 => exact .cons (Rp.monoG e d _ h1) (Rps.monoG e ds _ h2)
end
theorem Rp.mono (e : Same G G') (d : Dt) (v : V) (h : Rp K G v d) : Rp K G' v d := Rp.monoG (sg e) d v h
theorem Rps.mono (e : Same G G') (ds : List Dt) (vs : List V) (h : Rps K G vs ds) : Rps K G' vs ds := Rps.monoG (sg e) ds vs h
mutual
theorem Rp.dp : ∀ (d : Dt) (v : V), Rp K G v d → Dp K G v d
  | .none, _, h => by cases h; exact .non
  | .bool b, _, h => by cases h; exact .bl b
  | .int i, _, h => by cases h; exact .int i
  | .str x, _, h => by cases h; exact .str x
  | .list ds, _, h => by
    cases h with
    | lst h1 h2 => exact .lst (SqL.of h1) (Rps.dp ds _ h2)
  | .tuple ds, _, h => by
    cases h with
    | tup h1 h2 => exact .tup h1.sq (Rps.dp ds _ h2)
  | .dict _, _, h => by cases h
theorem Rps.dp : ∀ (ds : List Dt) (vs : List V), Rps K G vs ds → DpAll K G vs ds
  | [], _, h => by cases h; exact .nil
  | d :: ds, _, h => by
    cases h with
    | cons h1 h2 => exact .cons (Rp.dp d _ h1) (Rps.dp ds _ h2)
end
theorem Rps.length : ∀ {vs : List V} {ds : List Dt}, Rps K G vs ds → vs.length = ds.length
  | _, [], h => by cases h; rfl
  | _, d :: ds, h => by
    cases h with
    | cons h1 h2 => rw [List.length_cons, List.length_cons, h2.length]
theorem Rps.get : ∀ {vs : List V} {ds : List Dt} {i : Nat} {d : Dt}, Rps K G vs ds → ds[i]? = some d → ∃ v, vs[i]? = some v ∧ Rp K G v d
  | _, [], _, _, _, e => by simp at e
  | _, d :: ds, 0, x, h, e => by
    cases h with
    | cons h1 h2 =>
      simp at e
      subst e
      exact ⟨_, rfl, h1⟩
  | _, d :: ds, i + 1, x, h, e => by
    cases h with
    | cons h1 h2 =>
      obtain ⟨v, q, r⟩ := Rps.get (i := i) (d := x) h2 (by simpa using e)
      exact ⟨v, by simpa using q, r⟩
theorem Rps.getV {vs : List V} {ds : List Dt} {i : Nat} {v : V} (h : Rps K G vs ds) (e : vs[i]? = some v) : ∃ d, ds[i]? = some d ∧ Rp K G v d := by
  have hi : i < vs.length := (List.getElem?_eq_some_iff.mp e).1
  rw [h.length] at hi
  obtain ⟨u, q, r⟩ := h.get (List.getElem?_eq_getElem hi)
  rw [e] at q
  cases q
  exact ⟨_, List.getElem?_eq_getElem hi, r⟩
theorem Rps.append : ∀ {vs ws : List V} {ds es : List Dt}, Rps K G vs ds → Rps K G ws es → Rps K G (vs ++ ws) (ds ++ es)
  | _, _, [], _, h, g => by cases h; exact g
  | _, _, d :: ds, _, h, g => by
    cases h with
    | cons h1 h2 => exact .cons h1 (h2.append g)
theorem Rps.set {v : V} {d : Dt} (r : Rp K G v d) : ∀ {vs : List V} {ds : List Dt} (i : Nat), Rps K G vs ds → Rps K G (vs.set i v) (ds.set i d)
  | _, [], _, h => by cases h; exact .nil
  | _, _ :: _, 0, h => by
    cases h with
    | cons h1 h2 => exact .cons r h2
  | _, _ :: _, i + 1, h => by
    cases h with
    | cons h1 h2 => exact .cons h1 (Rps.set r i h2)
theorem Rps.take : ∀ {vs : List V} {ds : List Dt} (n : Nat), Rps K G vs ds → Rps K G (vs.take n) (ds.take n)
  | _, [], n, h => by cases h; rw [List.take_nil, List.take_nil]; exact .nil
  | _, _ :: _, 0, h => by rw [List.take_zero, List.take_zero]; exact .nil
  | _, _ :: _, n + 1, h => by
    cases h with
    | cons h1 h2 => exact .cons h1 (Rps.take n h2)
theorem Rps.drop : ∀ {vs : List V} {ds : List Dt} (n : Nat), Rps K G vs ds → Rps K G (vs.drop n) (ds.drop n)
  | _, [], n, h => by cases h; rw [List.drop_nil, List.drop_nil]; exact .nil
  | _, _ :: _, 0, h => h
  | _, _ :: _, n + 1, h => by
    cases h with
    | cons h1 h2 => exact Rps.drop n h2
theorem Rps.erase : ∀ {vs : List V} {ds : List Dt} (n : Nat), Rps K G vs ds → Rps K G (vs.eraseIdx n) (ds.eraseIdx n)
  | _, [], n, h => by cases h; exact .nil
  | _, _ :: _, 0, h => by
    cases h with
    | cons h1 h2 => exact h2
  | _, _ :: _, n + 1, h => by
    cases h with
    | cons h1 h2 => exact .cons h1 (Rps.erase n h2)
theorem Rps.rev {vs : List V} {ds : List Dt} (h : Rps K G vs ds) : Rps K G vs.reverse ds.reverse := by
  induction ds generalizing vs with
  | nil => cases h; exact .nil
  | cons d ds ih =>
    cases h with
    | cons h1 h2 =>
      rw [List.reverse_cons, List.reverse_cons]
      exact (ih h2).append (.cons h1 .nil)
theorem Rps.rep {vs : List V} {ds : List Dt} (h : Rps K G vs ds) : ∀ k : Nat, Rps K G (List.replicate k vs).flatten (List.replicate k ds).flatten
  | 0 => .nil
  | k + 1 => by
    rw [List.replicate_succ, List.replicate_succ, List.flatten_cons, List.flatten_cons]
    exact h.append (Rps.rep h k)
theorem Rps.one {v : V} {d : Dt} (r : Rp K G v d) : Rps K G [v] [d] := .cons r .nil
theorem Rps.ints : ∀ {ns : List Int} {vs : List V}, Rps K G vs (ns.map PyData.int) → vs = ns.map V.int
  | [], _, h => by cases h; rfl
  | n :: ns, _, h => by
    cases h with
    | cons h1 h2 =>
      cases h1
      rw [Rps.ints h2]
      rfl
theorem Rps.of_ints : ∀ ns : List Int, Rps K G (ns.map V.int) (ns.map PyData.int)
  | [] => .nil
  | n :: ns => .cons (.int n) (Rps.of_ints ns)
theorem Rps.bools : ∀ {bs : List Bool} {vs : List V}, Rps K G vs (bs.map PyData.bool) → vs = bs.map V.bl
  | [], _, h => by cases h; rfl
  | n :: ns, _, h => by
    cases h with
    | cons h1 h2 =>
      cases h1
      rw [Rps.bools h2]
      rfl
theorem Rps.strs : ∀ {bs : List Str} {vs : List V}, Rps K G vs (bs.map PyData.str) → vs = bs.map V.str
  | [], _, h => by cases h; rfl
  | n :: ns, _, h => by
    cases h with
    | cons h1 h2 =>
      cases h1
      rw [Rps.strs h2]
      rfl
end
end G8
namespace G8
open PySem L2
/-! slots, outcomes, the invariant -/
/-- a meter: its names, what it told, what was ahead -/
structure Ms where
  names : List Int
  told : List (Option Int)
  past : List (List Int × List (Option Int))
def vO : Option Int → V
  | none => .non
  | some i => .int i
/-- what was ahead: tuples of two lists each -/
inductive Pasts (H : Hp) : List V → List (List Int × List (Option Int)) → List Addr → Prop
  | nil : Pasts H [] [] []
  | cons {t l m : Addr} {q : List Int × List (Option Int)} {vs : List V} {qs : List (List Int × List (Option Int))} {z : List Addr} : H t = some (.tup [.ref l, .ref m]) → H l = some (.lst (q.1.map V.int)) → H m = some (.lst (q.2.map vO)) → Pasts H vs qs z → Pasts H (.ref t :: vs) (q :: qs) (l :: m :: z)
def mf (a b c : Addr) : List (Str × V) := [("names", .ref a), ("told", .ref b), ("past", .ref c)]
structure MAt (C : Addr) (H : Hp) (p dx a b c : Addr) (m : Ms) (vs : List V) (z : List Addr) : Prop where
  ins : H p = some (.ins C dx (mf a b c))
  na : H a = some (.lst (m.names.map V.int))
  to : H b = some (.lst (m.told.map vO))
  pa : H c = some (.lst vs)
  ps : Pasts H vs m.past z
  nd : (a :: b :: c :: z).Nodup
def MeterAt (C : Addr) (H : Hp) (p : Addr) (m : Ms) (Z : List Addr) : Prop := ∃ dx a b c vs z, MAt C H p dx a b c m vs z ∧ Z = a :: b :: c :: z
theorem Pasts.keep {H H' : Hp} : ∀ {vs : List V} {qs : List (List Int × List (Option Int))} {z : List Addr}, Pasts H vs qs z → (∀ a o, (a ∈ z ∨ ∃ xs, o = .tup xs) → H a = some o → H' a = some o) → Pasts H' vs qs z
  | _, [], _, h, k => by cases h; exact .nil
  | _, q :: qs, _, h, k => by
    cases h with
    | cons h1 h2 h3 h4 => exact .cons (k _ _ (.inr ⟨_, rfl⟩) h1) (k _ _ (.inl (by simp)) h2) (k _ _ (.inl (by simp)) h3) (h4.keep fun a o ha => k a o (by
      rcases ha with ha | ha
      · exact .inl (List.mem_cons_of_mem _ (List.mem_cons_of_mem _ ha))
      · exact .inr ha))
theorem Pasts.uniq {H : Hp} : ∀ {vs : List V} {qs qs' : List (List Int × List (Option Int))} {z z' : List Addr}, Pasts H vs qs z → Pasts H vs qs' z' → z = z'
  | _, [], _, _, _, h, h' => by cases h; cases h'; rfl
  | _, q :: qs, qs', _, _, h, h' => by
    cases h with
    | cons h1 h2 h3 h4 =>
      cases h' with
      | cons g1 g2 g3 g4 =>
        rw [h1] at g1
        cases g1
        rw [h4.uniq g4]
theorem Pasts.lsts {H : Hp} : ∀ {vs : List V} {qs : List (List Int × List (Option Int))} {z : List Addr}, Pasts H vs qs z → ∀ q ∈ z, ∃ xs, H q = some (.lst xs)
  | _, [], _, h, _, m => by cases h; cases m
  | _, q :: qs, _, h, x, m => by
    cases h with
    | cons h1 h2 h3 h4 =>
      rcases List.mem_cons.mp m with rfl | m
      · exact ⟨_, h2⟩
      · rcases List.mem_cons.mp m with rfl | m
        · exact ⟨_, h3⟩
        · exact h4.lsts x m
theorem MeterAt.keep {C : Addr} {H H' : Hp} {p : Addr} {m : Ms} {Z : List Addr} (h : MeterAt C H p m Z) (k : ∀ a o, (a = p ∨ a ∈ Z ∨ ∃ xs, o = .tup xs) → H a = some o → H' a = some o) : MeterAt C H' p m Z := by
  obtain ⟨dx, a, b, c, vs, z, h, rfl⟩ := h
  refine ⟨dx, a, b, c, vs, z, ⟨k _ _ (.inl rfl) h.ins, k _ _ (.inr (.inl (by simp))) h.na, k _ _ (.inr (.inl (by simp))) h.to, k _ _ (.inr (.inl (by simp))) h.pa, h.ps.keep fun a o ha => k a o ?_, h.nd⟩, rfl⟩
  rcases ha with ha | ha
  · exact .inr (.inl (by simp [ha]))
  · exact .inr (.inr ha)
theorem MeterAt.uniq {C C' : Addr} {H : Hp} {p : Addr} {m m' : Ms} {Z Z' : List Addr} (h : MeterAt C H p m Z) (h' : MeterAt C' H p m' Z') : Z = Z' := by
  obtain ⟨dx, a, b, c, vs, z, h, rfl⟩ := h
  obtain ⟨dx', a', b', c', vs', z', h', rfl⟩ := h'
  have e := h.ins
  rw [h'.ins] at e
  unfold mf at e
  simp only [Option.some.injEq, HO.ins.injEq, List.cons.injEq, Prod.mk.injEq, V.ref.injEq, true_and, and_true] at e
  obtain ⟨_, _, rfl, rfl, rfl⟩ := e
  have e2 := h.pa
  rw [h'.pa] at e2
  cases e2
  rw [h.ps.uniq h'.ps]
theorem MeterAt.lsts {C : Addr} {H : Hp} {p : Addr} {m : Ms} {Z : List Addr} (h : MeterAt C H p m Z) : ∀ q ∈ Z, ∃ xs, H q = some (.lst xs) := by
  obtain ⟨dx, a, b, c, vs, z, h, rfl⟩ := h
  intro q hq
  rcases List.mem_cons.mp hq with rfl | hq
  · exact ⟨_, h.na⟩
  · rcases List.mem_cons.mp hq with rfl | hq
    · exact ⟨_, h.to⟩
    · rcases List.mem_cons.mp hq with rfl | hq
      · exact ⟨_, h.pa⟩
      · exact h.ps.lsts q hq
theorem MeterAt.main {C : Addr} {H : Hp} {p : Addr} {m : Ms} {Z : List Addr} (h : MeterAt C H p m Z) : ∃ dx fs, H p = some (.ins C dx fs) := by
  obtain ⟨dx, a, b, c, vs, z, h, rfl⟩ := h
  exact ⟨_, _, h.ins⟩
/-- an address that is marked -/
def Mk (G : Hp) (q : Addr) : Prop := ∃ o, G q = some o ∧ isMk o = true
theorem Mk.mono {G G' : Hp} {q : Addr} (h : Mk G q) (e : Same G G') : Mk G' q := by
  obtain ⟨o, h1, h2⟩ := h
  exact ⟨o, e _ _ h1, h2⟩
theorem Mk.ne {G : Hp} {q p : Addr} (h : Mk G q) (e : G p = none) : q ≠ p := fun z => by
  obtain ⟨o, h1, h2⟩ := h
  rw [z, e] at h1
  cases h1
inductive Sv where
  | d (x : Dt)
  | ls (r : Bool) (xs : List Dt)
  | dk (r : Bool) (kvs : List (Key × Dt))
  | dt (r : Bool) (kvs : List (List Key × Dt))
  | ex (k : Nat)
  | scr (ns : List Int)
  | fk (kvs : List (Key × Dt))
  | ft (kvs : List (List Key × Dt))
  | mt (r : Bool) (m : Ms)
def Sv.own : Sv → Bool
  | .ls _ _ => true
  | .dk _ _ => true
  | .dt _ _ => true
  | .mt _ _ => true
  | _ => false
def Sv.isRef : Sv → Bool
  | .ls r _ => r
  | .dk r _ => r
  | .dt r _ => r
  | .mt r _ => r
  | _ => false
def Sv.mark (r : Bool) : Sv → Sv
  | .ls _ xs => .ls r xs
  | .dk _ xs => .dk r xs
  | .dt _ xs => .dt r xs
  | .mt _ m => .mt r m
  | s => s
def Sv.isMt : Sv → Bool
  | .mt _ _ => true
  | _ => false
theorem own_mark (r : Bool) (s : Sv) : (s.mark r).own = s.own := by cases s <;> rfl
theorem ref_mark {r : Bool} {s : Sv} (h : s.own = true) : (s.mark r).isRef = r := by
  cases s <;> first | rfl | cases h
theorem own_of_ref {s : Sv} (h : s.isRef = true) : s.own = true := by
  cases s <;> first | rfl | cases h
abbrev Ev := List (Option Sv)
inductive Out (α : Type) where
  | ok (a : α) (ρ : Ev)
  | err (k : Nat) (ρ : Ev)
  | bad
abbrev M (α : Type) := Ev → Out α
/-- what an operand is: data, or the name in a slot -/
inductive Av where
  | d (x : Dt)
  | s (i : Nat)
/-- what a list expression gives: data, or a new list -/
inductive Rv where
  | d (x : Dt)
  | l (xs : List Dt)
  | k (kvs : List (Key × Dt))
  | t (kvs : List (List Key × Dt))
inductive Fl where
  | nx | bk | ct
  | rt (r : Rv)
def exO (C a : Addr) : HO := .ext fun h => ∃ (oe : Obj) (vs : Array Value), h.get? a = some oe ∧ Zc (.ref C) none oe ∧ oe.data = .fields vs
def RpK {κ : Type} (K : Fg) (G : Hp) : List (κ × V) → List (κ × Dt) → Prop := Paired fun p q => p.1 = q.1 ∧ Rp K G p.2 q.2
def RS (K : Fg) (C : Nat → Addr) (G H : Hp) (v : V) : Sv → Prop
  | .d x => Rp K G v x
  | .ls _ xs => ∃ p vs, v = .ref p ∧ H p = some (.lst vs) ∧ G p = none ∧ Rps K G vs xs
  | .dk _ kvs => ∃ p vs, v = .ref p ∧ H p = some (.dK vs) ∧ G p = none ∧ RpK K G vs kvs
  | .dt _ kvs => ∃ p vs, v = .ref p ∧ H p = some (.dT vs) ∧ G p = none ∧ RpK K G vs kvs
  | .ex k => ∃ a, v = .ref a ∧ G a = some (exO (C k) a)
  | .scr ns => ∃ a, v = .ref a ∧ SqL K G a (ns.map V.int)
  | .fk kvs => ∃ p od vs, v = .ref p ∧ G p = some (.frz od (.dK vs)) ∧ RpK K G vs kvs
  | .ft kvs => ∃ p od vs, v = .ref p ∧ G p = some (.frz od (.dT vs)) ∧ RpK K G vs kvs
  | .mt _ m => ∃ (p : Addr) (dx : Addr × Addr) (fs : List (Str × V)), v = .ref p ∧ H p = some (.ins dx.1 dx.2 fs) ∧ G p = none
structure Bs where
  K : Fg
  C : Nat → Addr
  T : List (Addr × Str)
  mc : Addr
structure Fc where
  G0 : Hp
  H0 : Hp
  refs : List (Nat × Addr × Bool)
  Z : Addr → Prop
  M : Nat → Prop
/-- all that is lent is marked so: a def's own body -/
def Fc.Fn (c : Fc) : Prop := ∀ i p f, (i, p, f) ∈ c.refs → f = true
structure SIG (b : Bs) (c : Fc) (G : Hp) (ρ : Ev) (σ : St) (H : Hp) : Prop where
  len : ρ.length = σ.length
  g0 : Same c.G0 G
  gh : SameG G H
  gm : ∀ a, Mk G a → ∃ xs, H a = some (.lst xs)
  fr : ∀ a o, c.H0 a = some o → (∀ p ∈ b.T, p.1 ≠ a) → (∀ i f, (i, a, f) ∉ c.refs) → ¬ c.Z a → H a = some o
  gn : ∀ a o, G a = some o → c.G0 a = some o ∨ c.H0 a = none ∨ ∃ xs, o = .tup xs ∧ c.H0 a = some (.tup xs)
  sl : ∀ (i : Nat) (sv : Sv), ρ[i]? = some (some sv) → ∃ v, σ[i]? = some (some v) ∧ RS b.K b.C G H v sv
  sp : ∀ (i j : Nat) (si sj : Sv) (p : Addr), ρ[i]? = some (some si) → ρ[j]? = some (some sj) → si.own = true → sj.own = true → σ[i]? = some (some (.ref p)) → σ[j]? = some (some (.ref p)) → i = j
  nw : ∀ (i : Nat) (si : Sv) (p : Addr), ρ[i]? = some (some si) → si.own = true → σ[i]? = some (some (.ref p)) → c.H0 p = none ∨ ∃ f, (i, p, f) ∈ c.refs
  rf : ∀ (i : Nat) (p : Addr) (f : Bool), (i, p, f) ∈ c.refs → σ[i]? = some (some (.ref p)) ∧ ∃ sv, ρ[i]? = some (some sv) ∧ sv.own = true ∧ sv.isRef = f
  tb : LamX.Tabs b.T H
  ct : ∀ p ∈ b.T, c.G0 p.1 = none ∧ ∃ ps, c.H0 p.1 = some (.tbl ps)
  mz : ∀ (i : Nat) (r : Bool) (m : Ms) (p : Addr), ρ[i]? = some (some (.mt r m)) → σ[i]? = some (some (.ref p)) → ∃ Z, MeterAt b.mc H p m Z ∧ ∀ q ∈ Z, Mk G q ∧ (c.H0 q = none ∨ c.Z q)
  m1 : ∀ (i j : Nat) (si sj : Sv), ρ[i]? = some (some si) → ρ[j]? = some (some sj) → si.isMt = true → sj.isMt = true → i = j
  zz : ∀ a, c.Z a → Mk c.G0 a
  rk : ∀ (i : Nat) (p : Addr) (f : Bool) (s : Sv), (i, p, f) ∈ c.refs → ρ[i]? = some (some s) → s.isMt = true → c.M i
/-- an object that is no table and no code object may change -/
theorem tabs_mut {T : List (Addr × Str)} {H : Hp} {p : Addr} {o o' : HO} (t : LamX.Tabs T H) (h : H p = some o) (n1 : ∀ ps, o ≠ .tbl ps) (n2 : ∀ φ, o ≠ .ext φ) : LamX.Tabs T (upd H p o') := fun q hq => by
  obtain ⟨ps, h1, h2, h3⟩ := t q hq
  refine ⟨ps, ?_, h2, fun pos cv hc => ?_⟩
  · rw [upd_ne (fun z => by rw [z, h] at h1; exact n1 _ (Option.some.inj h1))]
    exact h1
  · obtain ⟨k, e1, e2⟩ := h3 pos cv hc
    refine ⟨k, e1, ?_⟩
    rw [upd_ne (fun z => by rw [z, h] at e2; exact n2 _ (Option.some.inj e2))]
    exact e2
theorem tabs_new {T : List (Addr × Str)} {H : Hp} {p : Addr} {o : HO} (t : LamX.Tabs T H) (h : H p = none) : LamX.Tabs T (upd H p o) := t.ext fun a u e => by rw [upd_ne (ne_of_none e h)]; exact e
/-- what an own slot's object is -/
def HO.plain : HO → Bool
  | .lst _ => true
  | .dK _ => true
  | .dT _ => true
  | .ins _ _ _ => true
  | _ => false
theorem plain_ne {o : HO} (h : HO.plain o = true) : (∀ ps, o ≠ .tbl ps) ∧ ∀ φ, o ≠ .ext φ := by
  constructor <;> (intro z e; subst e; cases h)
theorem RS.kind {K : Fg} {C : Nat → Addr} {G H : Hp} {p : Addr} {sv : Sv} (h : RS K C G H (.ref p) sv) (ho : sv.own = true) : ∃ o, H p = some o ∧ HO.plain o = true := by
  cases sv with
  | ls r xs => obtain ⟨q, vs, e, h1, _⟩ := h; cases e; exact ⟨_, h1, rfl⟩
  | dk r xs => obtain ⟨q, vs, e, h1, _⟩ := h; cases e; exact ⟨_, h1, rfl⟩
  | dt r xs => obtain ⟨q, vs, e, h1, _⟩ := h; cases e; exact ⟨_, h1, rfl⟩
  | mt r m => obtain ⟨q, dx, fs, e, h1, _⟩ := h; cases e; exact ⟨_, h1, rfl⟩
  | _ => cases ho
theorem RS.at {K : Fg} {C : Nat → Addr} {G H : Hp} {v : V} {sv : Sv} (h : RS K C G H v sv) (ho : sv.own = true) : ∃ p o, v = .ref p ∧ H p = some o ∧ G p = none := by
  cases sv with
  | ls r xs => obtain ⟨p, vs, e, h1, h2, _⟩ := h; exact ⟨p, _, e, h1, h2⟩
  | dk r xs => obtain ⟨p, vs, e, h1, h2, _⟩ := h; exact ⟨p, _, e, h1, h2⟩
  | dt r xs => obtain ⟨p, vs, e, h1, h2, _⟩ := h; exact ⟨p, _, e, h1, h2⟩
  | mt r m => obtain ⟨p, dx, fs, e, h1, h2⟩ := h; exact ⟨p, _, e, h1, h2⟩
  | _ => cases ho
theorem RpK.mono {κ : Type} {K : Fg} {G G' : Hp} {vs : List (κ × V)} {ds : List (κ × Dt)} (e : Same G G') (h : RpK K G vs ds) : RpK K G' vs ds :=
  Paired.mapP h fun _ _ z => ⟨z.1, Rp.mono e _ _ z.2⟩
/-- a slot stays over a greater ground, where its own object is kept -/
theorem RS.keep {K : Fg} {C : Nat → Addr} {G G' H H' : Hp} {v : V} {sv : Sv} (h : RS K C G H v sv) (e : Same G G') (k : ∀ p o, sv.own = true → v = .ref p → H p = some o → H' p = some o ∧ G' p = none) : RS K C G' H' v sv := by
  cases sv with
  | d x => exact Rp.mono e _ _ h
  | ls r xs => obtain ⟨p, vs, q, h1, h2, h3⟩ := h; exact ⟨p, vs, q, (k p _ rfl q h1).1, (k p _ rfl q h1).2, Rps.mono e _ _ h3⟩
  | dk r xs => obtain ⟨p, vs, q, h1, h2, h3⟩ := h; exact ⟨p, vs, q, (k p _ rfl q h1).1, (k p _ rfl q h1).2, h3.mono e⟩
  | dt r xs => obtain ⟨p, vs, q, h1, h2, h3⟩ := h; exact ⟨p, vs, q, (k p _ rfl q h1).1, (k p _ rfl q h1).2, h3.mono e⟩
  | ex k => obtain ⟨a, q, h1⟩ := h; exact ⟨a, q, e _ _ h1⟩
  | scr ns => obtain ⟨a, q, h1⟩ := h; exact ⟨a, q, e.seq h1⟩
  | fk kvs => obtain ⟨p, od, vs, q, h1, h2⟩ := h; exact ⟨p, od, vs, q, e _ _ h1, h2.mono e⟩
  | ft kvs => obtain ⟨p, od, vs, q, h1, h2⟩ := h; exact ⟨p, od, vs, q, e _ _ h1, h2.mono e⟩
  | mt r m => obtain ⟨p, dx, fs, q, h1, h2⟩ := h; exact ⟨p, dx, fs, q, (k p _ rfl q h1).1, (k p _ rfl q h1).2⟩
theorem RS.mark {K : Fg} {C : Nat → Addr} {G H : Hp} {v : V} {sv : Sv} (h : RS K C G H v sv) (r : Bool) : RS K C G H v (sv.mark r) := by
  cases sv <;> exact h
section
variable {b : Bs} {c : Fc} {G H : Hp} {ρ : Ev} {σ : St}
theorem isMt_of {s : Sv} (h : s.isMt = true) : ∃ r m, s = .mt r m := by
  cases s <;> first | exact ⟨_, _, rfl⟩ | cases h
theorem SIG.free (S : SIG b c G ρ σ H) {p : Addr} (hp : H p = none) : G p = none := by
  cases e : G p with
  | none => rfl
  | some o =>
    cases m : isMk o with
    | false =>
      have := S.gh p o e m
      rw [hp] at this
      cases this
    | true =>
      obtain ⟨xs, h⟩ := S.gm p ⟨o, e, m⟩
      rw [hp] at h
      cases h
/-- the meters stay -/
theorem SIG.mzk' (S : SIG b c G ρ σ H) {G' H' : Hp} {ρ' : Ev} {σ' : St} (e : ∀ q, Mk G q → Mk G' q) (k : ∀ a o, (Mk G a ∨ (∃ xs, o = .tup xs) ∨ ∃ (i : Nat) (s : Sv), ρ[i]? = some (some s) ∧ s.isMt = true ∧ σ[i]? = some (some (V.ref a))) → H a = some o → H' a = some o)
    (ks : ∀ (i : Nat) (r : Bool) (m : Ms) (p : Addr), ρ'[i]? = some (some (.mt r m)) → σ'[i]? = some (some (.ref p)) → ∃ (j : Nat) (r' : Bool), ρ[j]? = some (some (.mt r' m)) ∧ σ[j]? = some (some (.ref p))) :
    ∀ (i : Nat) (r : Bool) (m : Ms) (p : Addr), ρ'[i]? = some (some (.mt r m)) → σ'[i]? = some (some (.ref p)) → ∃ Z, MeterAt b.mc H' p m Z ∧ ∀ q ∈ Z, Mk G' q ∧ (c.H0 q = none ∨ c.Z q) := fun i r m p h1 h2 => by
  obtain ⟨j, r', g1, g2⟩ := ks i r m p h1 h2
  obtain ⟨Z, z1, z2⟩ := S.mz j r' m p g1 g2
  refine ⟨Z, z1.keep fun a o ha hq => k a o ?_ hq, fun q hq => ⟨e q (z2 q hq).1, (z2 q hq).2⟩⟩
  rcases ha with rfl | ha | ha
  · exact .inr (.inr ⟨j, _, g1, rfl, g2⟩)
  · exact .inl (z2 a ha).1
  · exact .inr (.inl ha)
theorem SIG.mzk (S : SIG b c G ρ σ H) {G' H' : Hp} {ρ' : Ev} {σ' : St} (e : Same G G') (k : ∀ a o, (Mk G a ∨ (∃ xs, o = .tup xs) ∨ ∃ (i : Nat) (s : Sv), ρ[i]? = some (some s) ∧ s.isMt = true ∧ σ[i]? = some (some (V.ref a))) → H a = some o → H' a = some o)
    (ks : ∀ (i : Nat) (r : Bool) (m : Ms) (p : Addr), ρ'[i]? = some (some (.mt r m)) → σ'[i]? = some (some (.ref p)) → ∃ (j : Nat) (r' : Bool), ρ[j]? = some (some (.mt r' m)) ∧ σ[j]? = some (some (.ref p))) :
    ∀ (i : Nat) (r : Bool) (m : Ms) (p : Addr), ρ'[i]? = some (some (.mt r m)) → σ'[i]? = some (some (.ref p)) → ∃ Z, MeterAt b.mc H' p m Z ∧ ∀ q ∈ Z, Mk G' q ∧ (c.H0 q = none ∨ c.Z q) := S.mzk' (fun _ h => h.mono e) k ks
/-- a new object of no slot, laid into the heap alone -/
theorem SIG.alloc (S : SIG b c G ρ σ H) {p : Addr} {o : HO} (hp : H p = none) : SIG b c G ρ σ (upd H p o) := by
  have k : ∀ a u, H a = some u → upd H p o a = some u := fun a u e => by rw [upd_ne (ne_of_none e hp)]; exact e
  refine ⟨S.len, S.g0, fun a u e hm => k a u (S.gh a u e hm), fun a hm => by obtain ⟨xs, q⟩ := S.gm a hm; exact ⟨xs, k a _ q⟩, fun a u e m n z => k a u (S.fr a u e m n z), S.gn, fun i sv e => ?_, S.sp, S.nw, S.rf, tabs_new S.tb hp, S.ct, S.mzk (Same.refl G) (fun a o _ q => k a o q) (fun i r m p h1 h2 => ⟨i, r, h1, h2⟩), S.m1, S.zz, S.rk⟩
  obtain ⟨v, hv, r⟩ := S.sl i sv e
  exact ⟨v, hv, r.keep (Same.refl G) fun q u ho ev hq => ⟨k q u hq, by obtain ⟨q', _, e', _, g'⟩ := r.at ho; rw [ev] at e'; cases e'; exact g'⟩⟩
/-- the address p is no slot's own -/
def NoOwn (ρ : Ev) (σ : St) (p : Addr) : Prop := ∀ (i : Nat) (sv : Sv), ρ[i]? = some (some sv) → sv.own = true → σ[i]? ≠ some (some (.ref p))
theorem SIG.noOwn (S : SIG b c G ρ σ H) {p : Addr} (hp : H p = none) : NoOwn ρ σ p := fun i sv e ho q => by
  obtain ⟨v, hv, r⟩ := S.sl i sv e
  obtain ⟨q', u, e', h', _⟩ := r.at ho
  rw [hv, e'] at q
  cases q
  rw [hp] at h'
  cases h'
theorem SIG.fresh0 (S : SIG b c G ρ σ H) {p : Addr} (hp : H p = none) : c.H0 p = none := by
  cases q : c.H0 p with
  | none => rfl
  | some o =>
    by_cases hr : ∃ i f, (i, p, f) ∈ c.refs
    · obtain ⟨i, f, hi⟩ := hr
      obtain ⟨h1, sv, h2, h3, _⟩ := S.rf i p f hi
      exact absurd h1 (S.noOwn hp i sv h2 h3)
    · have := S.fr p o q (fun t ht z => by
        obtain ⟨ps, h1, _⟩ := S.tb t ht
        rw [z, hp] at h1
        cases h1) (fun i f hi => hr ⟨i, f, hi⟩) fun z => by
          obtain ⟨xs, h⟩ := S.gm p ((S.zz p z).mono S.g0)
          rw [hp] at h
          cases h
      rw [hp] at this
      cases this
/-- a tuple of the heap is new, or was there -/
theorem SIG.tup0 (S : SIG b c G ρ σ H) {p : Addr} {xs : List V} (hp : H p = some (.tup xs)) : c.H0 p = none ∨ c.H0 p = some (.tup xs) := by
  cases q : c.H0 p with
  | none => exact .inl rfl
  | some o =>
    by_cases hr : ∃ i f, (i, p, f) ∈ c.refs
    · obtain ⟨i, f, hi⟩ := hr
      obtain ⟨h1, sv, h2, h3, _⟩ := S.rf i p f hi
      obtain ⟨v, hv, r⟩ := S.sl i sv h2
      rw [h1] at hv
      cases hv
      obtain ⟨u, k1, k2⟩ := r.kind h3
      rw [hp] at k1
      cases k1
      cases k2
    · have := S.fr p o q (fun t ht z => by
        obtain ⟨ps, h1, _⟩ := S.tb t ht
        rw [z, hp] at h1
        cases h1) (fun i f hi => hr ⟨i, f, hi⟩) fun z => by
          obtain ⟨xs, h⟩ := S.gm p ((S.zz p z).mono S.g0)
          rw [hp] at h
          cases h
      rw [hp] at this
      exact .inr this.symm
/-- .. comes to the ground -/
theorem SIG.layT (S : SIG b c G ρ σ H) {p : Addr} {xs : List V} (hp : H p = some (.tup xs)) : ∃ G', Same G G' ∧ G' p = some (.tup xs) ∧ SIG b c G' ρ σ H := by
  cases hg : G p with
  | some o =>
    have hm : isMk o = false := by
      cases m : isMk o with
      | false => rfl
      | true =>
        obtain ⟨xs, h⟩ := S.gm p ⟨o, hg, m⟩
        rw [hp] at h
        cases h
    have := S.gh p o hg hm
    rw [hp] at this
    cases this
    exact ⟨G, Same.refl G, hg, S⟩
  | none =>
    have s1 : Same G (upd G p (.tup xs)) := fun a u e => by rw [upd_ne (ne_of_none e hg)]; exact e
    refine ⟨_, s1, upd_same, S.len, S.g0.trans s1, fun a u e hm => ?_, fun a hm => ?_, S.fr, fun a u e => ?_, fun i sv e => ?_, S.sp, S.nw, S.rf, S.tb, S.ct, S.mzk s1 (fun a o _ q => q) (fun i r m p h1 h2 => ⟨i, r, h1, h2⟩), S.m1, S.zz, S.rk⟩
    · by_cases ha : a = p
      · subst ha
        rw [upd_same] at e
        cases e
        exact hp
      · rw [upd_ne ha] at e
        exact S.gh a u e hm
    · obtain ⟨o, h1, h2⟩ := hm
      by_cases ha : a = p
      · subst ha
        rw [upd_same] at h1
        cases h1
        cases h2
      · rw [upd_ne ha] at h1
        exact S.gm a ⟨o, h1, h2⟩
    · by_cases ha : a = p
      · subst ha
        rw [upd_same] at e
        cases e
        rcases S.tup0 hp with z | z
        · exact .inr (.inl z)
        · exact .inr (.inr ⟨xs, rfl, z⟩)
      · rw [upd_ne ha] at e
        exact S.gn a u e
    · obtain ⟨v, hv, r⟩ := S.sl i sv e
      refine ⟨v, hv, r.keep s1 fun q u ho ev hq => ⟨hq, ?_⟩⟩
      obtain ⟨q', _, e', h', g'⟩ := r.at ho
      rw [ev] at e'
      cases e'
      have hne : q ≠ p := fun z => by
        subst z
        rw [ev] at r
        obtain ⟨u, k1, k2⟩ := r.kind ho
        rw [hp] at k1
        cases k1
        cases k2
      rw [upd_ne hne]
      exact g'
/-- an object of the heap that is no slot's own comes to the ground -/
theorem SIG.freeze (S : SIG b c G ρ σ H) {p : Addr} {o : HO} (hp : H p = some o) (hg : G p = none) (h0 : c.H0 p = none) (no : NoOwn ρ σ p) (ho : isMk o = false := by rfl) : Same G (upd G p o) ∧ SIG b c (upd G p o) ρ σ H := by
  have s1 : Same G (upd G p o) := fun a u e => by rw [upd_ne (ne_of_none e hg)]; exact e
  refine ⟨s1, S.len, S.g0.trans s1, fun a u e hm => ?_, fun a hm => ?_, S.fr, fun a u e => ?_, fun i sv e => ?_, S.sp, S.nw, S.rf, S.tb, S.ct, S.mzk s1 (fun a o _ q => q) (fun i r m p h1 h2 => ⟨i, r, h1, h2⟩), S.m1, S.zz, S.rk⟩
  · by_cases ha : a = p
    · subst ha
      rw [upd_same] at e
      cases e
      exact hp
    · rw [upd_ne ha] at e
      exact S.gh a u e hm
  · obtain ⟨u, h1, h2⟩ := hm
    by_cases ha : a = p
    · subst ha
      rw [upd_same] at h1
      cases h1
      rw [ho] at h2
      cases h2
    · rw [upd_ne ha] at h1
      exact S.gm a ⟨u, h1, h2⟩
  · by_cases ha : a = p
    · subst ha
      exact .inr (.inl h0)
    · rw [upd_ne ha] at e
      exact S.gn a u e
  · obtain ⟨v, hv, r⟩ := S.sl i sv e
    refine ⟨v, hv, r.keep s1 fun q u ho ev hq => ⟨hq, ?_⟩⟩
    have hne : q ≠ p := fun z => no i sv e ho (by rw [hv, ev, z])
    obtain ⟨q', _, e', _, g'⟩ := r.at ho
    rw [ev] at e'
    cases e'
    rw [upd_ne hne]
    exact g'
/-- a new frozen object -/
theorem SIG.lay (S : SIG b c G ρ σ H) {p : Addr} {o : HO} (hp : H p = none) (ho : isMk o = false := by rfl) : Same G (upd G p o) ∧ SIG b c (upd G p o) ρ σ (upd H p o) := by
  have hg : G p = none := S.free hp
  have n := S.noOwn hp
  exact (S.alloc (o := o) hp).freeze upd_same hg (S.fresh0 hp) n ho
/-- no table is ground -/
theorem SIG.gT (S : SIG b c G ρ σ H) {p : Addr × Str} (hp : p ∈ b.T) : G p.1 = none := by
  obtain ⟨h1, ps, h2⟩ := S.ct p hp
  cases e : G p.1 with
  | none => rfl
  | some o =>
    rcases S.gn _ _ e with z | z | ⟨xs, _, z⟩
    · rw [h1] at z; cases z
    · rw [h2] at z; cases z
    · rw [h2] at z; cases z
theorem SIG.hT (S : SIG b c G ρ σ H) : ∀ p ∈ b.T, G p.1 = none ∧ ∃ ps, H p.1 = some (.tbl ps) := fun p hp => ⟨S.gT hp, by
  obtain ⟨ps, h, _⟩ := S.tb p hp
  exact ⟨ps, h⟩⟩
theorem SIG.notT (S : SIG b c G ρ σ H) {p : Addr} {o : HO} (h : H p = some o) (n : HO.plain o = true) : ∀ q ∈ b.T, q.1 ≠ p := fun q hq z => by
  obtain ⟨ps, h1, _⟩ := S.tb q hq
  rw [z, h] at h1
  exact (plain_ne n).1 _ (Option.some.inj h1)
theorem getElem?_set_eq' {α : Type} (l : List α) (i j : Nat) (x : α) : (l.set i x)[j]? = if i = j then (if i < l.length then some x else none) else l[j]? := by
  rw [List.getElem?_set]
/-- the slot i may be stored to -/
def Open (c : Fc) (ρ : Ev) (i : Nat) : Prop := ∀ s, ρ[i]? = some (some s) → s.own = false ∨ (c.Fn ∧ s.isRef = false)
theorem SIG.noRef (S : SIG b c G ρ σ H) {i : Nat} (hr : Open c ρ i) : ∀ p f, (i, p, f) ∉ c.refs := fun p f hp => by
  obtain ⟨_, s, h1, h2, h3⟩ := S.rf i p f hp
  rcases hr s h1 with z | ⟨z, y⟩
  · rw [h2] at z; cases z
  · rw [h3, z i p f hp] at y; cases y
/-- a slot is set -/
theorem SIG.set (S : SIG b c G ρ σ H) {i : Nat} {v : V} {sv : Sv} (r : RS b.K b.C G H v sv) (hr : Open c ρ i)
    (ho : ∀ p, v = .ref p → sv.own = true → NoOwn ρ σ p ∧ c.H0 p = none) (hmt : sv.isMt = false := by rfl) : SIG b c G (ρ.set i (some sv)) (σ.set i (some v)) H := by
  have nr : ∀ p f, (i, p, f) ∉ c.refs := S.noRef hr
  have mt : ∀ {j s}, (ρ.set i (some sv))[j]? = some (some s) → s.isMt = true → i ≠ j ∧ ρ[j]? = some (some s) := fun {j s} e hs => by
    by_cases hj : i = j
    · subst hj
      rw [getElem?_set_eq', if_pos rfl] at e
      split at e
      · cases e
        rw [hmt] at hs
        cases hs
      · cases e
    · rw [List.getElem?_set_ne hj] at e
      exact ⟨hj, e⟩
  refine ⟨by rw [List.length_set, List.length_set]; exact S.len, S.g0, S.gh, S.gm, S.fr, S.gn, fun j s e => ?_, fun j k sj sk p e1 e2 o1 o2 a1 a2 => ?_, fun j s p e o1 a1 => ?_, fun j p f hj => ?_, S.tb, S.ct, S.mzk (Same.refl G) (fun a o _ q => q) (fun j r m p h1 h2 => ?_), fun j k sj sk h1 h2 g1 g2 => S.m1 j k sj sk (mt h1 g1).2 (mt h2 g2).2 g1 g2, S.zz, fun j p f s h1 h2 h3 => S.rk j p f s h1 (mt h2 h3).2 h3⟩
  case refine_5 =>
    obtain ⟨g1, g2⟩ := mt h1 rfl
    rw [List.getElem?_set_ne g1] at h2
    exact ⟨j, r, g2, h2⟩
  · by_cases hj : i = j
    · subst hj
      rw [getElem?_set_eq', if_pos rfl] at e
      split at e
      · rename_i hl
        cases e
        exact ⟨v, by rw [getElem?_set_eq', if_pos rfl, if_pos (by rw [← S.len]; exact hl)], r⟩
      · cases e
    · rw [List.getElem?_set_ne hj] at e
      obtain ⟨u, hu, q⟩ := S.sl j s e
      exact ⟨u, by rw [List.getElem?_set_ne hj]; exact hu, q⟩
  · by_cases hj : i = j
    · by_cases hk : i = k
      · rw [← hj, ← hk]
      · subst hj
        rw [getElem?_set_eq', if_pos rfl] at e1 a1
        rw [List.getElem?_set_ne hk] at e2 a2
        split at e1
        · cases e1
          split at a1
          · cases a1
            exact absurd a2 ((ho p rfl o1).1 k sk e2 o2)
          · cases a1
        · cases e1
    · by_cases hk : i = k
      · subst hk
        rw [getElem?_set_eq', if_pos rfl] at e2 a2
        rw [List.getElem?_set_ne hj] at e1 a1
        split at e2
        · cases e2
          split at a2
          · cases a2
            exact absurd a1 ((ho p rfl o2).1 j sj e1 o1)
          · cases a2
        · cases e2
      · rw [List.getElem?_set_ne hj] at e1 a1
        rw [List.getElem?_set_ne hk] at e2 a2
        exact S.sp j k sj sk p e1 e2 o1 o2 a1 a2
  · by_cases hj : i = j
    · subst hj
      rw [getElem?_set_eq', if_pos rfl] at e a1
      split at e
      · cases e
        split at a1
        · cases a1
          exact .inl (ho p rfl o1).2
        · cases a1
      · cases e
    · rw [List.getElem?_set_ne hj] at e a1
      exact S.nw j s p e o1 a1
  · have hj' : i ≠ j := fun z => nr p f (z ▸ hj)
    obtain ⟨h1, s, h2, h3⟩ := S.rf j p f hj
    exact ⟨by rw [List.getElem?_set_ne hj']; exact h1, s, by rw [List.getElem?_set_ne hj']; exact h2, h3⟩
/-- a slot is forgotten -/
theorem SIG.drop (S : SIG b c G ρ σ H) {i : Nat} (hr : Open c ρ i) (w : Option V) : SIG b c G (ρ.set i none) (σ.set i w) H := by
  have nr : ∀ p f, (i, p, f) ∉ c.refs := S.noRef hr
  have ne : ∀ {j s}, (ρ.set i none)[j]? = some (some s) → i ≠ j := fun {j s} e z => by
    subst z
    rw [getElem?_set_eq', if_pos rfl] at e
    split at e <;> cases e
  have old : ∀ {j s}, (ρ.set i none)[j]? = some (some s) → ρ[j]? = some (some s) := fun {j s} e => by
    have := ne e
    rw [List.getElem?_set_ne this] at e
    exact e
  refine ⟨by rw [List.length_set, List.length_set]; exact S.len, S.g0, S.gh, S.gm, S.fr, S.gn, fun j s e => ?_, fun j k sj sk p e1 e2 o1 o2 a1 a2 => ?_, fun j s p e o1 a1 => ?_, fun j p f hj => ?_, S.tb, S.ct, S.mzk (Same.refl G) (fun a o _ q => q) (fun j r m p h1 h2 => ⟨j, r, old h1, by rw [List.getElem?_set_ne (ne h1)] at h2; exact h2⟩), fun j k sj sk h1 h2 g1 g2 => S.m1 j k sj sk (old h1) (old h2) g1 g2, S.zz, fun j p f s h1 h2 h3 => S.rk j p f s h1 (old h2) h3⟩
  · have hj := ne e
    rw [List.getElem?_set_ne hj] at e
    obtain ⟨u, hu, q⟩ := S.sl j s e
    exact ⟨u, by rw [List.getElem?_set_ne hj]; exact hu, q⟩
  · have hj := ne e1
    have hk := ne e2
    rw [List.getElem?_set_ne hj] at e1 a1
    rw [List.getElem?_set_ne hk] at e2 a2
    exact S.sp j k sj sk p e1 e2 o1 o2 a1 a2
  · have hj := ne e
    rw [List.getElem?_set_ne hj] at e a1
    exact S.nw j s p e o1 a1
  · have hj' : i ≠ j := fun z => nr p f (z ▸ hj)
    obtain ⟨h1, s, h2, h3⟩ := S.rf j p f hj
    exact ⟨by rw [List.getElem?_set_ne hj']; exact h1, s, by rw [List.getElem?_set_ne hj']; exact h2, h3⟩
/-- a slot's own object is changed -/
theorem SIG.mut (S : SIG b c G ρ σ H) {i : Nat} {p : Addr} {o : HO} {sv sv' : Sv} (e : ρ[i]? = some (some sv)) (ho : sv.own = true) (hp : σ[i]? = some (some (.ref p))) (hr : sv'.isRef = sv.isRef) (ho' : sv'.own = true)
    (r : RS b.K b.C G (upd H p o) (.ref p) sv') (hmt : sv'.isMt = false := by rfl) : SIG b c G (ρ.set i (some sv')) σ (upd H p o) := by
  have hil : i < ρ.length := (List.getElem?_eq_some_iff.mp e).1
  have gp : G p = none := by
    obtain ⟨v, hv, q⟩ := S.sl i sv e
    obtain ⟨p', _, e', _, g'⟩ := q.at ho
    rw [hp] at hv
    cases hv
    cases e'
    exact g'
  have kp : LamX.Tabs b.T (upd H p o) := by
    obtain ⟨v, hv, q⟩ := S.sl i sv e
    rw [hp] at hv
    cases hv
    obtain ⟨o1, h1, h2⟩ := q.kind ho
    exact tabs_mut S.tb h1 (plain_ne h2).1 (plain_ne h2).2
  have get : ∀ {j s}, (ρ.set i (some sv'))[j]? = some (some s) → (j = i ∧ s = sv') ∨ (i ≠ j ∧ ρ[j]? = some (some s)) := fun {j s} q => by
    by_cases hj : i = j
    · subst hj
      rw [getElem?_set_eq', if_pos rfl, if_pos hil] at q
      cases q
      exact .inl ⟨rfl, rfl⟩
    · rw [List.getElem?_set_ne hj] at q
      exact .inr ⟨hj, q⟩
  have gmt : ∀ {j s}, (ρ.set i (some sv'))[j]? = some (some s) → s.isMt = true → i ≠ j ∧ ρ[j]? = some (some s) := fun {j s} q hs => by
    rcases get q with ⟨_, rfl⟩ | q
    · rw [hmt] at hs
      cases hs
    · exact q
  refine ⟨by rw [List.length_set]; exact S.len, S.g0, fun a u q hm => ?_, fun a hm => ?_, fun a u q m n zz => ?_, S.gn, fun j s q => ?_, fun j k sj sk a q1 q2 o1 o2 a1 a2 => ?_, fun j s a q o1 a1 => ?_, fun j a f hj => ?_, kp, S.ct, ?_, fun j k sj sk h1 h2 g1 g2 => S.m1 j k sj sk (gmt h1 g1).2 (gmt h2 g2).2 g1 g2, S.zz, fun j p f s h1 h2 h3 => S.rk j p f s h1 (gmt h2 h3).2 h3⟩
  case refine_8 =>
    intro j rj m a h1 h2
    obtain ⟨g1, g2⟩ := gmt h1 rfl
    obtain ⟨Z, z1, z2⟩ := S.mz j rj m a g2 h2
    refine ⟨Z, z1.keep fun x u hx hq => ?_, z2⟩
    have hne : x ≠ p := fun z => by
      rcases hx with hx | hx | ⟨xs, hx⟩
      · exact g1 (S.sp i j sv _ p e g2 ho rfl hp (by rw [h2, ← hx, z]))
      · exact (z2 x hx).1.ne gp z
      · subst hx
        obtain ⟨v, hv, q⟩ := S.sl i sv e
        rw [hp] at hv
        cases hv
        obtain ⟨o1, w1, w2⟩ := q.kind ho
        rw [z, w1] at hq
        cases hq
        cases w2
    rw [upd_ne hne]
    exact hq
  · rw [upd_ne (ne_of_none q gp)]
    exact S.gh a u q hm
  · rw [upd_ne (hm.ne gp)]
    exact S.gm a hm
  · have hne : a ≠ p := fun z => by
      subst z
      rcases S.nw i sv a e ho hp with z | z
      · rw [q] at z
        cases z
      · obtain ⟨f, z⟩ := z
        exact n i f z
    rw [upd_ne hne]
    exact S.fr a u q m n zz
  · rcases get q with ⟨rfl, rfl⟩ | ⟨hj, q⟩
    · exact ⟨.ref p, hp, r⟩
    · obtain ⟨v, hv, z⟩ := S.sl j s q
      refine ⟨v, hv, z.keep (Same.refl G) fun a u oo ev ha => ?_⟩
      have hne : a ≠ p := fun y => hj (S.sp i j sv s p e q ho oo hp (by rw [hv, ev, y]))
      obtain ⟨q', _, e', _, g'⟩ := z.at oo
      rw [ev] at e'
      cases e'
      exact ⟨by rw [upd_ne hne]; exact ha, g'⟩
  · rcases get q1 with ⟨z1, w1⟩ | ⟨hj, y1⟩
    · rcases get q2 with ⟨z2, w2⟩ | ⟨hk, y2⟩
      · rw [z1, z2]
      · rw [z1] at a1 ⊢
        exact S.sp i k sv sk a e y2 ho o2 a1 a2
    · rcases get q2 with ⟨z2, w2⟩ | ⟨hk, y2⟩
      · rw [z2] at a2 ⊢
        exact S.sp j i sj sv a y1 e o1 ho a1 a2
      · exact S.sp j k sj sk a y1 y2 o1 o2 a1 a2
  · rcases get q with ⟨rfl, rfl⟩ | ⟨hj, q⟩
    · exact S.nw _ sv a e ho a1
    · exact S.nw j s a q o1 a1
  · obtain ⟨h1, s, h2, h3⟩ := S.rf j a f hj
    by_cases z : i = j
    · subst z
      rw [e] at h2
      cases h2
      exact ⟨h1, sv', by rw [getElem?_set_eq', if_pos rfl, if_pos hil], ho', by rw [hr]; exact h3.2⟩
    · exact ⟨h1, s, by rw [List.getElem?_set_ne z]; exact h2, h3⟩
/-- a slot's own list comes to the ground -/
theorem SIG.share (S : SIG b c G ρ σ H) (hb : c.Fn) {i : Nat} {xs : List Dt} (e : ρ[i]? = some (some (.ls false xs))) : ∃ G', Same G G' ∧ SIG b c G' (ρ.set i (some (.d (.list xs)))) σ H := by
  obtain ⟨v, hv, p, vs, rfl, hp, gp, rs⟩ := S.sl i _ e
  have op : Open c ρ i := fun s q => by rw [e] at q; cases q; exact .inr ⟨hb, rfl⟩
  have h0 : c.H0 p = none := by
    rcases S.nw i _ p e rfl hv with z | z
    · exact z
    · obtain ⟨f, z⟩ := z
      exact absurd z (S.noRef op p f)
  have D := S.drop (i := i) op (some (.ref p))
  have es : σ.set i (some (.ref p)) = σ := by
    apply List.ext_getElem?
    intro j
    by_cases hj : i = j
    · subst hj
      rw [getElem?_set_eq', if_pos rfl, if_pos (List.getElem?_eq_some_iff.mp hv).1, hv]
    · rw [List.getElem?_set_ne hj]
  rw [es] at D
  have no : NoOwn (ρ.set i none) σ p := fun j s q o1 a1 => by
    have hj : i ≠ j := fun z => by
      subst z
      rw [getElem?_set_eq', if_pos rfl] at q
      split at q <;> cases q
    rw [List.getElem?_set_ne hj] at q
    exact hj (S.sp i j _ s p e q rfl o1 hv a1)
  obtain ⟨s1, D2⟩ := D.freeze hp gp h0 no
  refine ⟨_, s1, ?_⟩
  have D3 := D2.set (i := i) (v := .ref p) (sv := .d (.list xs)) (.lst upd_same (Rps.mono s1 _ _ rs)) (fun s q => by
    rw [getElem?_set_eq', if_pos rfl] at q
    split at q <;> cases q) (fun q _ z => by cases z)
  rw [List.set_set, es] at D3
  exact D3
end
end G8
namespace G8
open PySem L2
/-! judgements -/
def bindM {α β : Type} (f : M α) (g : α → M β) : M β := fun ρ => match f ρ with
  | .ok a ρ' => g a ρ'
  | .err k ρ' => .err k ρ'
  | .bad => .bad
def retM {α : Type} (a : α) : M α := fun ρ => .ok a ρ
def badM {α : Type} : M α := fun _ => .bad
def optM {α : Type} (g : Ev → Option α) : M α := fun ρ => match g ρ with
  | some a => .ok a ρ
  | none => .bad
def slotD : Option (Option Sv) → Option Dt
  | some (some (.d x)) => some x
  | some (some (.ls _ xs)) => some (.list xs)
  | _ => none
def slotZ : Option (Option Sv) → Option Dt
  | some (some (.d x)) => some x
  | _ => none
def res (ρ : Ev) : Av → Option Dt
  | .d x => some x
  | .s i => slotD ρ[i]?
def fzv (ρ : Ev) : Av → Option Dt
  | .d x => some x
  | .s i => slotZ ρ[i]?
def RA (K : Fg) (G : Hp) (σ : St) (v : V) : Av → Prop
  | .d x => Rp K G v x
  | .s i => σ[i]? = some (some v)
theorem RA.mono {K : Fg} {G G' : Hp} {σ : St} {v : V} {a : Av} (e : Same G G') (h : RA K G σ v a) : RA K G' σ v a := by
  cases a with
  | d x => exact Rp.mono e _ _ h
  | s i => exact h
/-- readable: frozen, or a list of the heap whose items are -/
def RO (K : Fg) (G H : Hp) (v : V) (x : Dt) : Prop := Rp K G v x ∨ ∃ p vs xs, v = .ref p ∧ x = .list xs ∧ H p = some (.lst vs) ∧ Rps K G vs xs
theorem RO.dp {K : Fg} {G H : Hp} {v : V} {x : Dt} (e : SameG G H) (h : RO K G H v x) : Dp K H v x := by
  rcases h with h | ⟨p, vs, xs, rfl, rfl, h1, h2⟩
  · exact Rp.dp _ _ (Rp.monoG e _ _ h)
  · exact .lst (SqL.of h1) (Rps.dp _ _ (Rps.monoG e _ _ h2))
theorem RO.list {K : Fg} {G H : Hp} {v : V} {xs : List Dt} (e : SameG G H) (h : RO K G H v (.list xs)) : ∃ p vs, v = .ref p ∧ H p = some (.lst vs) ∧ Rps K G vs xs := by
  rcases h with h | ⟨p, vs, ys, rfl, q, h1, h2⟩
  · cases h with
    | lst h1 h2 => exact ⟨_, _, rfl, e _ _ h1 rfl, h2⟩
  · cases q
    exact ⟨p, vs, rfl, h1, h2⟩
theorem RO.tup {K : Fg} {G H : Hp} {v : V} {xs : List Dt} (h : RO K G H v (.tuple xs)) : ∃ p vs, v = .ref p ∧ SqT K G p vs ∧ Rps K G vs xs := by
  rcases h with h | ⟨p, vs, ys, rfl, q, h1, h2⟩
  · cases h with
    | tup h1 h2 => exact ⟨_, _, rfl, h1.sq, h2⟩
  · cases q
theorem RO.int {K : Fg} {G H : Hp} {v : V} {i : Int} (h : RO K G H v (.int i)) : v = .int i := by
  rcases h with h | ⟨p, vs, ys, rfl, q, h1, h2⟩
  · cases h; rfl
  · cases q
theorem RO.bool {K : Fg} {G H : Hp} {v : V} {i : Bool} (h : RO K G H v (.bool i)) : v = .bl i := by
  rcases h with h | ⟨p, vs, ys, rfl, q, h1, h2⟩
  · cases h; rfl
  · cases q
theorem RO.str {K : Fg} {G H : Hp} {v : V} {i : Str} (h : RO K G H v (.str i)) : v = .str i := by
  rcases h with h | ⟨p, vs, ys, rfl, q, h1, h2⟩
  · cases h; rfl
  · cases q
theorem RO.none {K : Fg} {G H : Hp} {v : V} (h : RO K G H v .none) : v = .non := by
  rcases h with h | ⟨p, vs, ys, rfl, q, h1, h2⟩
  · cases h; rfl
  · cases q
theorem RA.res {b : Bs} {c : Fc} {G H : Hp} {ρ : Ev} {σ : St} {v : V} {a : Av} {x : Dt} (S : SIG b c G ρ σ H) (h : RA b.K G σ v a) (e : res ρ a = some x) : RO b.K G H v x := by
  cases a with
  | d y => cases e; exact .inl h
  | s i =>
    have e : slotD ρ[i]? = some x := e
    unfold slotD at e
    split at e
    · rename_i y q
      cases e
      obtain ⟨u, hu, r⟩ := S.sl i _ q
      rw [show σ[i]? = some (some v) from h] at hu
      cases hu
      exact .inl r
    · rename_i b ys q
      cases e
      obtain ⟨u, hu, p, vs, r1, r2, r3, r4⟩ := S.sl i _ q
      rw [show σ[i]? = some (some v) from h] at hu
      cases hu
      exact .inr ⟨p, vs, ys, r1, rfl, r2, r4⟩
    · cases e
theorem RA.fz {b : Bs} {c : Fc} {G H : Hp} {ρ : Ev} {σ : St} {v : V} {a : Av} {x : Dt} (S : SIG b c G ρ σ H) (h : RA b.K G σ v a) (e : fzv ρ a = some x) : Rp b.K G v x := by
  cases a with
  | d y => cases e; exact h
  | s i =>
    have e : slotZ ρ[i]? = some x := e
    unfold slotZ at e
    split at e
    · rename_i y q
      cases e
      obtain ⟨u, hu, r⟩ := S.sl i _ q
      rw [show σ[i]? = some (some v) from h] at hu
      cases hu
      exact r
    · cases e
def Post {α : Type} (b : Bs) (c : Fc) (W : WX) (G : Hp) (σ : St) (P : α → Ev → Hp → Hp → Prop) : Out α → Prop
  | .ok a ρ => ∀ H' G', Same G G' → SIG b c G' ρ σ H' → P a ρ G' H'
  | .err k ρ => ∀ H' G', Same G G' → SIG b c G' ρ σ H' → W (.ref (b.C k)) none σ H'
  | .bad => False
section
variable {α β : Type} {b : Bs} {c : Fc} {W : WX} {G G' H : Hp} {σ : St} {ρ : Ev} {P P' : α → Ev → Hp → Hp → Prop}
theorem Post.mono {o : Out α} (e : Same G G') (h : Post b c W G σ P o) : Post b c W G' σ P o := by
  cases o with
  | ok a ρ => exact fun H1 G1 e1 S1 => h H1 G1 (e.trans e1) S1
  | err k ρ => exact fun H1 G1 e1 S1 => h H1 G1 (e.trans e1) S1
  | bad => exact h
theorem Post.imp {o : Out α} (h : Post b c W G σ P o) (w : ∀ a ρ1 G1 H1, Same G G1 → SIG b c G1 ρ1 σ H1 → P a ρ1 G1 H1 → P' a ρ1 G1 H1) : Post b c W G σ P' o := by
  cases o with
  | ok a ρ => exact fun H1 G1 e1 S1 => w a ρ G1 H1 e1 S1 (h H1 G1 e1 S1)
  | err k ρ => exact h
  | bad => exact h
theorem Post.bind {f : M β} {g : β → M α} (h : Post b c W G σ P (bindM f g ρ)) : Post b c W G σ (fun z ρ1 G1 _ => Post b c W G1 σ P (g z ρ1)) (f ρ) := by
  unfold bindM at h
  cases e : f ρ with
  | ok z ρ1 =>
    rw [e] at h
    exact fun H1 G1 e1 S1 => Post.mono e1 h
  | err k ρ1 =>
    rw [e] at h
    exact h
  | bad =>
    rw [e] at h
    exact h
theorem Post.opt {g : Ev → Option α} (h : Post b c W G σ P (optM g ρ)) (S : SIG b c G ρ σ H) : ∃ a, g ρ = some a ∧ P a ρ G H := by
  unfold optM at h
  cases e : g ρ with
  | some a =>
    rw [e] at h
    exact ⟨a, rfl, h H G (Same.refl G) S⟩
  | none =>
    rw [e] at h
    exact h.elim
theorem Post.ret {a : α} (h : Post b c W G σ P (retM a ρ)) (S : SIG b c G ρ σ H) : P a ρ G H := h H G (Same.refl G) S
end
/-- what a new list, a new dict, or data is -/
def Rv.new : Rv → Bool
  | .d _ => false
  | _ => true
def RN (b : Bs) (c : Fc) (G H : Hp) (v : V) : Rv → Prop
  | .d x => Rp b.K G v x
  | .l xs => ∃ p vs, v = .ref p ∧ H p = some (.lst vs) ∧ G p = none ∧ Rps b.K G vs xs ∧ c.H0 p = none
  | .k kvs => ∃ p vs, v = .ref p ∧ H p = some (.dK vs) ∧ G p = none ∧ RpK b.K G vs kvs ∧ c.H0 p = none
  | .t kvs => ∃ p vs, v = .ref p ∧ H p = some (.dT vs) ∧ G p = none ∧ RpK b.K G vs kvs ∧ c.H0 p = none
def Apart (ρ : Ev) (σ : St) (v : V) (r : Rv) : Prop := ∀ p, v = .ref p → r.new = true → NoOwn ρ σ p
def tE (b : Bs) (W : WX) (f : M Av) : TE := fun σ H Q => ∃ c G ρ, SIG b c G ρ σ H ∧ Post b c W G σ (fun a _ G' H' => ∀ v, RA b.K G' σ v a → Q v H') (f ρ)
def tV (b : Bs) (W : WX) (f : M Rv) : TE := fun σ H Q => ∃ c G ρ, SIG b c G ρ σ H ∧ Post b c W G σ (fun r ρ' G' H' => ∀ v, RN b c G' H' v r → Apart ρ' σ v r → Q v H') (f ρ)
def tT (b : Bs) (W : WX) (f : M Bool) : TT := fun σ H Q => ∃ c G ρ, SIG b c G ρ σ H ∧ Post b c W G σ (fun b _ _ H' => Q b H') (f ρ)
def Ras (K : Fg) (G : Hp) (σ : St) : List V → List Av → Prop := Paired (RA K G σ)
def tL (b : Bs) (W : WX) (f : M (List Av)) : TA := fun σ H Q => ∃ c G ρ, SIG b c G ρ σ H ∧ Post b c W G σ (fun as _ G' H' => ∀ vs, Ras b.K G' σ vs as → Q vs H') (f ρ)
def PostS (b : Bs) (c : Fc) (W : WX) (G : Hp) (D : Ends) : Out Fl → Prop
  | .ok .nx ρ => ∀ σ H' G', Same G G' → SIG b c G' ρ σ H' → D.nx σ H'
  | .ok .bk ρ => ∀ σ H' G', Same G G' → SIG b c G' ρ σ H' → D.bk σ H'
  | .ok .ct ρ => ∀ σ H' G', Same G G' → SIG b c G' ρ σ H' → D.ct σ H'
  | .ok (.rt r) ρ => ∀ v σ H' G', Same G G' → SIG b c G' ρ σ H' → RN b c G' H' v r → D.rt v H'
  | .err k ρ => ∀ σ H' G', Same G G' → SIG b c G' ρ σ H' → W (.ref (b.C k)) none σ H'
  | .bad => False
def tS (b : Bs) (W : WX) (f : M Fl) : TS := fun D σ H => ∃ c G ρ, c.Fn ∧ SIG b c G ρ σ H ∧ PostS b c W G D (f ρ)
theorem PostS.mono {b : Bs} {c : Fc} {W : WX} {G G' : Hp} {D : Ends} {o : Out Fl} (e : Same G G') (h : PostS b c W G D o) : PostS b c W G' D o := by
  cases o with
  | ok a ρ =>
    cases a with
    | nx => exact fun σ H1 G1 e1 S1 => h σ H1 G1 (e.trans e1) S1
    | bk => exact fun σ H1 G1 e1 S1 => h σ H1 G1 (e.trans e1) S1
    | ct => exact fun σ H1 G1 e1 S1 => h σ H1 G1 (e.trans e1) S1
    | rt r => exact fun v σ H1 G1 e1 S1 => h v σ H1 G1 (e.trans e1) S1
  | err k ρ => exact fun σ H1 G1 e1 S1 => h σ H1 G1 (e.trans e1) S1
  | bad => exact h
section
variable {X : Cx} {e : Expr}
theorem weakE {t t' : TE} (h : PE X e t) (w : ∀ σ H Q, t' σ H Q → t σ H Q) : PE X e t' := ⟨fun pins s σ H Q I q => h.run pins s σ H Q I (w σ H Q q)⟩
theorem weakT {t t' : TT} (h : PT X e t) (w : ∀ σ H Q, t' σ H Q → t σ H Q) : PT X e t' := ⟨fun pins s σ H Q I q => h.run pins s σ H Q I (w σ H Q q)⟩
theorem weakW {t t' : TT} (h : PW X e t) (w : ∀ σ H Q, t' σ H Q → t σ H Q) : PW X e t' := ⟨fun wh pins s σ H Q I q => h.run wh pins s σ H Q I (w σ H Q q)⟩
theorem weakA {es : List Expr} {t t' : TA} (h : PA X es t) (w : ∀ σ H Q, t' σ H Q → t σ H Q) : PA X es t' := ⟨fun p pins s σ H Q I q => h.run p pins s σ H Q I (w σ H Q q)⟩
theorem weakS {st : Stmt} {t t' : TS} (h : PS X st t) (w : ∀ D σ H, t' D σ H → t D σ H) : PS X st t' := ⟨fun pins s σ H D I q => h.run pins s σ H D I (w D σ H q)⟩
theorem weakB {st : List Stmt} {t t' : TS} (h : PSs X st t) (w : ∀ D σ H, t' D σ H → t D σ H) : PSs X st t' := ⟨fun pins s σ H D I q => h.run pins s σ H D I (w D σ H q)⟩
end
/-! names, constants, conversions -/
def varM (i : Nat) : M Av := fun ρ => match ρ[i]? with
  | some (some _) => .ok (.s i) ρ
  | _ => .bad
def frzM (f : M Rv) : M Av := bindM f fun r => match r with
  | .d x => retM (.d x)
  | .l xs => retM (.d (.list xs))
  | _ => badM
def dataM (f : M Av) : M Rv := bindM f fun a => optM fun ρ => (fzv ρ a).map Rv.d
section
variable {X : Cx} {b : Bs} {W : WX} {e : Expr} {f : M Av}
theorem m_var (i : Nat) {x : Str} {pos : Pos} (h : PE X (.Name x pos) (tVar i)) : PE X (.Name x pos) (tE b W (varM i)) := weakE h fun σ H Q ⟨c, G, ρ, S, q⟩ => by
  unfold varM at q
  split at q
  · rename_i sv hs
    obtain ⟨v, hv, _⟩ := S.sl i sv hs
    exact ⟨v, hv, q H G (Same.refl G) S v hv⟩
  · exact q.elim
theorem m_const {v : V} {x : Dt} (h : PE X e (tC v)) (r : ∀ K G, Rp K G v x) : PE X e (tE b W (retM (.d x))) := weakE h fun σ H Q ⟨c, G, ρ, S, q⟩ => q.ret S v (r _ _)
theorem m_int {i j pos} : PE X (.Constant (.int i) j pos) (tE b W (retM (.d (.int i)))) := m_const pe_int fun _ _ => .int i
theorem m_bl {i j pos} : PE X (.Constant (.bool i) j pos) (tE b W (retM (.d (.bool i)))) := m_const pe_bl fun _ _ => .bl i
theorem m_non {j pos} : PE X (.Constant .none j pos) (tE b W (retM (.d .none))) := m_const pe_non fun _ _ => .non
theorem m_str {i j pos} : PE X (.Constant (.str i) j pos) (tE b W (retM (.d (.str i)))) := m_const pe_str fun _ _ => .str i
theorem m_frz {f : M Rv} (h : PE X e (tV b W f)) : PE X e (tE b W (frzM f)) := weakE h fun σ H Q ⟨c, G, ρ, S, q⟩ => by
  refine ⟨c, G, ρ, S, (Post.bind q).imp fun r ρ1 G1 H1 e1 S1 q1 v hv ap => ?_⟩
  cases r with
  | d x => exact q1.ret S1 v hv
  | l xs =>
    obtain ⟨p, vs, rfl, h1, h2, h3, h4⟩ := hv
    obtain ⟨e2, S2⟩ := S1.freeze h1 h2 h4 (ap p rfl rfl)
    exact q1 H1 _ e2 S2 (.ref p) (.lst upd_same (Rps.mono e2 _ _ h3))
  | k kvs => exact q1.elim
  | t kvs => exact q1.elim
theorem m_data (h : PE X e (tE b W f)) : PE X e (tV b W (dataM f)) := weakE h fun σ H Q ⟨c, G, ρ, S, q⟩ => by
  refine ⟨c, G, ρ, S, (Post.bind q).imp fun a ρ1 G1 H1 e1 S1 q1 v hv => ?_⟩
  obtain ⟨r, h1, h2⟩ := q1.opt S1
  cases h : fzv ρ1 a with
  | none => rw [h] at h1; cases h1
  | some x =>
    rw [h] at h1
    cases h1
    exact h2 v (hv.fz S1 h) fun p _ z => by cases z
end
/-! operators: two operands, one -/
def bin2 (g : Dt → Dt → Option Rv) (fa fb : M Av) : M Rv := bindM fa fun a => bindM fb fun b => optM fun ρ => (res ρ a).bind fun x => (res ρ b).bind fun y => g x y
def un1 (g : Dt → Option Rv) (fa : M Av) : M Rv := bindM fa fun a => optM fun ρ => (res ρ a).bind g
/-- a rule on values does what g says of data -/
def Does2 (b : Bs) (r : R2) (g : Dt → Dt → Option Rv) : Prop := ∀ {c : Fc} {G H : Hp} {ρ : Ev} {σ : St} {x y : V} {dx dy : Dt} {z : Rv} {Q : VK}, SIG b c G ρ σ H → RO b.K G H x dx → RO b.K G H y dy → g dx dy = some z →
  (∀ v H' G', Same G G' → SIG b c G' ρ σ H' → RN b c G' H' v z → Apart ρ σ v z → Q v H') → r x y H Q
def Does1 (b : Bs) (r : V → Hp → VK → Prop) (g : Dt → Option Rv) : Prop := ∀ {c : Fc} {G H : Hp} {ρ : Ev} {σ : St} {x : V} {dx : Dt} {z : Rv} {Q : VK}, SIG b c G ρ σ H → RO b.K G H x dx → g dx = some z →
  (∀ v H' G', Same G G' → SIG b c G' ρ σ H' → RN b c G' H' v z → Apart ρ σ v z → Q v H') → r x H Q
section
variable {X : Cx} {b : Bs} {W : WX} {a a2 e : Expr} {fa fb : M Av}
theorem bin_core {r : R2} {g : Dt → Dt → Option Rv} (dz : Does2 b r g) {σ : St} {H : Hp} {Q : VK} (h : tV b W (bin2 g fa fb) σ H Q) : tOp r (tE b W fa) (tE b W fb) σ H Q := by
  obtain ⟨c, G, ρ, S, q⟩ := h
  refine ⟨c, G, ρ, S, (Post.bind q).imp fun aa ρ1 G1 H1 e1 S1 q1 v hv => ⟨c, G1, ρ1, S1, (Post.bind q1).imp fun ab ρ2 G2 H2 e2 S2 q2 u hu => ?_⟩⟩
  obtain ⟨z, h1, h2⟩ : ∃ z, _ = some z ∧ ∀ v' H' G', Same G2 G' → SIG b c G' ρ2 σ H' → RN b c G' H' v' z → Apart ρ2 σ v' z → Q v' H' := by
    unfold optM at q2
    split at q2
    · rename_i z hz
      exact ⟨z, hz, fun v' H' G' ee SS rr ap => q2 H' G' ee SS v' rr ap⟩
    · exact q2.elim
  dsimp only at h1
  cases hx : res ρ2 aa with
  | none => rw [hx] at h1; cases h1
  | some x =>
    cases hy : res ρ2 ab with
    | none => rw [hx, hy] at h1; cases h1
    | some y =>
      rw [hx, hy] at h1
      exact dz S2 ((hv.mono e2).res S2 hx) (hu.res S2 hy) h1 h2
theorem un_core {r : V → Hp → VK → Prop} {g : Dt → Option Rv} (dz : Does1 b r g) {σ : St} {H : Hp} {Q : VK} (h : tV b W (un1 g fa) σ H Q) : tUn r (tE b W fa) σ H Q := by
  obtain ⟨c, G, ρ, S, q⟩ := h
  refine ⟨c, G, ρ, S, (Post.bind q).imp fun a ρ1 G1 H1 e1 S1 q1 v hv => ?_⟩
  unfold optM at q1
  split at q1
  · rename_i z hz
    dsimp only at hz
    cases hx : res ρ1 a with
    | none => rw [hx] at hz; cases hz
    | some x =>
      rw [hx] at hz
      exact dz S1 (hv.res S1 hx) hz fun v' H' G' ee SS rr ap => q1 H' G' ee SS v' rr ap
  · exact q1.elim
theorem m_op {op : Operator} {r : R2} {g : Dt → Dt → Option Rv} {pos : Pos} (ho : OpR X (binaryOp op) r) (dz : Does2 b r g) (ha : PE X a (tE b W fa)) (hb : PE X a2 (tE b W fb)) : PE X (.BinOp a op a2 pos) (tV b W (bin2 g fa fb)) :=
  weakE (pe_op ho ha hb) fun _ _ _ h => bin_core dz h
theorem m_cmp {op : CmpOp} {r : R2} {g : Dt → Dt → Option Rv} {pos : Pos} (ho : OpR X (compareOp op) r) (dz : Does2 b r g) (ha : PE X a (tE b W fa)) (hb : PE X a2 (tE b W fb)) (hm : behindInMarks op a2 = false) : PE X (.Compare a [op] [a2] pos) (tV b W (bin2 g fa fb)) :=
  weakE (pe_cmpR ho ha hb hm) fun _ _ _ h => bin_core dz h
theorem m_ix {r : R2} {g : Dt → Dt → Option Rv} {pos : Pos} (ho : IxR X r) (dz : Does2 b r g) (ha : PE X a (tE b W fa)) (hb : PE X a2 (tE b W fb)) (hs : PlainIx a2) : PE X (.Subscript a a2 pos) (tV b W (bin2 g fa fb)) :=
  weakE (pe_ix ho ha hb hs) fun _ _ _ h => bin_core dz h
theorem m_un {op : UnaryOp} {r : V → Hp → VK → Prop} {g : Dt → Option Rv} {pos : Pos} (ho : UnR X (unaryOp op) r) (dz : Does1 b r g) (ha : PE X a (tE b W fa)) : PE X (.UnaryOp op a pos) (tV b W (un1 g fa)) :=
  weakE (pe_un ho ha) fun _ _ _ h => un_core dz h
end
end G8
namespace G8
open PySem L2
/-! tests -/
def truth : Dt → Option Bool
  | .none => some false
  | .bool b => some b
  | .int i => some (i != 0)
  | .str x => if x.length ≤ 1000000 then some ((x.length : Int) != 0) else none
  | .list xs => some (!xs.isEmpty)
  | .tuple xs => some (!xs.isEmpty)
  | .dict _ => none
def slotT : Option (Option Sv) → Option Bool
  | some (some (.d x)) => truth x
  | some (some (.ls _ xs)) => some (!xs.isEmpty)
  | some (some (.scr ns)) => some (!ns.isEmpty)
  | _ => none
def tru (ρ : Ev) : Av → Option Bool
  | .d x => truth x
  | .s i => slotT ρ[i]?
def testM (fa : M Av) : M Bool := bindM fa fun a => optM fun ρ => tru ρ a
def andM (fa fb : M Bool) : M Bool := bindM fa fun b => match b with
  | true => fb
  | false => retM false
def orM (fa fb : M Bool) : M Bool := bindM fa fun b => match b with
  | true => retM true
  | false => fb
def notM (fa : M Bool) : M Bool := bindM fa fun b => retM (!b)
def andV (fa fb : M Av) : M Av := bindM fa fun a => bindM (optM fun ρ => tru ρ a) fun b => match b with
  | true => fb
  | false => retM a
def orV (fa fb : M Av) : M Av := bindM fa fun a => bindM (optM fun ρ => tru ρ a) fun b => match b with
  | true => retM a
  | false => fb
def notV (fa : M Av) : M Av := bindM (testM fa) fun b => retM (.d (.bool (!b)))
def ifM {α : Type} (ft : M Bool) (fa fb : M α) : M α := bindM ft fun b => match b with
  | true => fa
  | false => fb
theorem isEmpty_rps {K : Fg} {G : Hp} {vs : List V} {ds : List Dt} (h : Rps K G vs ds) : ds.isEmpty = vs.isEmpty := by
  have := h.length
  cases vs <;> cases ds <;> first | rfl | (simp at this)
theorem truth_of {K : Fg} {G H : Hp} {v : V} {x : Dt} {k : Bool} (e : SameG G H) (h : RO K G H v x) (q : truth x = some k) : TruV K v H k := by
  cases x with
  | none => cases q; rw [h.none]; rfl
  | bool b => cases q; rw [h.bool]; rfl
  | int i => cases q; rw [h.int]; rfl
  | str y =>
    rw [h.str]
    have q : (if y.length ≤ 1000000 then some ((y.length : Int) != 0) else none) = some k := q
    split at q
    · rename_i hl
      cases q
      exact ⟨Nat.le_trans hl (by decide), rfl⟩
    · cases q
  | list ds =>
    obtain ⟨p, vs, rfl, h1, h2⟩ := h.list e
    cases q
    exact .inl ⟨vs, SqL.of h1, by rw [isEmpty_rps h2]⟩
  | tuple ds =>
    obtain ⟨p, vs, rfl, h1, h2⟩ := h.tup
    cases q
    exact .inr (.inl ⟨vs, same_sqT e h1, by rw [isEmpty_rps h2]⟩)
  | dict kvs => cases q
theorem tru_of {b : Bs} {c : Fc} {G H : Hp} {ρ : Ev} {σ : St} {v : V} {a : Av} {k : Bool} (S : SIG b c G ρ σ H) (h : RA b.K G σ v a) (q : tru ρ a = some k) : TruV b.K v H k := by
  cases a with
  | d x => exact truth_of S.gh (.inl h) q
  | s i =>
    have q : slotT ρ[i]? = some k := q
    unfold slotT at q
    split at q
    · rename_i y hy
      exact truth_of S.gh (RA.res (a := .s i) S h (by show slotD ρ[i]? = some y; rw [hy]; rfl)) q
    · rename_i r y hy
      cases q
      exact truth_of S.gh (RA.res (a := .s i) S h (by show slotD ρ[i]? = some (.list y); rw [hy]; rfl)) rfl
    · rename_i ns hy
      cases q
      obtain ⟨u, hu, p, rfl, r⟩ := S.sl i _ hy
      rw [show σ[i]? = some (some v) from h] at hu
      cases hu
      exact .inl ⟨_, S.gh.seq r, by cases ns <;> rfl⟩
    · cases q
section
variable {X : Cx} {b : Bs} {W : WX} {e a a2 : Expr} {fa fb : M Av} {ft fu : M Bool} {rest : List Expr} {pos : Pos}
theorem m_test (hK : X.K = b.K) (ha : PE X a (tE b W fa)) (he : ∀ whole, isTrue a X.env whole = (do let v ← whole; standAt a.pos; holding [v] (truthy v)) := by intro _; rfl) : PT X a (tT b W (testM fa)) :=
  weakT (pt_truth ha he) fun σ H Q ⟨c, G, ρ, S, q⟩ => ⟨c, G, ρ, S, (Post.bind q).imp fun z ρ1 G1 H1 e1 S1 q1 v hv => by
    obtain ⟨k, h1, h2⟩ := q1.opt S1
    exact ⟨k, by rw [hK]; exact tru_of S1 hv h1, h2⟩⟩
theorem m_and1 (ha : PT X a (tT b W ft)) : PW X (.BoolOp .And [a] pos) (tT b W ft) := pw_and1 ha
theorem m_or1 (ha : PT X a (tT b W ft)) : PW X (.BoolOp .Or [a] pos) (tT b W ft) := pw_or1 ha
theorem m_and (ha : PT X a (tT b W ft)) (hb : PW X (.BoolOp .And (a2 :: rest) pos) (tT b W fu)) : PW X (.BoolOp .And (a :: a2 :: rest) pos) (tT b W (andM ft fu)) :=
  weakW (pw_and ha hb) fun σ H Q ⟨c, G, ρ, S, q⟩ => ⟨c, G, ρ, S, (Post.bind q).imp fun z ρ1 G1 H1 e1 S1 q1 => by
    cases z with
    | true => exact iteT ⟨c, G1, ρ1, S1, q1⟩
    | false => exact iteF (q1.ret S1)⟩
theorem m_or (ha : PT X a (tT b W ft)) (hb : PW X (.BoolOp .Or (a2 :: rest) pos) (tT b W fu)) : PW X (.BoolOp .Or (a :: a2 :: rest) pos) (tT b W (orM ft fu)) :=
  weakW (pw_or ha hb) fun σ H Q ⟨c, G, ρ, S, q⟩ => ⟨c, G, ρ, S, (Post.bind q).imp fun z ρ1 G1 H1 e1 S1 q1 => by
    cases z with
    | true => exact iteT (q1.ret S1)
    | false => exact iteF ⟨c, G1, ρ1, S1, q1⟩⟩
theorem m_not (ha : PT X a (tT b W ft)) : PT X (.UnaryOp .Not a pos) (tT b W (notM ft)) :=
  weakT (pt_not ha) fun σ H Q ⟨c, G, ρ, S, q⟩ => ⟨c, G, ρ, S, (Post.bind q).imp fun z ρ1 G1 H1 e1 S1 q1 => q1.ret S1⟩
theorem m_one {op} (ha : PE X a (tE b W fa)) : PE X (.BoolOp op [a] pos) (tE b W fa) := pe_one ha
theorem m_andV (hK : X.K = b.K) (ha : PE X a (tE b W fa)) (hb : PE X (.BoolOp .And (a2 :: rest) pos) (tE b W fb)) : PE X (.BoolOp .And (a :: a2 :: rest) pos) (tE b W (andV fa fb)) :=
  weakE (pe_andT ha hb) fun σ H Q ⟨c, G, ρ, S, q⟩ => ⟨c, G, ρ, S, (Post.bind q).imp fun z ρ1 G1 H1 e1 S1 q1 v hv => by
    obtain ⟨k, h1, h2⟩ := (Post.bind q1).opt S1
    refine ⟨k, by rw [hK]; exact tru_of S1 hv h1, ?_⟩
    cases k with
    | true => exact iteT ⟨c, G1, ρ1, S1, h2⟩
    | false => exact iteF (h2.ret S1 v hv)⟩
theorem m_orV (hK : X.K = b.K) (ha : PE X a (tE b W fa)) (hb : PE X (.BoolOp .Or (a2 :: rest) pos) (tE b W fb)) : PE X (.BoolOp .Or (a :: a2 :: rest) pos) (tE b W (orV fa fb)) :=
  weakE (pe_orT ha hb) fun σ H Q ⟨c, G, ρ, S, q⟩ => ⟨c, G, ρ, S, (Post.bind q).imp fun z ρ1 G1 H1 e1 S1 q1 v hv => by
    obtain ⟨k, h1, h2⟩ := (Post.bind q1).opt S1
    refine ⟨k, by rw [hK]; exact tru_of S1 hv h1, ?_⟩
    cases k with
    | true => exact iteT (h2.ret S1 v hv)
    | false => exact iteF ⟨c, G1, ρ1, S1, h2⟩⟩
theorem m_notV (hK : X.K = b.K) (ha : PE X a (tE b W fa)) : PE X (.UnaryOp .Not a pos) (tE b W (notV fa)) :=
  weakE (pe_notT ha) fun σ H Q ⟨c, G, ρ, S, q⟩ => ⟨c, G, ρ, S, (Post.bind (Post.bind q)).imp fun z ρ1 G1 H1 e1 S1 q1 v hv => by
    obtain ⟨k, h1, h2⟩ := q1.opt S1
    exact ⟨k, by rw [hK]; exact tru_of S1 hv h1, h2.ret S1 _ (.bl _)⟩⟩
theorem m_ifE {cnd : Expr} (hc : PT X cnd (tT b W ft)) (ha : PE X a (tE b W fa)) (hb : PE X a2 (tE b W fb)) : PE X (.IfExp cnd a a2 pos) (tE b W (ifM ft fa fb)) :=
  weakE (pe_ifExp hc ha hb) fun σ H Q ⟨c, G, ρ, S, q⟩ => ⟨c, G, ρ, S, (Post.bind q).imp fun z ρ1 G1 H1 e1 S1 q1 => by
    cases z with
    | true => exact iteT ⟨c, G1, ρ1, S1, q1⟩
    | false => exact iteF ⟨c, G1, ρ1, S1, q1⟩⟩
theorem m_ifV {cnd : Expr} {fa fb : M Rv} (hc : PT X cnd (tT b W ft)) (ha : PE X a (tV b W fa)) (hb : PE X a2 (tV b W fb)) : PE X (.IfExp cnd a a2 pos) (tV b W (ifM ft fa fb)) :=
  weakE (pe_ifExp hc ha hb) fun σ H Q ⟨c, G, ρ, S, q⟩ => ⟨c, G, ρ, S, (Post.bind q).imp fun z ρ1 G1 H1 e1 S1 q1 => by
    cases z with
    | true => exact iteT ⟨c, G1, ρ1, S1, q1⟩
    | false => exact iteF ⟨c, G1, ρ1, S1, q1⟩⟩
end
/-! chains of two comparisons; g, g' give truths -/
def chainM (g g' : Dt → Dt → Option Bool) (fa fb fc : M Av) : M Av := bindM fa fun a => bindM fb fun b => bindM (optM fun ρ => (res ρ a).bind fun x => (res ρ b).bind fun y => g x y) fun k => match k with
  | true => bindM fc fun z => optM fun ρ => (res ρ b).bind fun y => (res ρ z).bind fun w => (g' y w).map fun t => .d (.bool t)
  | false => retM (.d (.bool false))
/-- a rule of comparison that only looks -/
def Tells (b : Bs) (r : R2) (g : Dt → Dt → Option Bool) : Prop := ∀ {c : Fc} {G H : Hp} {ρ : Ev} {σ : St} {x y : V} {dx dy : Dt} {z : Bool} {Q : VK}, SIG b c G ρ σ H → RO b.K G H x dx → RO b.K G H y dy → g dx dy = some z → Q (.bl z) H → r x y H Q
theorem Tells.does {b : Bs} {r : R2} {g : Dt → Dt → Option Bool} (t : Tells b r g) : Does2 b r (fun x y => (g x y).map fun z => .d (.bool z)) := fun {c G H ρ σ x y dx dy z Q} S hx hy e q => by
  dsimp only at e
  cases hz : g dx dy with
  | none => rw [hz] at e; cases e
  | some w =>
    rw [hz] at e
    cases e
    exact t S hx hy hz (q _ H G (Same.refl G) S (.bl w) fun p _ z => by cases z)
section
variable {X : Cx} {b : Bs} {W : WX} {a a2 a3 : Expr} {fa fb fc : M Av} {pos : Pos}
theorem chain_core {r r' : R2} {g g' : Dt → Dt → Option Bool} (t : Tells b r g) (t' : Tells b r' g') {σ : St} {H : Hp} {Q : VK} (h : tE b W (chainM g g' fa fb fc) σ H Q) : tChain r r' (tE b W fa) (tE b W fb) (tE b W fc) σ H Q := by
  obtain ⟨c, G, ρ, S, q⟩ := h
  refine ⟨c, G, ρ, S, (Post.bind q).imp fun xa ρ1 G1 H1 e1 S1 q1 v hv => ⟨c, G1, ρ1, S1, (Post.bind q1).imp fun xb ρ2 G2 H2 e2 S2 q2 u hu => ?_⟩⟩
  obtain ⟨k, h1, h2⟩ := (Post.bind q2).opt S2
  cases hx : res ρ2 xa with
  | none => rw [hx] at h1; cases h1
  | some x =>
    cases hy : res ρ2 xb with
    | none => rw [hx, hy] at h1; cases h1
    | some y =>
      rw [hx, hy] at h1
      refine t S2 ((hv.mono e2).res S2 hx) (hu.res S2 hy) h1 ⟨k, rfl, ?_⟩
      cases k with
      | false => exact iteF (h2.ret S2 _ (.bl false))
      | true =>
        refine iteT ⟨c, G2, ρ2, S2, (Post.bind h2).imp fun xc ρ3 G3 H3 e3 S3 q3 w hw => ?_⟩
        obtain ⟨m, h3, h4⟩ := q3.opt S3
        cases hy3 : res ρ3 xb with
        | none => rw [hy3] at h3; cases h3
        | some y3 =>
          cases hz3 : res ρ3 xc with
          | none => rw [hy3, hz3] at h3; cases h3
          | some z3 =>
            rw [hy3, hz3] at h3
            dsimp only [Option.bind_some] at h3
            cases hg : g' y3 z3 with
            | none => rw [hg] at h3; cases h3
            | some tt =>
              rw [hg] at h3
              cases h3
              exact t' S3 ((hu.mono e3).res S3 hy3) (hw.res S3 hz3) hg (h4 _ (.bl tt))
theorem m_chain {op op' : CmpOp} {r r' : R2} {g g' : Dt → Dt → Option Bool} (ho : OpR X (compareOp op) r) (t : Tells b r g) (ho' : OpR X (compareOp op') r') (t' : Tells b r' g') (ha : PE X a (tE b W fa)) (hb : PE X a2 (tE b W fb)) (hc : PE X a3 (tE b W fc))
    (hm : lastMarks [op, op'] [a2, a3] = false := by with_unfolding_all rfl) : PE X (.Compare a [op, op'] [a2, a3] pos) (tE b W (chainM g g' fa fb fc)) := weakE (pe_chain ho ho' ha hb hc hm) fun _ _ _ h => chain_core t t' h
def chainT (g g' : Dt → Dt → Option Bool) (fa fb fc : M Av) : M Bool := bindM (chainM g g' fa fb fc) fun a => match a with
  | .d (.bool k) => retM k
  | _ => badM
theorem m_chainT {op op' : CmpOp} {r r' : R2} {g g' : Dt → Dt → Option Bool} (ho : OpR X (compareOp op) r) (t : Tells b r g) (ho' : OpR X (compareOp op') r') (t' : Tells b r' g') (ha : PE X a (tE b W fa)) (hb : PE X a2 (tE b W fb)) (hc : PE X a3 (tE b W fc))
    (hm : lastMarks [op, op'] [a2, a3] = false := by with_unfolding_all rfl) : PT X (.Compare a [op, op'] [a2, a3] pos) (tT b W (chainT g g' fa fb fc)) := weakT (pt_chain ho ho' ha hb hc hm) fun σ H Q h => by
  refine chain_core (W := W) t t' ?_
  obtain ⟨c, G, ρ, S, q⟩ := h
  refine ⟨c, G, ρ, S, (Post.bind q).imp fun z ρ1 G1 H1 e1 S1 q1 v hv => ?_⟩
  split at q1
  · cases hv
    exact ⟨_, rfl, q1.ret S1⟩
  · exact q1.elim
end
/-! argument lists, displays -/
def consM (fe : M Av) (fs : M (List Av)) : M (List Av) := bindM fe fun a => bindM fs fun as => retM (a :: as)
def fzs (ρ : Ev) : List Av → Option (List Dt)
  | [] => some []
  | a :: as => (fzv ρ a).bind fun x => (fzs ρ as).map fun xs => x :: xs
def lstM (fl : M (List Av)) : M Rv := bindM fl fun as => optM fun ρ => if as.length ≤ 1000 then (fzs ρ as).map Rv.l else none
def tupM (fl : M (List Av)) : M Av := bindM fl fun as => bindM (optM fun ρ => if as.length ≤ 1000 then fzs ρ as else none) fun xs => retM (.d (.tuple xs))
theorem fzs_of {b : Bs} {c : Fc} {G H : Hp} {ρ : Ev} {σ : St} (S : SIG b c G ρ σ H) : ∀ {vs : List V} {as : List Av} {xs : List Dt}, Ras b.K G σ vs as → fzs ρ as = some xs → Rps b.K G vs xs
  | _, [], _, h, e => by
    cases h
    cases e
    exact .nil
  | _, a :: as, _, h, e => by
    cases h with
    | cons h1 h2 =>
      unfold fzs at e
      cases hx : fzv ρ a with
      | none => rw [hx] at e; cases e
      | some x =>
        rw [hx] at e
        cases hy : fzs ρ as with
        | none => rw [hy] at e; cases e
        | some ys =>
          rw [hy] at e
          cases e
          exact .cons (h1.fz S hx) (fzs_of S h2 hy)
section
variable {X : Cx} {b : Bs} {W : WX} {e : Expr} {es : List Expr} {fe : M Av} {fs : M (List Av)} {pos : Pos}
theorem m_nil : PA X [] (tL b W (retM [])) := weakA pa_nil fun σ H Q ⟨c, G, ρ, S, q⟩ => q.ret S [] .nil
theorem m_cons (ha : PE X e (tE b W fe)) (hr : PA X es (tL b W fs)) (hs : starEach (e :: es) X.env = (false, eval e X.env) :: starEach es X.env := by rfl) : PA X (e :: es) (tL b W (consM fe fs)) :=
  weakA (pa_cons ha hr hs) fun σ H Q ⟨c, G, ρ, S, q⟩ => ⟨c, G, ρ, S, (Post.bind q).imp fun a ρ1 G1 H1 e1 S1 q1 v hv => ⟨c, G1, ρ1, S1, (Post.bind q1).imp fun as ρ2 G2 H2 e2 S2 q2 vs hvs =>
    q2.ret S2 (v :: vs) (.cons (hv.mono e2) hvs)⟩⟩
theorem m_lst (h : PA X es (tL b W fs)) : PE X (.List es pos) (tV b W (lstM fs)) := weakE (pe_lst h) fun σ H Q ⟨c, G, ρ, S, q⟩ => ⟨c, G, ρ, S, (Post.bind q).imp fun as ρ1 G1 H1 e1 S1 q1 vs hvs => by
  have hl := Paired.length hvs
  unfold optM at q1
  split at q1
  · rename_i z hz
    dsimp only at hz
    split at hz
    · rename_i hn
      cases hx : fzs ρ1 as with
      | none => rw [hx] at hz; cases hz
      | some xs =>
        rw [hx] at hz
        cases hz
        refine ⟨by rw [hl]; exact Nat.le_trans hn (by decide), fun p hp => ?_⟩
        refine q1 _ G1 (Same.refl G1) (S1.alloc hp) (.ref p) ⟨p, vs, rfl, upd_same, S1.free hp, fzs_of S1 hvs hx, S1.fresh0 hp⟩ fun p' ep _ => ?_
        cases ep
        exact S1.noOwn hp
    · cases hz
  · exact q1.elim⟩
theorem m_tup {x1} (h : PA X es (tL b W fs)) : PE X (.Tuple es x1 pos) (tE b W (tupM fs)) := weakE (pe_tup h) fun σ H Q ⟨c, G, ρ, S, q⟩ => ⟨c, G, ρ, S, (Post.bind q).imp fun as ρ1 G1 H1 e1 S1 q1 vs hvs => by
  have hl := Paired.length hvs
  obtain ⟨xs, h1, h2⟩ := (Post.bind q1).opt S1
  split at h1
  · rename_i hn
    refine ⟨by rw [hl]; exact Nat.le_trans hn (by decide), fun p hp => ?_⟩
    obtain ⟨e2, S2⟩ := S1.lay (o := .tup vs) hp
    exact (Post.mono e2 h2).ret S2 (.ref p) (.tup (.inl upd_same) (Rps.mono e2 _ _ (fzs_of S1 hvs h1)))
  · cases h1⟩
end
end G8
namespace G8
open PySem L2
/-! statements -/
def seqM (f g : M Fl) : M Fl := fun ρ => match f ρ with
  | .ok .nx ρ' => g ρ'
  | o => o
theorem PostS.bind {α : Type} {b : Bs} {c : Fc} {W : WX} {G : Hp} {ρ : Ev} {D : Ends} {f : M α} {g : α → M Fl} (σ : St) (h : PostS b c W G D (bindM f g ρ)) : Post b c W G σ (fun a ρ1 G1 _ => PostS b c W G1 D (g a ρ1)) (f ρ) := by
  unfold bindM at h
  cases e : f ρ with
  | ok z ρ1 =>
    rw [e] at h
    exact fun H1 G1 e1 S1 => PostS.mono e1 h
  | err k ρ1 =>
    rw [e] at h
    exact h σ
  | bad =>
    rw [e] at h
    exact h
theorem PostS.seq {b : Bs} {c : Fc} {W : WX} {G : Hp} {ρ : Ev} {D : Ends} {f g : M Fl} {N : St → Hp → Prop} (h : PostS b c W G D (seqM f g ρ)) (hn : ∀ σ H' G' ρ', Same G G' → SIG b c G' ρ' σ H' → PostS b c W G' D (g ρ') → N σ H') : PostS b c W G { D with nx := N } (f ρ) := by
  unfold seqM at h
  cases e : f ρ with
  | ok z ρ1 =>
    rw [e] at h
    cases z with
    | nx => exact fun σ H1 G1 e1 S1 => hn σ H1 G1 ρ1 e1 S1 (PostS.mono e1 h)
    | bk => exact h
    | ct => exact h
    | rt r => exact h
  | err k ρ1 =>
    rw [e] at h
    exact h
  | bad =>
    rw [e] at h
    exact h
section
variable {X : Cx} {b : Bs} {W : WX} {st : Stmt} {sts us : List Stmt} {f g : M Fl} {pos : Pos}
theorem s_one (h : PS X st (tS b W f)) : PSs X [st] (tS b W f) := pss_one h
theorem s_nil : PSs X [] (tS b W (retM .nx)) := weakB pss_nil fun D σ H ⟨c, G, ρ, hb, S, q⟩ => q σ H G (Same.refl G) S
theorem s_cons (h1 : PS X st (tS b W f)) (h2 : PSs X sts (tS b W g)) : PSs X (st :: sts) (tS b W (seqM f g)) := weakB (pss_cons h1 h2) fun D σ H ⟨c, G, ρ, hb, S, q⟩ =>
  ⟨c, G, ρ, hb, S, q.seq fun σ' H' G' ρ' e' S' q' => ⟨c, G', ρ', hb, S', q'⟩⟩
theorem s_pass : PS X (.Pass pos) (tS b W (retM .nx)) := weakS ps_pass fun D σ H ⟨c, G, ρ, hb, S, q⟩ => q σ H G (Same.refl G) S
theorem s_break : PS X (.Break pos) (tS b W (retM .bk)) := weakS ps_break fun D σ H ⟨c, G, ρ, hb, S, q⟩ => q σ H G (Same.refl G) S
theorem s_continue : PS X (.Continue pos) (tS b W (retM .ct)) := weakS ps_continue fun D σ H ⟨c, G, ρ, hb, S, q⟩ => q σ H G (Same.refl G) S
theorem s_if {cnd : Expr} {ft : M Bool} (hc : PT X cnd (tT b W ft)) (ha : PSs X sts (tS b W f)) (hu : PSs X us (tS b W g)) : PS X (.If cnd sts us pos) (tS b W (ifM ft f g)) :=
  weakS (ps_if hc ha hu) fun D σ H ⟨c, G, ρ, hb, S, q⟩ => ⟨c, G, ρ, S, (PostS.bind σ q).imp fun z ρ1 G1 H1 e1 S1 q1 => by
    cases z with
    | true => exact iteT ⟨c, G1, ρ1, hb, S1, q1⟩
    | false => exact iteF ⟨c, G1, ρ1, hb, S1, q1⟩⟩
end
/-! storing a name -/
def refAt : Option (Option Sv) → Bool
  | some (some s) => s.isRef
  | _ => false
def Rv.sv : Rv → Sv
  | .d x => .d x
  | .l xs => .ls false xs
  | .k xs => .dk false xs
  | .t xs => .dt false xs
def putM (i : Nat) (s : Option Sv) : M Unit := fun ρ => if refAt ρ[i]? then .bad else .ok () (ρ.set i s)
def setM (i : Nat) (f : M Rv) : M Fl := bindM f fun r => bindM (putM i (some r.sv)) fun _ => retM .nx
theorem sv_ref (r : Rv) : r.sv.isRef = false := by cases r <;> rfl
theorem sv_mt (r : Rv) : r.sv.isMt = false := by cases r <;> rfl
theorem sv_own (r : Rv) : r.sv.own = r.new := by cases r <;> rfl
theorem sv_rs {b : Bs} {c : Fc} {G H : Hp} {v : V} {r : Rv} (h : RN b c G H v r) : RS b.K b.C G H v r.sv := by
  cases r with
  | d x => exact h
  | l xs => obtain ⟨p, vs, h1, h2, h3, h4, _⟩ := h; exact ⟨p, vs, h1, h2, h3, h4⟩
  | k xs => obtain ⟨p, vs, h1, h2, h3, h4, _⟩ := h; exact ⟨p, vs, h1, h2, h3, h4⟩
  | t xs => obtain ⟨p, vs, h1, h2, h3, h4, _⟩ := h; exact ⟨p, vs, h1, h2, h3, h4⟩
theorem rn_new {b : Bs} {c : Fc} {G H : Hp} {v : V} {r : Rv} (h : RN b c G H v r) (hn : r.new = true) {p : Addr} (hp : v = .ref p) : c.H0 p = none := by
  cases r with
  | d x => cases hn
  | l xs => obtain ⟨q, vs, h1, _, _, _, h5⟩ := h; rw [hp] at h1; cases h1; exact h5
  | k xs => obtain ⟨q, vs, h1, _, _, _, h5⟩ := h; rw [hp] at h1; cases h1; exact h5
  | t xs => obtain ⟨q, vs, h1, _, _, _, h5⟩ := h; rw [hp] at h1; cases h1; exact h5
theorem refAt_of {c : Fc} {ρ : Ev} {i : Nat} (hb : c.Fn) (h : ¬ refAt ρ[i]? = true) : Open c ρ i := fun s e => by
  rw [e] at h
  exact .inr ⟨hb, Bool.eq_false_iff.mpr h⟩
theorem set_rn {b : Bs} {c : Fc} {G H : Hp} {ρ : Ev} {σ : St} {v : V} {r : Rv} {i : Nat} (S : SIG b c G ρ σ H) (h : RN b c G H v r) (ap : Apart ρ σ v r) (hr : Open c ρ i) : SIG b c G (ρ.set i (some r.sv)) (σ.set i (some v)) H :=
  S.set (sv_rs h) hr (fun p ep ho => ⟨ap p ep (by rw [← sv_own]; exact ho), rn_new h (by rw [← sv_own]; exact ho) ep⟩) (sv_mt r)
section
variable {X : Cx} {b : Bs} {W : WX} {e : Expr} {pos pos' : Pos} {x : Str} {i : Nat}
theorem setM_core {f : M Rv} {D : Ends} {σ : St} {H : Hp} (h : tS b W (setM i f) D σ H) : tAsg (tV b W f) (gName i) D σ H := by
  obtain ⟨c, G, ρ, hb, S, q⟩ := h
  refine ⟨c, G, ρ, S, (PostS.bind σ q).imp fun r ρ1 G1 H1 e1 S1 q1 v hv ap => ?_⟩
  show D.nx (σ.set i (some v)) H1
  unfold bindM putM at q1
  by_cases hr : refAt ρ1[i]? = true
  · rw [if_pos hr] at q1
    exact q1.elim
  · rw [if_neg hr] at q1
    exact q1 _ H1 G1 (Same.refl G1) (set_rn S1 hv ap (refAt_of hb hr))
theorem s_set {f : M Rv} (hN : X.N.Nodup) (hi : X.N[i]? = some x) (hx : Loc X.env.scope x) (he : PE X e (tV b W f)) (hs : swapsWith e (some (.Name x pos')) pos.line X.env = pure false := by rfl)
    (hf : X.fn x = true ∨ X.env.scope.names.lookup x = some .local := by first | exact .inl rfl | exact .inr rfl | assumption) : PS X (.Assign [.Name x pos'] e pos) (tS b W (setM i f)) :=
  weakS (ps_set hN hi hx he hs hf) fun D σ H h => setM_core h
/-! return -/
def retS (f : M Rv) : M Fl := bindM f fun r => retM (.rt r)
theorem s_ret {f : M Rv} (he : PE X e (tV b W f)) : PS X (.Return (some e) pos) (tS b W (retS f)) := weakS (ps_ret he) fun D σ H ⟨c, G, ρ, hb, S, q⟩ =>
  ⟨c, G, ρ, S, (PostS.bind σ q).imp fun r ρ1 G1 H1 e1 S1 q1 v hv ap => q1 v σ H1 G1 (Same.refl G1) S1 hv⟩
theorem s_retN : PS X (.Return none pos) (tS b W (retM (.rt (.d .none)))) := weakS ps_retN fun D σ H ⟨c, G, ρ, hb, S, q⟩ => q .non σ H G (Same.refl G) S .non
/-- return x, x a slot: the list goes with it -/
def slotR : Option (Option Sv) → Option Rv
  | some (some (.d x)) => some (.d x)
  | some (some (.ls false xs)) => some (.l xs)
  | some (some (.dk false xs)) => some (.k xs)
  | some (some (.dt false xs)) => some (.t xs)
  | _ => none
def retO (i : Nat) : M Fl := bindM (optM fun ρ => slotR ρ[i]?) fun r => retM (.rt r)
theorem s_retO {n : Str} (i : Nat) (h : PE X (.Name n pos') (tVar i)) : PS X (.Return (some (.Name n pos')) pos) (tS b W (retO i)) := weakS (ps_ret h) fun D σ H ⟨c, G, ρ, hb, S, q⟩ => by
  obtain ⟨r, h1, h2⟩ := (PostS.bind σ q).opt S
  have own : ∀ sv p, ρ[i]? = some (some sv) → sv.own = true → sv.isRef = false → σ[i]? = some (some (.ref p)) → c.H0 p = none := fun sv p e ho hr hp => by
    rcases S.nw i sv p e ho hp with z | z
    · exact z
    · obtain ⟨f, z⟩ := z
      exact absurd z (S.noRef (fun s q => by rw [e] at q; cases q; exact .inr ⟨hb, hr⟩) p f)
  cases hq : ρ[i]? with
  | none => rw [hq] at h1; cases h1
  | some o =>
    cases o with
    | none => rw [hq] at h1; cases h1
    | some sv =>
      obtain ⟨v, hv, rs⟩ := S.sl i sv hq
      refine ⟨v, hv, h2 v σ H G (Same.refl G) S ?_⟩
      rw [hq] at h1
      cases sv with
      | d y => cases h1; exact rs
      | ls rr y =>
        cases rr
        · cases h1
          obtain ⟨p, vs, rfl, r2, r3, r4⟩ := rs
          exact ⟨p, vs, rfl, r2, r3, r4, own _ p hq rfl rfl hv⟩
        · cases h1
      | dk rr y =>
        cases rr
        · cases h1
          obtain ⟨p, vs, rfl, r2, r3, r4⟩ := rs
          exact ⟨p, vs, rfl, r2, r3, r4, own _ p hq rfl rfl hv⟩
        · cases h1
      | dt rr y =>
        cases rr
        · cases h1
          obtain ⟨p, vs, rfl, r2, r3, r4⟩ := rs
          exact ⟨p, vs, rfl, r2, r3, r4, own _ p hq rfl rfl hv⟩
        · cases h1
      | ex k => cases h1
      | scr ns => cases h1
      | fk kvs => cases h1
      | ft kvs => cases h1
      | mt rr m => cases h1
/-! a ghost: the list of a slot is shared -/
def shareM (i : Nat) : M Unit := fun ρ => match ρ[i]? with
  | some (some (.ls false xs)) => .ok () (ρ.set i (some (.d (.list xs))))
  | some (some (.d _)) => .ok () ρ
  | _ => .bad
theorem share_ok {c : Fc} {G H : Hp} {ρ ρ' : Ev} {σ : St} (hb : c.Fn) (S : SIG b c G ρ σ H) (h : shareM i ρ = .ok () ρ') : ∃ G', Same G G' ∧ SIG b c G' ρ' σ H := by
  unfold shareM at h
  split at h
  · rename_i xs hx
    cases h
    exact S.share hb hx
  · cases h
    exact ⟨G, Same.refl G, S⟩
  · cases h
def withS {α : Type} (i : Nat) (f : M α) : M α := bindM (shareM i) fun _ => f
theorem shareM_cases (ρ : Ev) (i : Nat) : (∃ ρ', shareM i ρ = .ok () ρ') ∨ shareM i ρ = .bad := by
  unfold shareM
  split
  · exact .inl ⟨_, rfl⟩
  · exact .inl ⟨_, rfl⟩
  · exact .inr rfl
theorem s_share {st : Stmt} {f : M Fl} (i : Nat) (h : PS X st (tS b W f)) : PS X st (tS b W (withS i f)) := weakS h fun D σ H ⟨c, G, ρ, hb, S, q⟩ => by
  unfold withS bindM at q
  rcases shareM_cases ρ i with ⟨ρ', e⟩ | e
  · rw [e] at q
    obtain ⟨G', e1, S1⟩ := share_ok hb S e
    exact ⟨c, G', ρ', hb, S1, q.mono e1⟩
  · rw [e] at q
    exact q.elim
theorem ss_share {st : List Stmt} {f : M Fl} (i : Nat) (h : PSs X st (tS b W f)) : PSs X st (tS b W (withS i f)) := weakB h fun D σ H ⟨c, G, ρ, hb, S, q⟩ => by
  unfold withS bindM at q
  rcases shareM_cases ρ i with ⟨ρ', e⟩ | e
  · rw [e] at q
    obtain ⟨G', e1, S1⟩ := share_ok hb S e
    exact ⟨c, G', ρ', hb, S1, q.mono e1⟩
  · rw [e] at q
    exact q.elim
end
/-! targets -/
inductive Tgt where
  | one (i : Nat)
  | tup (is : List Nat)
def Tgt.slots : Tgt → List Nat
  | .one i => [i]
  | .tup is => is
def gNs : List Nat → TGs
  | [] => gNil
  | i :: is => gCons (gName i) (gNs is)
def gRaw (K : Fg) : Tgt → TG
  | .one i => gName i
  | .tup is => gTup K is.length (gNs is)
def ownAt : Option (Option Sv) → Bool
  | some (some s) => s.own
  | _ => false
def putD (i : Nat) (d : Dt) : M Unit := fun ρ => if ownAt ρ[i]? then .bad else .ok () (ρ.set i (some (.d d)))
def putDs : List Nat → List Dt → M Unit
  | [], [] => retM ()
  | i :: is, d :: ds => bindM (putD i d) fun _ => putDs is ds
  | _, _ => badM
def putT : Tgt → Dt → M Unit
  | .one i, d => putD i d
  | .tup is, .tuple ds => putDs is ds
  | _, _ => badM
theorem ownAt_of {c : Fc} {ρ : Ev} {i : Nat} (h : ¬ ownAt ρ[i]? = true) : Open c ρ i := fun s e => by
  rw [e] at h
  exact .inl (Bool.eq_false_iff.mpr h)
theorem wipe_set (σ : St) (i : Nat) (w : Option V) : ∀ is : List Nat, i ∈ is → wipe (σ.set i w) is = wipe σ is
  | [], h => by cases h
  | j :: is, h => by
    unfold wipe
    by_cases hj : i = j
    · subst hj
      by_cases hm : i ∈ is
      · rw [wipe_set σ i w is hm]
      · rw [wipe_comm σ i w is hm, List.set_set]
    · rw [wipe_set σ i w is (by simpa [hj] using h)]
where wipe_comm (σ : St) (i : Nat) (w : Option V) : ∀ is : List Nat, i ∉ is → wipe (σ.set i w) is = (wipe σ is).set i w
  | [], _ => rfl
  | j :: is, h => by
    unfold wipe
    rw [List.mem_cons, not_or] at h
    rw [wipe_comm σ i w is h.2, List.set_comm _ _ h.1]
section
variable {b : Bs} {c : Fc} {G H : Hp} {ρ ρ' : Ev} {σ : St} {v : V} {d : Dt}
theorem putD_ok {i : Nat} (S : SIG b c G ρ σ H) (r : Rp b.K G v d) (e : putD i d ρ = .ok () ρ') : SIG b c G ρ' (σ.set i (some v)) H := by
  unfold putD at e
  split at e
  · cases e
  · rename_i hr
    cases e
    exact S.set (v := v) (sv := .d d) r (ownAt_of hr) fun _ _ z => by cases z
theorem putDs_ok : ∀ {is : List Nat} {vs : List V} {ds : List Dt} {ρ ρ' : Ev} {σ : St} {Q : St → Hp → Prop} (all : List Nat) (σ0 : St), (∀ i ∈ is, i ∈ all) → wipe σ all = wipe σ0 all → SIG b c G ρ σ H → Rps b.K G vs ds → putDs is ds ρ = .ok () ρ' →
    (∀ σ', SIG b c G ρ' σ' H → wipe σ' all = wipe σ0 all → Q σ' H) → gNs is vs σ H Q
  | [], vs, [], ρ, ρ', σ, Q, all, σ0, hm, hw, S, r, e, q => by
    cases r
    cases e
    exact ⟨rfl, q σ S hw⟩
  | [], vs, _ :: _, ρ, ρ', σ, Q, all, σ0, hm, hw, S, r, e, q => by cases e
  | _ :: _, vs, [], ρ, ρ', σ, Q, all, σ0, hm, hw, S, r, e, q => by cases e
  | i :: is, vs, d :: ds, ρ, ρ', σ, Q, all, σ0, hm, hw, S, r, e, q => by
    cases r with
    | cons r1 r2 =>
      have e : bindM (putD i d) (fun _ => putDs is ds) ρ = .ok () ρ' := e
      unfold bindM at e
      cases e1 : putD i d ρ with
      | ok z ρ1 =>
        rw [e1] at e
        refine ⟨_, _, rfl, ?_⟩
        exact putDs_ok all σ0 (fun j hj => hm j (List.mem_cons_of_mem _ hj)) ((wipe_set σ i _ all (hm i List.mem_cons_self)).trans hw) (putD_ok S r1 e1) r2 e q
      | err k ρ1 => rw [e1] at e; cases e
      | bad => rw [e1] at e; cases e
theorem putT_ok {t : Tgt} {Q : St → Hp → Prop} (S : SIG b c G ρ σ H) (r : Rp b.K G v d) (e : putT t d ρ = .ok () ρ') (q : ∀ σ', SIG b c G ρ' σ' H → wipe σ' t.slots = wipe σ t.slots → Q σ' H) : gRaw b.K t v σ H Q := by
  cases t with
  | one i => exact q _ (putD_ok S r e) (wipe_set σ i _ [i] List.mem_cons_self)
  | tup is =>
    cases d with
    | tuple ds =>
      cases r with
      | tup r1 r2 =>
        have hl : ∀ {is : List Nat} {ds : List Dt} {ρ ρ' : Ev}, putDs is ds ρ = .ok () ρ' → ds.length = is.length := by
          intro is
          induction is with
          | nil =>
            intro ds ρ ρ' e
            cases ds with
            | nil => rfl
            | cons _ _ => cases e
          | cons i is ih =>
            intro ds ρ ρ' e
            cases ds with
            | nil => cases e
            | cons x xs =>
              have e : bindM (putD i x) (fun _ => putDs is xs) ρ = .ok () ρ' := e
              unfold bindM at e
              cases e1 : putD i x ρ with
              | ok z ρ1 =>
                rw [e1] at e
                rw [List.length_cons, List.length_cons, ih e]
              | err k ρ1 => rw [e1] at e; cases e
              | bad => rw [e1] at e; cases e
        refine ⟨_, _, rfl, same_sqT S.gh r1.sq, by rw [r2.length]; exact hl e, ?_⟩
        exact putDs_ok is σ (fun _ z => z) rfl S r2 e q
    | _ => cases e
theorem putT_noerr {t : Tgt} {d : Dt} {ρ : Ev} (k : Nat) (ρ' : Ev) : putT t d ρ ≠ .err k ρ' := by
  have h1 : ∀ i d ρ, putD i d ρ ≠ .err k ρ' := fun i d ρ e => by
    unfold putD at e
    split at e <;> cases e
  have h2 : ∀ (is : List Nat) (ds : List Dt) (ρ : Ev), putDs is ds ρ ≠ .err k ρ' := by
    intro is
    induction is with
    | nil =>
      intro ds ρ e
      cases ds <;> cases e
    | cons i is ih =>
      intro ds ρ e
      cases ds with
      | nil => cases e
      | cons x xs =>
        have e : bindM (putD i x) (fun _ => putDs is xs) ρ = .err k ρ' := e
        unfold bindM at e
        cases e1 : putD i x ρ with
        | ok z ρ1 => rw [e1] at e; exact ih _ _ e
        | err k1 ρ1 => rw [e1] at e; exact h1 _ _ _ (e1.trans e)
        | bad => rw [e1] at e; cases e
  intro e
  cases t with
  | one i => exact h1 _ _ _ e
  | tup is =>
    cases d with
    | tuple ds => exact h2 _ _ _ e
    | _ => cases e
end
/-- targets = e -/
def asgM (fe : M Av) (t : Tgt) : M Fl := bindM fe fun a => bindM (optM fun ρ => fzv ρ a) fun d => bindM (putT t d) fun _ => retM .nx
section
variable {X : Cx} {b : Bs} {W : WX} {pos : Pos}
theorem s_asg {tg e : Expr} {fe : M Av} {t : Tgt} (hK : X.K = b.K) (he : PE X e (tE b W fe)) (hg : PG X tg (gRaw X.K t)) (hp : ∀ {te : TE} {g : TG}, PE X e te → PG X tg g → PS X (.Assign [tg] e pos) (tAsg te g)) : PS X (.Assign [tg] e pos) (tS b W (asgM fe t)) :=
  weakS (hp he hg) fun D σ H ⟨c, G, ρ, hb, S, q⟩ => ⟨c, G, ρ, S, (PostS.bind σ q).imp fun a ρ1 G1 H1 e1 S1 q1 v hv => by
    obtain ⟨d, h1, h2⟩ := (PostS.bind σ q1).opt S1
    rw [hK]
    unfold bindM at h2
    cases e2 : putT t d ρ1 with
    | ok z ρ2 =>
      rw [e2] at h2
      exact putT_ok S1 (hv.fz S1 h1) e2 fun σ' S' _ => h2 σ' H1 G1 (Same.refl G1) S'
    | err k ρ2 => exact absurd e2 (putT_noerr k ρ2)
    | bad => rw [e2] at h2; exact h2.elim⟩
end
/-! what a for walks -/
structure Yl (K : Fg) (G : Hp) (J : It) (ds : List Dt) : Prop where
  go : ∀ i H, SameG G H → i < ds.length → J.go i H
  yl : ∀ i H x H', SameG G H → i < ds.length → J.yld i H x H' → H' = H ∧ ∃ d, ds[i]? = some d ∧ Rp K G x d
  st : ∀ H, SameG G H → J.stop ds.length H
def tI (b : Bs) (W : WX) (f : M (List Dt)) : TI := fun σ H R => ∃ c G ρ, SIG b c G ρ σ H ∧ Post b c W G σ (fun ds _ G' H' => ∀ J, Yl b.K G' J ds → R J H') (f ρ)
def seqOf : Dt → Option (List Dt)
  | .list xs => some xs
  | _ => none
def tupOf : Dt → Option (List Dt)
  | .tuple xs => some xs
  | _ => none
/-- over a list that is frozen; over a tuple -/
def itM (fa : M Av) : M (List Dt) := bindM fa fun a => optM fun ρ => (fzv ρ a).bind seqOf
def itT (fa : M Av) : M (List Dt) := bindM fa fun a => optM fun ρ => (fzv ρ a).bind tupOf
theorem yl_list {K : Fg} {G : Hp} {p : Addr} {vs : List V} {ds : List Dt} (h : SqL K G p vs) (r : Rps K G vs ds) : Yl K G (Itl K p) ds := by
  have hl := r.length
  refine ⟨fun i H e hi => ?_, fun i H x H' e hi hy => ?_, fun H e => ⟨vs, e.seq h, by rw [hl]; exact Nat.le_refl _⟩⟩
  · exact ⟨vs, _, e.seq h, List.getElem?_eq_getElem (by rw [hl]; exact hi)⟩
  · obtain ⟨rfl, hy⟩ := hy
    obtain ⟨d, h1, h2⟩ := r.getV (hy vs (e.seq h))
    exact ⟨rfl, d, h1, h2⟩
theorem yl_tup {K : Fg} {G : Hp} {p : Addr} {vs : List V} {ds : List Dt} (h : SqT K G p vs) (r : Rps K G vs ds) : Yl K G (Itt K p) ds := by
  have hl := r.length
  refine ⟨fun i H e hi => ?_, fun i H x H' e hi hy => ?_, fun H e => ⟨vs, same_sqT e h, by rw [hl]; exact Nat.le_refl _⟩⟩
  · exact ⟨vs, _, same_sqT e h, List.getElem?_eq_getElem (by rw [hl]; exact hi)⟩
  · obtain ⟨rfl, hy⟩ := hy
    obtain ⟨d, h1, h2⟩ := r.getV (hy vs (same_sqT e h))
    exact ⟨rfl, d, h1, h2⟩
def rangeD (lo : Int) (n : Nat) : List Dt := (List.range n).map fun (i : Nat) => .int (lo + (i : Int))
theorem rangeD_get {lo : Int} {n i : Nat} (h : i < n) : (rangeD lo n)[i]? = some (.int (lo + (i : Int))) := by
  unfold rangeD
  rw [List.getElem?_map, List.getElem?_range h]
  rfl
theorem rangeD_len (lo : Int) (n : Nat) : (rangeD lo n).length = n := by
  unfold rangeD
  rw [List.length_map, List.length_range]
theorem yl_range (K : Fg) (G : Hp) (lo : Int) (n : Nat) : Yl K G (Itr lo n) (rangeD lo n) := by
  refine ⟨fun i H e hi => by rw [rangeD_len] at hi; exact hi, fun i H x H' e hi hy => ?_, fun H e => by rw [rangeD_len]; exact Nat.le_refl _⟩
  rw [rangeD_len] at hi
  obtain ⟨rfl, rfl⟩ := hy
  exact ⟨rfl, _, rangeD_get hi, .int _⟩
def rangeC (lo c : Int) (n : Nat) : List Dt := (List.range n).map fun (i : Nat) => .int (lo + (i : Int) * c)
theorem yl_rangeC (K : Fg) (G : Hp) (lo c : Int) (n : Nat) : Yl K G (Itc lo c n) (rangeC lo c n) := by
  have hl : (rangeC lo c n).length = n := by unfold rangeC; rw [List.length_map, List.length_range]
  refine ⟨fun i H e hi => by rw [hl] at hi; exact hi, fun i H x H' e hi hy => ?_, fun H e => by rw [hl]; exact Nat.le_refl _⟩
  rw [hl] at hi
  obtain ⟨rfl, rfl⟩ := hy
  refine ⟨rfl, _, ?_, .int _⟩
  unfold rangeC
  rw [List.getElem?_map, List.getElem?_range hi]
  rfl
def int1 : List Dt → Option Int
  | [.int i] => some i
  | _ => none
def int2 : List Dt → Option (Int × Int)
  | [.int i, .int j] => some (i, j)
  | _ => none
def int3 : List Dt → Option (Int × Int × Int)
  | [.int i, .int j, .int k] => some (i, j, k)
  | _ => none
def mid (i : Int) : Bool := Nat.blt i.natAbs 4611686018427387904
def rg1 (fl : M (List Av)) : M (List Dt) := bindM fl fun as => optM fun ρ => (fzs ρ as).bind fun xs => (int1 xs).bind fun j => if mid j then some (rangeD 0 j.toNat) else none
def rg2 (fl : M (List Av)) : M (List Dt) := bindM fl fun as => optM fun ρ => (fzs ρ as).bind fun xs => (int2 xs).bind fun q => if mid q.1 && mid q.2 then some (rangeD q.1 (q.2 - q.1).toNat) else none
/-- downward by ones -/
def rg3 (fl : M (List Av)) : M (List Dt) := bindM fl fun as => optM fun ρ => (fzs ρ as).bind fun xs => (int3 xs).bind fun q => if mid q.1 && mid q.2.1 && decide (q.2.2 = -1) then some (rangeC q.1 (-1) (q.1 - q.2.1).toNat) else none
section
variable {X : Cx} {b : Bs} {W : WX} {tg l : Expr} {fa : M Av} {fl : M (List Av)}
theorem weakI {iter : Expr} {t t' : TI} (h : PI X tg iter t) (w : ∀ σ H R, t' σ H R → t σ H R) : PI X tg iter t' := ⟨fun pins s σ H R I q => h.run pins s σ H R I (w σ H R q)⟩
theorem i_list (hK : X.K = b.K) (hl : PE X l (tE b W fa)) : PI X tg l (tI b W (itM fa)) := weakI (pi_list hl) fun σ H R ⟨c, G, ρ, S, q⟩ => ⟨c, G, ρ, S, (Post.bind q).imp fun a ρ1 G1 H1 e1 S1 q1 v hv => by
  obtain ⟨ds, h1, h2⟩ := q1.opt S1
  cases hx : fzv ρ1 a with
  | none => rw [hx] at h1; cases h1
  | some d =>
    rw [hx] at h1
    have r := hv.fz S1 hx
    cases d with
    | list xs =>
      cases h1
      cases r with
      | lst r1 r2 => exact ⟨_, rfl, ⟨_, SqL.of (S1.gh _ _ r1 rfl)⟩, by rw [hK]; exact h2 _ (yl_list (SqL.of r1) r2)⟩
    | _ => cases h1⟩
theorem i_tup (hK : X.K = b.K) (hl : PE X l (tE b W fa)) : PI X tg l (tI b W (itT fa)) := weakI (pi_tup hl) fun σ H R ⟨c, G, ρ, S, q⟩ => ⟨c, G, ρ, S, (Post.bind q).imp fun a ρ1 G1 H1 e1 S1 q1 v hv => by
  obtain ⟨ds, h1, h2⟩ := q1.opt S1
  cases hx : fzv ρ1 a with
  | none => rw [hx] at h1; cases h1
  | some d =>
    rw [hx] at h1
    have r := hv.fz S1 hx
    cases d with
    | tuple xs =>
      cases h1
      cases r with
      | tup r1 r2 => exact ⟨_, rfl, ⟨_, by rw [hK]; exact same_sqT S1.gh r1.sq⟩, by rw [hK]; exact h2 _ (yl_tup r1.sq r2)⟩
    | _ => cases h1⟩
theorem mid_of {i : Int} (h : mid i = true) : -(2 ^ 62) ≤ i ∧ i < 2 ^ 62 := by
  unfold mid at h
  have h := Nat.blt_eq.mp h
  omega
theorem rps_int1 {K : Fg} {G : Hp} {vs : List V} {xs : List Dt} {i : Int} (r : Rps K G vs xs) (e : int1 xs = some i) : vs = [.int i] := by
  unfold int1 at e
  split at e
  · cases e
    cases r with
    | cons r1 r2 =>
      cases r1
      cases r2
      rfl
  · cases e
theorem rps_int2 {K : Fg} {G : Hp} {vs : List V} {xs : List Dt} {i : Int × Int} (r : Rps K G vs xs) (e : int2 xs = some i) : vs = [.int i.1, .int i.2] := by
  unfold int2 at e
  split at e
  · cases e
    cases r with
    | cons r1 r2 =>
      cases r1
      cases r2 with
      | cons r3 r4 =>
        cases r3
        cases r4
        rfl
  · cases e
theorem rps_int3 {K : Fg} {G : Hp} {vs : List V} {xs : List Dt} {i : Int × Int × Int} (r : Rps K G vs xs) (e : int3 xs = some i) : vs = [.int i.1, .int i.2.1, .int i.2.2] := by
  unfold int3 at e
  split at e
  · cases e
    cases r with
    | cons r1 r2 =>
      cases r1
      cases r2 with
      | cons r3 r4 =>
        cases r3
        cases r4 with
        | cons r5 r6 =>
          cases r5
          cases r6
          rfl
  · cases e
theorem i_range1 {a : Expr} {p pos : Pos} (hg : Gl X "range") (hm : X.mg "range" = none) (ha : PA X [a] (tL b W fl)) (hs : starEach [a] X.env = [(false, eval a X.env)] := by rfl) : PI X tg (.Call (.Name "range" p) [a] [] pos) (tI b W (rg1 fl)) :=
  weakI (pi_range1 hg hm ha hs) fun σ H R ⟨c, G, ρ, S, q⟩ => ⟨c, G, ρ, S, (Post.bind q).imp fun as ρ1 G1 H1 e1 S1 q1 vs hv => by
    obtain ⟨ds, h1, h2⟩ := q1.opt S1
    cases hx : fzs ρ1 as with
    | none => rw [hx] at h1; cases h1
    | some xs =>
      rw [hx, Option.bind_some] at h1
      cases hy : int1 xs with
      | none => rw [hy] at h1; cases h1
      | some j =>
        rw [hy, Option.bind_some] at h1
        split at h1
        · rename_i hj
          cases h1
          exact ⟨j, rps_int1 (fzs_of S1 hv hx) hy, (mid_of hj).1, (mid_of hj).2, h2 _ (yl_range _ _ _ _)⟩
        · cases h1⟩
theorem i_range2 {a a2 : Expr} {p pos : Pos} (hg : Gl X "range") (hm : X.mg "range" = none) (ha : PA X [a, a2] (tL b W fl)) (hs : starEach [a, a2] X.env = [(false, eval a X.env), (false, eval a2 X.env)] := by rfl) (hs2 : starEach [a2] X.env = [(false, eval a2 X.env)] := by rfl) : PI X tg (.Call (.Name "range" p) [a, a2] [] pos) (tI b W (rg2 fl)) :=
  weakI (pi_range2 hg hm ha hs hs2) fun σ H R ⟨c, G, ρ, S, q⟩ => ⟨c, G, ρ, S, (Post.bind q).imp fun as ρ1 G1 H1 e1 S1 q1 vs hv => by
    obtain ⟨ds, h1, h2⟩ := q1.opt S1
    cases hx : fzs ρ1 as with
    | none => rw [hx] at h1; cases h1
    | some xs =>
      rw [hx, Option.bind_some] at h1
      cases hy : int2 xs with
      | none => rw [hy] at h1; cases h1
      | some j =>
        rw [hy, Option.bind_some] at h1
        split at h1
        · rename_i hj
          cases h1
          rw [Bool.and_eq_true] at hj
          exact ⟨j.1, j.2, rps_int2 (fzs_of S1 hv hx) hy, ⟨(mid_of hj.1).1, (mid_of hj.1).2, (mid_of hj.2).1, (mid_of hj.2).2⟩, h2 _ (yl_range _ _ _ _)⟩
        · cases h1⟩
theorem i_range3 {a a2 a3 : Expr} {p pos : Pos} (ha : PA X [a, a2, a3] (tL b W fl)) (hp : ∀ {ta : TA}, PA X [a, a2, a3] ta → PI X tg (.Call (.Name "range" p) [a, a2, a3] [] pos) (iRng3 ta)) : PI X tg (.Call (.Name "range" p) [a, a2, a3] [] pos) (tI b W (rg3 fl)) :=
  weakI (hp ha) fun σ H R ⟨c, G, ρ, S, q⟩ => ⟨c, G, ρ, S, (Post.bind q).imp fun as ρ1 G1 H1 e1 S1 q1 vs hv => by
    obtain ⟨ds, h1, h2⟩ := q1.opt S1
    cases hx : fzs ρ1 as with
    | none => rw [hx] at h1; cases h1
    | some xs =>
      rw [hx, Option.bind_some] at h1
      cases hy : int3 xs with
      | none => rw [hy] at h1; cases h1
      | some j =>
        rw [hy, Option.bind_some] at h1
        split at h1
        · rename_i hj
          cases h1
          rw [Bool.and_eq_true, Bool.and_eq_true, decide_eq_true_eq] at hj
          obtain ⟨⟨j1, j2⟩, j3⟩ := hj
          have ev := rps_int3 (fzs_of S1 hv hx) hy
          rw [j3] at ev
          exact ⟨j.1, j.2.1, -1, _, ev, RgC.neg (mid_of j1).1 (mid_of j1).2 (mid_of j2).1 (mid_of j2).2, h2 _ (yl_rangeC _ _ _ _ _)⟩
        · cases h1⟩
end
/-! for -/
def forL (t : Tgt) (body : M Fl) : List Dt → M Fl
  | [] => retM .nx
  | d :: ds => fun ρ => match putT t d ρ with
    | .ok _ ρ1 => (match body ρ1 with
      | .ok .nx ρ2 => forL t body ds ρ2
      | .ok .ct ρ2 => forL t body ds ρ2
      | .ok .bk ρ2 => .ok .nx ρ2
      | o => o)
    | _ => .bad
def forM (fi : M (List Dt)) (t : Tgt) (body : M Fl) : M Fl := bindM fi fun ds => forL t body ds
section
variable {X : Cx} {b : Bs} {W : WX} {tg iter : Expr} {body : List Stmt} {fi : M (List Dt)} {t : Tgt} {f : M Fl} {pos : Pos}
theorem s_for (hK : X.K = b.K) (hp : PassesOwn (model X.prog X.w) X.A X.env X.xe) (hc : X.calm = true) (hi : PI X tg iter (tI b W fi)) (hg : PG X tg (gRaw X.K t)) (hd : PSs X body (tS b W f)) (hs : ∀ x, foldedSetIterable iter X.env x = pure x := by intro _; rfl) :
    PS X (.For tg iter body [] pos) (tS b W (forM fi t f)) := weakS (ps_for hp hc hi hg hd hs) fun D σ H ⟨c, G, ρ, hb, S, q⟩ => by
  refine ⟨c, G, ρ, S, (PostS.bind σ q).imp fun ds ρ1 G1 H1 e1 S1 q1 J hJ => ?_⟩
  refine ⟨fun i m σ' H' => ∃ G' ρ', Same G1 G' ∧ SIG b c G' ρ' σ' H' ∧ i + m = ds.length ∧ PostS b c W G' D (forL t f (ds.drop i) ρ'), ⟨ds.length, G1, ρ1, Same.refl _, S1, Nat.zero_add _, q1⟩, ?_⟩
  rintro i m σ' H' ⟨G', ρ', e', S', em, q'⟩
  have gh : SameG G1 H' := SameG.tr e' S'.gh
  by_cases hi : i < ds.length
  · have ed : ds.drop i = ds[i] :: ds.drop (i + 1) := List.drop_eq_getElem_cons hi
    refine .inr ⟨hJ.go i H' gh hi, fun σ2 H2 => ∃ G2 ρ2, Same G1 G2 ∧ SIG b c G2 ρ2 σ2 H2 ∧ PostS b c W G2 D (forL t f (ds.drop (i + 1)) ρ2), ?_, fun x H2 hy => ?_⟩
    · rintro σ2 H2 ⟨G2, ρ2, a1, a2, a3⟩
      exact ⟨m - 1, by omega, G2, ρ2, a1, a2, by omega, a3⟩
    · obtain ⟨rfl, d, hd, rd⟩ := hJ.yl i H' x H2 gh hi hy
      have ed2 : d = ds[i] := by
        rw [List.getElem?_eq_getElem hi] at hd
        exact (Option.some.inj hd).symm
      rw [hK]
      rw [ed] at q'
      have q2 : PostS b c W G' D (match putT t ds[i] ρ' with
        | .ok _ ρ1 => (match f ρ1 with
          | .ok .nx ρ2 => forL t f (ds.drop (i + 1)) ρ2
          | .ok .ct ρ2 => forL t f (ds.drop (i + 1)) ρ2
          | .ok .bk ρ2 => .ok .nx ρ2
          | o => o)
        | _ => .bad) := q'
      rw [ed2] at rd
      cases e3 : putT t ds[i] ρ' with
      | err k ρ3 => rw [e3] at q2; exact q2.elim
      | bad => rw [e3] at q2; exact q2.elim
      | ok z ρ3 =>
        rw [e3] at q2
        refine putT_ok S' (Rp.mono e' _ _ rd) e3 fun σ3 S3 _ => ?_
        have ee := Same.refl G'
        refine ⟨c, G', ρ3, hb, S3, ?_⟩
        dsimp only at q2
        cases e4 : f ρ3 with
        | bad => rw [e4] at q2; exact q2.elim
        | err k ρ4 =>
          rw [e4] at q2
          exact fun σ4 H4 G4 e5 S4 => q2 σ4 H4 G4 (ee.trans e5) S4
        | ok fl ρ4 =>
          rw [e4] at q2
          cases fl with
          | nx => exact fun σ4 H4 G4 e5 S4 => ⟨G4, ρ4, (e'.trans ee).trans e5, S4, PostS.mono (ee.trans e5) q2⟩
          | ct => exact fun σ4 H4 G4 e5 S4 => ⟨G4, ρ4, (e'.trans ee).trans e5, S4, PostS.mono (ee.trans e5) q2⟩
          | bk => exact fun σ4 H4 G4 e5 S4 => q2 σ4 H4 G4 (ee.trans e5) S4
          | rt r => exact fun v σ4 H4 G4 e5 S4 => q2 v σ4 H4 G4 (ee.trans e5) S4
  · have ei : i = ds.length := by omega
    subst ei
    refine .inl ⟨hJ.st H' gh, ?_⟩
    rw [List.drop_length] at q'
    exact q' σ' H' G' (Same.refl _) S'
end
end G8
namespace G8
open PySem L2
/-! list comprehensions -/
def wipeE (ρ : Ev) : List Nat → Ev
  | [] => ρ
  | v :: vs => (wipeE ρ vs).set v none
def backE (ρ ρ' : Ev) : List Nat → Ev
  | [] => ρ'
  | v :: vs => (backE ρ ρ' vs).set v ((ρ[v]?).getD none)
def anyOwn (ρ : Ev) (is : List Nat) : Bool := is.any fun i => ownAt ρ[i]?
def stepL (t : Tgt) (ft : M Bool) (fe : M Av) (d : Dt) : M (Option Dt) := fun ρ => if anyOwn ρ t.slots then .bad else match putT t d (wipeE ρ t.slots) with
  | .ok _ ρ1 => (match ft ρ1 with
    | .ok true ρ2 => (match fe ρ2 with
      | .ok a ρ3 => (match fzv ρ3 a with
        | some x => .ok (some x) (backE ρ ρ3 t.slots)
        | none => .bad)
      | _ => .bad)
    | .ok false ρ2 => .ok none (backE ρ ρ2 t.slots)
    | _ => .bad)
  | _ => .bad
def compL (t : Tgt) (ft : M Bool) (fe : M Av) : List Dt → List Dt → M (List Dt)
  | [], acc => retM acc
  | d :: ds, acc => bindM (stepL t ft fe d) fun o => match o with
    | some x => if acc.length < 1000000 then compL t ft fe ds (acc ++ [x]) else badM
    | none => compL t ft fe ds acc
theorem bindM_ok {α β : Type} {f : M α} {g : α → M β} {ρ ρ' : Ev} {a : α} (h : f ρ = .ok a ρ') : bindM f g ρ = g a ρ' := by
  unfold bindM
  rw [h]
theorem bindM_bad {α β : Type} {f : M α} {g : α → M β} {ρ : Ev} (h : f ρ = .bad) : bindM f g ρ = .bad := by
  unfold bindM
  rw [h]
theorem bindM_err {α β : Type} {f : M α} {g : α → M β} {ρ ρ' : Ev} {k : Nat} (h : f ρ = .err k ρ') : bindM f g ρ = .err k ρ' := by
  unfold bindM
  rw [h]
theorem bindM_assoc {α β γ : Type} (f : M α) (g : α → M β) (h : β → M γ) (ρ : Ev) : bindM (bindM f g) h ρ = bindM f (fun a => bindM (g a) h) ρ := by
  cases e : f ρ with
  | ok a ρ1 => rw [bindM_ok e]; unfold bindM; rw [e]
  | err k ρ1 => rw [bindM_err e, bindM_err (bindM_err e)]
  | bad => rw [bindM_bad e, bindM_bad (bindM_bad e)]
theorem stepL_cases {t : Tgt} {ft : M Bool} {fe : M Av} {d : Dt} {ρ ρ' : Ev} {o : Option Dt} (h : stepL t ft fe d ρ = .ok o ρ') : anyOwn ρ t.slots = false ∧ ∃ ρ1, putT t d (wipeE ρ t.slots) = .ok () ρ1 ∧ ∃ bb ρ2, ft ρ1 = .ok bb ρ2 ∧
    ((bb = false ∧ o = none ∧ ρ' = backE ρ ρ2 t.slots) ∨ (bb = true ∧ ∃ a ρ3 x, fe ρ2 = .ok a ρ3 ∧ fzv ρ3 a = some x ∧ o = some x ∧ ρ' = backE ρ ρ3 t.slots)) := by
  unfold stepL at h
  cases ha : anyOwn ρ t.slots with
  | true => rw [ha, if_pos rfl] at h; cases h
  | false =>
    rw [ha, if_neg Bool.false_ne_true] at h
    refine ⟨rfl, ?_⟩
    cases e1 : putT t d (wipeE ρ t.slots) with
    | err k ρ1 => rw [e1] at h; cases h
    | bad => rw [e1] at h; cases h
    | ok z ρ1 =>
      rw [e1] at h
      dsimp only at h
      refine ⟨ρ1, rfl, ?_⟩
      cases e2 : ft ρ1 with
      | err k ρ2 => rw [e2] at h; cases h
      | bad => rw [e2] at h; cases h
      | ok bb ρ2 =>
        rw [e2] at h
        refine ⟨bb, ρ2, rfl, ?_⟩
        cases bb with
        | false =>
          dsimp only at h
          cases h
          exact .inl ⟨rfl, rfl, rfl⟩
        | true =>
          dsimp only at h
          cases e3 : fe ρ2 with
          | err k ρ3 => rw [e3] at h; cases h
          | bad => rw [e3] at h; cases h
          | ok a ρ3 =>
            rw [e3] at h
            dsimp only at h
            cases e4 : fzv ρ3 a with
            | none => rw [e4] at h; cases h
            | some x =>
              rw [e4] at h
              cases h
              exact .inr ⟨rfl, a, ρ3, x, rfl, e4, rfl, rfl⟩
theorem stepL_noerr {t : Tgt} {ft : M Bool} {fe : M Av} {d : Dt} {ρ ρ' : Ev} {k : Nat} : stepL t ft fe d ρ ≠ .err k ρ' := fun h => by
  unfold stepL at h
  split at h
  · cases h
  · split at h
    · split at h
      · split at h
        · split at h <;> cases h
        · cases h
      · cases h
      · cases h
    · cases h
def lcM (fi : M (List Dt)) (t : Tgt) (ft : M Bool) (fe : M Av) : M Rv := bindM fi fun ds => bindM (compL t ft fe ds []) fun xs => retM (.l xs)
abbrev W0 : WX := fun _ _ _ _ => False
theorem wipeE_len (ρ : Ev) : ∀ is : List Nat, (wipeE ρ is).length = ρ.length
  | [] => rfl
  | i :: is => by unfold wipeE; rw [List.length_set, wipeE_len ρ is]
theorem wipeE_in (ρ : Ev) : ∀ (is : List Nat) (j : Nat) (s : Sv), (wipeE ρ is)[j]? = some (some s) → ρ[j]? = some (some s)
  | [], _, _, h => h
  | i :: is, j, s, h => by
    unfold wipeE at h
    rw [getElem?_set_eq'] at h
    split at h
    · split at h <;> cases h
    · exact wipeE_in ρ is j s h
theorem backE_len (ρ ρ' : Ev) : ∀ is : List Nat, (backE ρ ρ' is).length = ρ'.length
  | [] => rfl
  | i :: is => by unfold backE; rw [List.length_set, backE_len ρ ρ' is]
theorem backE_out (ρ ρ' : Ev) : ∀ (is : List Nat) (j : Nat), j ∉ is → (backE ρ ρ' is)[j]? = ρ'[j]?
  | [], _, _ => rfl
  | i :: is, j, h => by
    rw [List.mem_cons, not_or] at h
    unfold backE
    rw [List.getElem?_set_ne (Ne.symm h.1)]
    exact backE_out ρ ρ' is j h.2
theorem backE_own (ρ ρ' : Ev) : ∀ (is : List Nat) (j : Nat), j ∈ is → ∀ s, (backE ρ ρ' is)[j]? = some (some s) → ρ[j]? = some (some s)
  | [], _, h, _, _ => by cases h
  | i :: is, j, h, s, e => by
    unfold backE at e
    by_cases hj : i = j
    · subst hj
      rw [getElem?_set_eq', if_pos rfl] at e
      split at e
      · cases q : ρ[i]? with
        | none => rw [q] at e; cases e
        | some o => rw [q] at e; cases e; rfl
      · cases e
    · rw [List.getElem?_set_ne hj] at e
      exact backE_own ρ ρ' is j (by simpa [Ne.symm hj] using h) s e
theorem wipe_wipe (σ : St) (is : List Nat) : ∀ js : List Nat, (∀ j ∈ js, j ∈ is) → wipe (wipe σ js) is = wipe σ is
  | [], _ => rfl
  | j :: js, h => by
    rw [show wipe σ (j :: js) = (wipe σ js).set j none from rfl, wipe_set _ j _ is (h j List.mem_cons_self)]
    exact wipe_wipe σ is js fun k hk => h k (List.mem_cons_of_mem _ hk)
def refsOf (ρ : Ev) (σ : St) : List (Nat × Addr × Bool) := (List.range ρ.length).filterMap fun (j : Nat) => match ρ[j]?, σ[j]? with
  | some (some s), some (some (V.ref p)) => if s.own then some (j, p, s.isRef) else none
  | _, _ => none
theorem mem_refsOf {ρ : Ev} {σ : St} {j : Nat} {p : Addr} {f : Bool} : (j, p, f) ∈ refsOf ρ σ ↔ ∃ s, ρ[j]? = some (some s) ∧ s.own = true ∧ s.isRef = f ∧ σ[j]? = some (some (.ref p)) := by
  unfold refsOf
  rw [List.mem_filterMap]
  constructor
  · rintro ⟨k, _, e⟩
    split at e
    · rename_i s p' h1 h2
      split at e
      · rename_i ho
        cases e
        exact ⟨s, h1, ho, rfl, h2⟩
      · cases e
    · cases e
  · rintro ⟨s, h1, h2, rfl, h3⟩
    refine ⟨j, List.mem_range.mpr (List.getElem?_eq_some_iff.mp h1).1, ?_⟩
    rw [h1, h3]
    show (if s.own = true then _ else _) = _
    rw [if_pos h2]
section
variable {b : Bs} {c : Fc} {G G' H H' : Hp} {ρ ρ' : Ev} {σ σ' : St}
/-- the lists of the meters in slots -/
def zoneOf (H : Hp) (ρ : Ev) (σ : St) : Addr → Prop := fun q => ∃ (i : Nat) (r : Bool) (m : Ms) (p C : Addr) (m' : Ms) (Z : List Addr), ρ[i]? = some (some (.mt r m)) ∧ σ[i]? = some (some (.ref p)) ∧ MeterAt C H p m' Z ∧ q ∈ Z
theorem SIG.zone (S : SIG b c G ρ σ H) {q : Addr} (h : zoneOf H ρ σ q) : Mk G q ∧ (c.H0 q = none ∨ c.Z q) := by
  obtain ⟨i, r, m, p, C, m', Z, h1, h2, h3, h4⟩ := h
  obtain ⟨Z', z1, z2⟩ := S.mz i r m p h1 h2
  rw [h3.uniq z1] at h4
  exact z2 q h4
def inner (G H : Hp) (ρ : Ev) (σ : St) : Fc := ⟨G, H, refsOf ρ σ, zoneOf H ρ σ, fun i => ∃ r m, ρ[i]? = some (some (.mt r m))⟩
theorem SIG.notZ (S : SIG b c G ρ σ H) {q : Addr} (h : G q = none) : ¬ zoneOf H ρ σ q := fun z => (S.zone z).1.ne h rfl
theorem SIG.enter (S : SIG b c G ρ σ H) : SIG b (inner G H ρ σ) G ρ σ H :=
  ⟨S.len, Same.refl _, S.gh, S.gm, fun a o e _ _ _ => e, fun a o e => .inl e, S.sl, S.sp, fun i s p e ho hp => .inr ⟨_, mem_refsOf.mpr ⟨s, e, ho, rfl, hp⟩⟩, fun i p f h => by
    obtain ⟨s, h1, h2, h3, h4⟩ := mem_refsOf.mp h
    exact ⟨h4, s, h1, h2, h3⟩, S.tb, S.hT, fun i r m p h1 h2 => by
    obtain ⟨Z, z1, z2⟩ := S.mz i r m p h1 h2
    exact ⟨Z, z1, fun q hq => ⟨(z2 q hq).1, .inr ⟨i, r, m, p, _, m, Z, h1, h2, z1, hq⟩⟩⟩, S.m1, fun a z => (S.zone z).1, fun i p f s _ h2 h3 => by
    obtain ⟨r, m, rfl⟩ := isMt_of h3
    exact ⟨r, m, h2⟩⟩
theorem SIG.wipe (S : SIG b c G ρ σ H) : ∀ is : List Nat, anyOwn ρ is = false → SIG b c G (wipeE ρ is) (wipe σ is) H
  | [], _ => S
  | i :: is, h => by
    unfold anyOwn at h
    rw [List.any_cons, Bool.or_eq_false_iff] at h
    refine (SIG.wipe S is h.2).drop (fun s e => .inl ?_) none
    have := wipeE_in ρ is i s e
    rw [this] at h
    exact h.1
theorem SIG.leave (S : SIG b c G ρ σ H) {is : List Nat} (ha : anyOwn ρ is = false) (S' : SIG b (inner G H ρ σ) G' ρ' σ' H') (e : Same G G') (hw : L2.wipe σ' is = L2.wipe σ is) : SIG b c G' (backE ρ ρ' is) σ H' := by
  have hno : ∀ j ∈ is, ownAt ρ[j]? = false := fun j hj => by
    unfold anyOwn at ha
    exact Bool.eq_false_iff.mpr fun z => by
      have := List.any_eq_true (p := fun (i : Nat) => ownAt ρ[i]?) |>.mpr ⟨j, hj, z⟩
      rw [ha] at this
      cases this
  have hσ : ∀ j, j ∉ is → σ'[j]? = σ[j]? := fun j hj => by rw [← wipe_out (σ := σ') hj, hw, wipe_out hj]
  have hlen : σ'.length = σ.length := by rw [← wipe_length σ' is, hw, wipe_length]
  have out : ∀ {j s}, (backE ρ ρ' is)[j]? = some (some s) → s.own = true → j ∉ is ∧ ρ'[j]? = some (some s) := fun {j s} q ho => by
    by_cases hj : j ∈ is
    · have h1 := backE_own ρ ρ' is j hj s q
      have h2 := hno j hj
      rw [h1] at h2
      rw [show ownAt (some (some s)) = s.own from rfl, ho] at h2
      cases h2
    · exact ⟨hj, by rw [← backE_out ρ ρ' is j hj]; exact q⟩
  have omt : ∀ {j s}, (backE ρ ρ' is)[j]? = some (some s) → s.isMt = true → j ∉ is ∧ ρ'[j]? = some (some s) := fun {j s} q hs => by
    obtain ⟨r, m, rfl⟩ := isMt_of hs
    exact out q rfl
  refine ⟨by rw [backE_len, S'.len, hlen], S.g0.trans e, S'.gh, S'.gm, fun a o h1 hT h2 hZ => ?_, fun a o h1 => ?_, fun j s q => ?_, fun j k sj sk p q1 q2 o1 o2 a1 a2 => ?_, fun j s p q o1 a1 => ?_, fun j p f hj => ?_, S'.tb, S.ct, fun j r m p h1 h2 => ?_, fun j k sj sk h1 h2 g1 g2 => S'.m1 j k sj sk (omt h1 g1).2 (omt h2 g2).2 g1 g2, S.zz, fun j p f s h1 h2 h3 => ?_⟩
  case refine_8 =>
    obtain ⟨g1, s0, g2, g3, g4⟩ := S.rf j p f h1
    obtain ⟨n1, q⟩ := omt h2 h3
    obtain ⟨r, m, q2⟩ := S'.rk j p f s (mem_refsOf.mpr ⟨s0, g2, g3, g4, g1⟩) q h3
    exact S.rk j p f _ h1 q2 rfl
  case refine_7 =>
    obtain ⟨n1, q⟩ := omt h1 rfl
    obtain ⟨Z, z1, z2⟩ := S'.mz j r m p q (by rw [hσ j n1]; exact h2)
    refine ⟨Z, z1, fun x hx => ⟨(z2 x hx).1, ?_⟩⟩
    rcases (z2 x hx).2 with z | z
    · exact .inl (S.fresh0 z)
    · exact (S.zone z).2
  · refine S'.fr a o (S.fr a o h1 hT h2 hZ) hT (fun j f hj => ?_) fun z => ?_
    · obtain ⟨s, r1, r2, r3, r4⟩ := mem_refsOf.mp hj
      rcases S.nw j s a r1 r2 r4 with z | ⟨f', z⟩
      · rw [h1] at z; cases z
      · exact h2 j f' z
    · rcases (S.zone z).2 with y | y
      · rw [h1] at y; cases y
      · exact hZ y
  · rcases S'.gn a o h1 with z | z | ⟨xs, rfl, z⟩
    · exact S.gn a o z
    · exact .inr (.inl (S.fresh0 z))
    · rcases S.tup0 z with y | y
      · exact .inr (.inl y)
      · exact .inr (.inr ⟨xs, rfl, y⟩)
  · by_cases hj : j ∈ is
    · have h1 := backE_own ρ ρ' is j hj s q
      obtain ⟨v, hv, r⟩ := S.sl j s h1
      have h2 := hno j hj
      rw [h1] at h2
      exact ⟨v, hv, r.keep e fun p u ho _ _ => by rw [show ownAt (some (some s)) = s.own from rfl, ho] at h2; cases h2⟩
    · rw [backE_out ρ ρ' is j hj] at q
      obtain ⟨v, hv, r⟩ := S'.sl j s q
      exact ⟨v, by rw [← hσ j hj]; exact hv, r⟩
  · obtain ⟨n1, q1⟩ := out q1 o1
    obtain ⟨n2, q2⟩ := out q2 o2
    exact S'.sp j k sj sk p q1 q2 o1 o2 (by rw [hσ j n1]; exact a1) (by rw [hσ k n2]; exact a2)
  · obtain ⟨n1, q⟩ := out q o1
    rcases S'.nw j s p q o1 (by rw [hσ j n1]; exact a1) with z | ⟨f, z⟩
    · exact .inl (S.fresh0 z)
    · obtain ⟨s', r1, r2, r3, r4⟩ := mem_refsOf.mp z
      exact S.nw j s' p r1 r2 r4
  · obtain ⟨h1, s, h2, h3, h4⟩ := S.rf j p f hj
    have n1 : j ∉ is := fun z => by
      have := hno j z
      rw [h2, show ownAt (some (some s)) = s.own from rfl, h3] at this
      cases this
    obtain ⟨g1, s', g2, g3, g4⟩ := S'.rf j p f (mem_refsOf.mpr ⟨s, h2, h3, h4, h1⟩)
    exact ⟨h1, s', by rw [backE_out ρ ρ' is j n1]; exact g2, g3, g4⟩
/-- an object apart is changed -/
theorem SIG.poke (S : SIG b c G ρ σ H) {p : Addr} {o : HO} (hg : G p = none) (h0 : c.H0 p = none) (no : NoOwn ρ σ p) {xs : List V} (hx : H p = some (.lst xs)) : SIG b c G ρ σ (upd H p o) := by
  refine ⟨S.len, S.g0, fun a u e hm => by rw [upd_ne (ne_of_none e hg)]; exact S.gh a u e hm, fun a hm => by rw [upd_ne (hm.ne hg)]; exact S.gm a hm, fun a u e m n z => by rw [upd_ne (ne_of_none e h0)]; exact S.fr a u e m n z, S.gn, fun i sv e => ?_, S.sp, S.nw, S.rf, tabs_mut S.tb hx (fun _ z => by cases z) (fun _ z => by cases z), S.ct, S.mzk (Same.refl G) (fun a u ha q => ?_) (fun i r m p h1 h2 => ⟨i, r, h1, h2⟩), S.m1, S.zz, S.rk⟩
  case refine_2 =>
    rw [upd_ne ?_]
    · exact q
    intro z
    rcases ha with ha | ⟨ys, ha⟩ | ⟨i, s, h1, h2, h3⟩
    · exact ha.ne hg z
    · subst ha
      rw [z, hx] at q
      cases q
    · obtain ⟨r, m, rfl⟩ := isMt_of h2
      exact no i _ h1 rfl (by rw [h3, z])
  obtain ⟨v, hv, r⟩ := S.sl i sv e
  refine ⟨v, hv, r.keep (Same.refl G) fun q u ho ev hq => ?_⟩
  have hne : q ≠ p := fun z => no i sv e ho (by rw [hv, ev, z])
  obtain ⟨q', _, e', _, g'⟩ := r.at ho
  rw [ev] at e'
  cases e'
  exact ⟨by rw [upd_ne hne]; exact hq, g'⟩
theorem noOwn_back {is : List Nat} {D : Addr} (S : SIG b c G ρ σ H) (ha : anyOwn ρ is = false) (S' : SIG b (inner G H ρ σ) G' ρ' σ' H') (hw : L2.wipe σ' is = L2.wipe σ is) {o : HO} (hD : H D = some o) (no : NoOwn ρ σ D) : NoOwn (backE ρ ρ' is) σ D := fun j s q ho a1 => by
  by_cases hj : j ∈ is
  · have h1 := backE_own ρ ρ' is j hj s q
    exact no j s h1 ho a1
  · rw [backE_out ρ ρ' is j hj] at q
    have hσ : σ'[j]? = σ[j]? := by rw [← wipe_out (σ := σ') hj, hw, wipe_out hj]
    rcases S'.nw j s D q ho (by rw [hσ]; exact a1) with z | ⟨f, z⟩
    · rw [show (inner G H ρ σ).H0 D = H D from rfl, hD] at z
      cases z
    · obtain ⟨s', r1, r2, r3, r4⟩ := mem_refsOf.mp z
      exact no j s' r1 r2 r4
end
section
variable {X : Cx} {b : Bs} {W : WX} {fi : M (List Dt)} {t : Tgt} {ft : M Bool} {fe : M Av}
theorem lc_sound {σ : St} {H : Hp} {Q : VK} (h : tV b W (lcM fi t ft fe) σ H Q) : tLc (tI b W fi) (gRaw b.K t) (tT b W0 ft) (tE b W0 fe) t.slots σ H Q := by
  obtain ⟨c, G, ρ, S, q⟩ := h
  refine ⟨c, G, ρ, S, (Post.bind q).imp fun ds ρ1 G1 H1 e1 S1 q1 J hJ => ?_⟩
  intro D hD
  have h0 : c.H0 D = none := S1.fresh0 hD
  let P : Rv → Ev → Hp → Hp → Prop := fun r ρ' G' H' => ∀ v, RN b c G' H' v r → Apart ρ' σ v r → Q v H'
  refine ⟨fun i m H' => ∃ G' ρ' accV acc, Same G1 G' ∧ SIG b c G' ρ' σ H' ∧ i + m = ds.length ∧ H' D = some (.lst accV) ∧ G' D = none ∧ Rps b.K G' accV acc ∧ NoOwn ρ' σ D ∧ Post b c W G' σ P (bindM (compL t ft fe (ds.drop i) acc) (fun xs => retM (.l xs)) ρ'),
    ⟨ds.length, G1, ρ1, [], [], Same.refl _, S1.alloc hD, Nat.zero_add _, upd_same, S1.free hD, .nil, S1.noOwn hD, q1⟩, ?_⟩
  rintro i m H' ⟨G', ρ', accV, acc, e', S', em, hA, gD, rA, no, q'⟩
  have gh : SameG G1 H' := SameG.tr e' S'.gh
  by_cases hi : i < ds.length
  · have ed : ds.drop i = ds[i] :: ds.drop (i + 1) := List.drop_eq_getElem_cons hi
    rw [ed] at q'
    refine .inr ⟨hJ.go i H' gh hi, fun H2 => ∃ G' ρ' accV acc, Same G1 G' ∧ SIG b c G' ρ' σ H2 ∧ H2 D = some (.lst accV) ∧ G' D = none ∧ Rps b.K G' accV acc ∧ NoOwn ρ' σ D ∧ Post b c W G' σ P (bindM (compL t ft fe (ds.drop (i + 1)) acc) (fun xs => retM (.l xs)) ρ'), ?_, fun x H2 hy => ?_⟩
    · rintro H2 ⟨G2, ρ2, av, ac, a1, a2, a3, a4, a5, a6, a7⟩
      exact ⟨m - 1, by omega, G2, ρ2, av, ac, a1, a2, by omega, a3, a4, a5, a6, a7⟩
    · obtain ⟨rfl, d, hd, rd⟩ := hJ.yl i H' x H2 gh hi hy
      have ed2 : d = ds[i] := by
        rw [List.getElem?_eq_getElem hi] at hd
        exact (Option.some.inj hd).symm
      rw [ed2] at rd
      rw [show compL t ft fe (ds[i] :: ds.drop (i + 1)) acc = bindM (stepL t ft fe ds[i]) (fun o => match o with
        | some x => if acc.length < 1000000 then compL t ft fe (ds.drop (i + 1)) (acc ++ [x]) else badM
        | none => compL t ft fe (ds.drop (i + 1)) acc) from rfl, bindM_assoc] at q'
      cases hs : stepL t ft fe ds[i] ρ' with
      | err k ρn => exact absurd hs stepL_noerr
      | bad => rw [bindM_bad hs] at q'; exact q'.elim
      | ok o ρn =>
        rw [bindM_ok hs] at q'
        obtain ⟨ha, ρ3, e3, bb, ρ4, e4, hcase⟩ := stepL_cases hs
        have S2 := (S'.enter).wipe t.slots ha
        refine putT_ok S2 (Rp.mono e' _ _ rd) e3 fun σ3 S3 hw => ?_
        have hw' : wipe σ3 t.slots = wipe σ t.slots := hw.trans (wipe_wipe σ t.slots t.slots fun _ z => z)
        refine ⟨hw', inner G' H2 ρ' σ, G', ρ3, S3, ?_⟩
        have fin : ∀ {G4 H4 ρ4}, Same G' G4 → SIG b (inner G' H2 ρ' σ) G4 ρ4 σ3 H4 → SIG b c G4 (backE ρ' ρ4 t.slots) σ H4 ∧ H4 D = some (.lst accV) ∧ G4 D = none ∧ NoOwn (backE ρ' ρ4 t.slots) σ D := fun {G4 H4 ρ4} e4 S4 => by
          refine ⟨S'.leave ha S4 e4 hw', S4.fr D _ hA (S'.notT hA rfl) (fun j f hj => ?_) (S'.notZ gD), ?_, noOwn_back S' ha S4 hw' hA no⟩
          · obtain ⟨s, r1, r2, r3, r4⟩ := mem_refsOf.mp hj
            exact no j s r1 r2 r4
          · cases z : G4 D with
            | none => rfl
            | some o =>
              rcases S4.gn D o z with y | y | ⟨_, _, y⟩
              · rw [show (inner G' H2 ρ' σ).G0 D = G' D from rfl, gD] at y; cases y
              · rw [show (inner G' H2 ρ' σ).H0 D = H2 D from rfl, hA] at y; cases y
              · rw [show (inner G' H2 ρ' σ).H0 D = H2 D from rfl, hA] at y; cases y
        rw [e4]
        intro H4 G4 ee4 S4
        rcases hcase with ⟨rfl, rfl, rfl⟩ | ⟨rfl, a, ρ5, xx, e5, e6, rfl, rfl⟩
        · refine iteF ?_
          obtain ⟨f1, f2, f3, f4⟩ := fin ee4 S4
          exact ⟨G4, _, accV, acc, e'.trans ee4, f1, f2, f3, Rps.mono ee4 _ _ rA, f4, Post.mono ee4 q'⟩
        · refine iteT ⟨inner G' H2 ρ' σ, G4, ρ4, S4, ?_⟩
          rw [e5]
          intro H5 G5 ee5 S5 y hy'
          by_cases hl : acc.length < 1000000
          · have q3 : Post b c W G' σ P (bindM (compL t ft fe (ds.drop (i + 1)) (acc ++ [xx])) (fun xs => retM (.l xs)) (backE ρ' ρ5 t.slots)) := by
              dsimp only at q'
              rw [if_pos hl] at q'
              exact q'
            obtain ⟨f1, f2, f3, f4⟩ := fin (ee4.trans ee5) S5
            have hz : accV.length < sizeLine := by rw [rA.length]; exact Nat.lt_of_lt_of_le hl (by decide)
            refine ⟨accV, f2, hz, G5, _, accV ++ [y], acc ++ [xx], (e'.trans ee4).trans ee5, f1.poke f3 h0 f4 f2, upd_same, f3, ?_, f4, Post.mono (ee4.trans ee5) q3⟩
            exact (Rps.mono (ee4.trans ee5) _ _ rA).append (.cons (hy'.fz S5 e6) .nil)
          · dsimp only at q'
            rw [if_neg hl] at q'
            exact q'.elim
  · have ei : i = ds.length := by omega
    subst ei
    refine .inl ⟨hJ.st H' gh, ?_⟩
    rw [List.drop_length] at q'
    exact q' H' G' (Same.refl _) S' (.ref D) ⟨D, accV, rfl, hA, gD, rA, h0⟩ fun p ep _ => by cases ep; exact no
theorem m_lc {elt tg iter : Expr} {ifs : List Expr} {scope : Scope} {own : List (Str × Nat)} {pos : Pos} (hK : X.K = b.K) (hv : own.map (·.2) = t.slots) (hc : X.calm = true) (hN : X.N.Nodup) (hi : PI X tg iter (tI b W fi)) (ok : BlkOk X.N X.env.scope scope own)
    (hg : ∀ (s : Shared) (H : Hp) (C : Addr) (cl : List (Str × Addr)) (fp : List Addr), PG (X.blk s H scope (compEnvC scope cl C X.env) fp) tg (gRaw X.K t))
    (ht : ∀ (s : Shared) (H : Hp) (C : Addr) (cl : List (Str × Addr)) (fp : List Addr), PTs (X.blk s H scope (compEnvC scope cl C X.env) fp) ifs (tT b W0 ft))
    (he : ∀ (s : Shared) (H : Hp) (C : Addr) (cl : List (Str × Addr)) (fp : List Addr), PE (X.blk s H scope (compEnvC scope cl C X.env) fp) elt (tE b W0 fe)) (hs : ∀ x, foldedSetIterable iter X.env x = pure x := by intro _; rfl) :
    PE X (.ListComp elt [⟨tg, iter, ifs, 0⟩] scope pos) (tV b W (lcM fi t ft fe)) := weakE (pe_lc hc hN hi ok hg ht he hs) fun σ H Q h => by
  rw [hv, hK]
  exact lc_sound h
theorem s_setLc {i : Nat} {y : Str} {py : Pos} {elt tg iter : Expr} {ifs : List Expr} {scope : Scope} {own : List (Str × Nat)} {pos spos : Pos} (hK : X.K = b.K) (hv : own.map (·.2) = t.slots) (hc : X.calm = true) (hN : X.N.Nodup) (hy : X.N[i]? = some y) (hyl : X.env.scope.names.lookup y = some .local)
    (hsw : swapsWith (.ListComp elt [⟨tg, iter, ifs, 0⟩] scope pos) (some (.Name y py)) spos.line X.env = pure true) (hi : PI X tg iter (tI b W fi)) (ok : BlkOk X.N X.env.scope scope own)
    (hg : ∀ (s : Shared) (H : Hp) (C : Addr) (cl : List (Str × Addr)) (fp : List Addr), PG (X.blk s H scope (compEnvC scope cl C X.env) fp) tg (gRaw X.K t))
    (ht : ∀ (s : Shared) (H : Hp) (C : Addr) (cl : List (Str × Addr)) (fp : List Addr), PTs (X.blk s H scope (compEnvC scope cl C X.env) fp) ifs (tT b W0 ft))
    (he : ∀ (s : Shared) (H : Hp) (C : Addr) (cl : List (Str × Addr)) (fp : List Addr), PE (X.blk s H scope (compEnvC scope cl C X.env) fp) elt (tE b W0 fe)) (hs : ∀ x, foldedSetIterable iter X.env x = pure x := by intro _; rfl) :
    PS X (.Assign [.Name y py] (.ListComp elt [⟨tg, iter, ifs, 0⟩] scope pos) spos) (tS b W (setM i (lcM fi t ft fe))) := weakS (ps_setLc hc hN hy hyl hsw hi ok hg ht he hs) fun D σ H h => by
  rw [hv, hK]
  exact lc_sound (setM_core h)
theorem ts_nil : PTs X [] (tT b W (retM true)) := ⟨fun pins s σ H Q I ⟨c, G, ρ, S, q⟩ => pts_nil.run pins s σ H Q I (q H G (Same.refl G) S)⟩
theorem ts_one {c : Expr} (h : PT X c (tT b W ft)) : PTs X [c] (tT b W ft) := pts_one h
end
end G8
namespace G8
open PySem L2
/-! defs: what they do, calls -/
abbrev Fn := List Sv → Out Rv
def svsE (svs : List Sv) : Ev := svs.map some
def vsE (vs : List V) : St := vs.map some
def ctx0 (G H : Hp) (svs : List Sv) (vs : List V) : Fc := inner G H (svsE svs) (vsE vs)
def PostF (b : Bs) (c : Fc) (vs : List V) (Q : VK) (E : XK) : Out Rv → Prop
  | .ok r outs => ∀ v H' G', SIG b c G' outs (vsE vs) H' → RN b c G' H' v r → Q v H'
  | .err k outs => ∀ H' G', SIG b c G' outs (vsE vs) H' → E (.ref (b.C k)) none H'
  | .bad => False
def spF (b : Bs) (n : Nat) (F : Fn) : Sp := fun vs H Q E => ∃ G svs, vs.length = n ∧ SIG b (ctx0 G H svs vs) G (svsE svs) (vsE vs) H ∧ (∀ s ∈ svs, s.own = true → s.isRef = true) ∧ PostF b (ctx0 G H svs vs) vs Q E (F svs)
def finE : List Sv → Ev → Ev
  | [], _ => []
  | s :: ss, ρ => (if s.isRef then (ρ.head?).getD none else none) :: finE ss ρ.tail
def bodyF (n : Nat) (f : M Fl) : Fn := fun svs => match f (svsE svs ++ List.replicate (n - svs.length) none) with
  | .ok (.rt r) ρ => .ok r (finE svs ρ)
  | .ok .nx ρ => .ok (.d .none) (finE svs ρ)
  | .ok _ _ => .bad
  | .err k ρ => .err k (finE svs ρ)
  | .bad => .bad
theorem finE_len : ∀ (svs : List Sv) (ρ : Ev), (finE svs ρ).length = svs.length
  | [], _ => rfl
  | s :: ss, ρ => by unfold finE; rw [List.length_cons, List.length_cons, finE_len ss]
theorem finE_get : ∀ (svs : List Sv) (ρ : Ev) (i : Nat), (finE svs ρ)[i]? = (svs[i]?).map fun s => if s.isRef then (ρ[i]?).getD none else none
  | [], _, i => by simp [finE]
  | s :: ss, ρ, 0 => by
    unfold finE
    cases ρ <;> simp
  | s :: ss, ρ, i + 1 => by
    unfold finE
    rw [List.getElem?_cons_succ, finE_get ss ρ.tail i, List.getElem?_cons_succ]
    cases ρ <;> simp
section
variable {b : Bs} {c : Fc} {G G' H H' : Hp} {svs : List Sv} {vs : List V} {ρ : Ev} {σ : St}
theorem svsE_get {i : Nat} {s : Sv} : (svsE svs)[i]? = some (some s) ↔ svs[i]? = some s := by
  unfold svsE
  rw [List.getElem?_map]
  cases svs[i]? <;> simp
theorem SIG.exit (S : SIG b (ctx0 G H svs vs) G (svsE svs) (vsE vs) H) (hm : ∀ s ∈ svs, s.own = true → s.isRef = true) (S' : SIG b (ctx0 G H svs vs) G' ρ σ H') : SIG b (ctx0 G H svs vs) G' (finE svs ρ) (vsE vs) H' := by
  have key : ∀ {i s}, (finE svs ρ)[i]? = some (some s) → ∃ p, (i, p, true) ∈ (ctx0 G H svs vs).refs ∧ (vsE vs)[i]? = some (some (.ref p)) ∧ σ[i]? = some (some (.ref p)) ∧ ρ[i]? = some (some s) := fun {i s} e => by
    rw [finE_get] at e
    cases q : svs[i]? with
    | none => rw [q] at e; cases e
    | some s0 =>
      rw [q] at e
      have e : some (if s0.isRef = true then (ρ[i]?).getD none else none) = some (some s) := e
      cases hr : s0.isRef with
      | false => rw [hr, if_neg Bool.false_ne_true] at e; cases e
      | true =>
        rw [hr, if_pos rfl] at e
        have ho := own_of_ref hr
        obtain ⟨v, hv, rs⟩ := S.sl i s0 (svsE_get.mpr q)
        obtain ⟨p, o, rfl, _, _⟩ := rs.at ho
        have hmem : (i, p, true) ∈ (ctx0 G H svs vs).refs := mem_refsOf.mpr ⟨s0, svsE_get.mpr q, ho, hr, hv⟩
        obtain ⟨h1, sv, h2, h3, h4⟩ := S'.rf i p true hmem
        rw [h2] at e
        cases e
        exact ⟨p, hmem, hv, h1, h2⟩
  refine ⟨?_, S'.g0, S'.gh, S'.gm, S'.fr, S'.gn, fun i s e => ?_, fun i j si sj p e1 e2 o1 o2 a1 a2 => ?_, fun i s p e o1 a1 => ?_, fun i p f hi => ?_, S'.tb, S'.ct, fun i r m p h1 h2 => ?_, fun j k sj sk h1 h2 g1 g2 => ?_, S'.zz, fun i p f s h1 h2 h3 => by
    obtain ⟨_, _, _, _, e3⟩ := key h2
    exact S'.rk i p f s h1 e3 h3⟩
  case refine_6 =>
    obtain ⟨q, _, e1, e2, e3⟩ := key h1
    rw [e1] at h2
    cases h2
    exact S'.mz i r m p e3 e2
  case refine_7 =>
    obtain ⟨_, _, _, _, e3⟩ := key h1
    obtain ⟨_, _, _, _, e4⟩ := key h2
    exact S'.m1 j k sj sk e3 e4 g1 g2
  · rw [finE_len]
    have := S.len
    unfold svsE at this
    rw [List.length_map] at this
    exact this
  · obtain ⟨p, _, h1, h2, h3⟩ := key e
    obtain ⟨v, hv, r⟩ := S'.sl i s h3
    rw [h2] at hv
    cases hv
    exact ⟨.ref p, h1, r⟩
  · obtain ⟨p1, _, h1, h2, h3⟩ := key e1
    obtain ⟨p2, _, g1, g2, g3⟩ := key e2
    rw [h1] at a1
    rw [g1] at a2
    cases a1
    cases a2
    exact S'.sp i j si sj p h3 g3 o1 o2 h2 g2
  · obtain ⟨p1, hm1, h1, h2, h3⟩ := key e
    rw [h1] at a1
    cases a1
    exact .inr ⟨true, hm1⟩
  · obtain ⟨h1, sv, h2, h3, h4⟩ := S'.rf i p f hi
    obtain ⟨s0, r1, r2, r3, r4⟩ := mem_refsOf.mp hi
    refine ⟨r4, sv, ?_, h3, h4⟩
    have r1' := svsE_get.mp r1
    rw [finE_get, r1']
    show some (if s0.isRef = true then (ρ[i]?).getD none else none) = some (some sv)
    rw [if_pos (hm s0 (List.mem_of_getElem? r1') r2), h2]
    rfl
theorem SIG.pad (S : SIG b c G ρ σ H) (n : Nat) : SIG b c G (ρ ++ List.replicate n none) (σ ++ List.replicate n none) H := by
  have key : ∀ {i : Nat} {s : Sv}, (ρ ++ List.replicate n none)[i]? = some (some s) → ρ[i]? = some (some s) ∧ (σ ++ List.replicate n none)[i]? = σ[i]? := fun {i s} e => by
    by_cases hi : i < ρ.length
    · rw [List.getElem?_append_left hi] at e
      exact ⟨e, List.getElem?_append_left (by rw [← S.len]; exact hi)⟩
    · rw [List.getElem?_append_right (by omega), List.getElem?_replicate] at e
      split at e <;> cases e
  refine ⟨by rw [List.length_append, List.length_append, S.len, List.length_replicate, List.length_replicate], S.g0, S.gh, S.gm, S.fr, S.gn, fun i s e => ?_, fun i j si sj p e1 e2 o1 o2 a1 a2 => ?_, fun i s p e o1 a1 => ?_, fun i p f hi => ?_, S.tb, S.ct, fun i r m p h1 h2 => by
    obtain ⟨e1, e2⟩ := key h1
    exact S.mz i r m p e1 (by rw [← e2]; exact h2), fun j k sj sk h1 h2 g1 g2 => S.m1 j k sj sk (key h1).1 (key h2).1 g1 g2, S.zz, fun j p f s h1 h2 h3 => S.rk j p f s h1 (key h2).1 h3⟩
  · obtain ⟨h1, h2⟩ := key e
    obtain ⟨v, hv, r⟩ := S.sl i s h1
    exact ⟨v, by rw [h2]; exact hv, r⟩
  · obtain ⟨h1, h2⟩ := key e1
    obtain ⟨g1, g2⟩ := key e2
    rw [h2] at a1
    rw [g2] at a2
    exact S.sp i j si sj p h1 g1 o1 o2 a1 a2
  · obtain ⟨h1, h2⟩ := key e
    rw [h2] at a1
    exact S.nw i s p h1 o1 a1
  · obtain ⟨h1, sv, h2, h3, h4⟩ := S.rf i p f hi
    have hl := (List.getElem?_eq_some_iff.mp h2).1
    exact ⟨by rw [List.getElem?_append_left (by rw [← S.len]; exact hl)]; exact h1, sv, by rw [List.getElem?_append_left hl]; exact h2, h3, h4⟩
end
theorem start_eq (N : List Str) (vs : List V) : start N vs = vsE vs ++ List.replicate (N.length - vs.length) none := rfl
section
variable {P : Program} {w : World} {K : Fg} {mg : Str → Option Value} {base : Heap} {x qual : Str} {params : Arguments} {body : List Stmt} {scope : Scope} {f : Addr} {fd : FuncData} {b : Bs}
/-- what is wanted of exceptions in a def's body -/
abbrev WF (E : XK) : WX := fun cls d _ H => E cls d H
theorem fn_bodyC {N ps : List Str} {k : Nat} {g : M Fl} (F : FunD K x qual params body scope [] [] f fd) (S : FnScope N ps scope)
    (hd : ∀ (cdv : Value) (A : Around) (outer : List Env) (s : Shared) (H : Hp) (E : XK), (∃ oc od osl, K.lookup f = some ⟨oc, od, .func fd, osl⟩ ∧ fd.code = cdv ∧ PySem.W.codeIn K cdv qual = true) → Room k (A.deeper (PyProof.Rows.envOfC qual scope s.heap.objs.size f cdv)) →
      PSs (cxOf (L2.CX P w) P w K mg base N qual scope f cdv A outer s H E) body (tS b (WF E) g)) : FnOk P w K mg base (L2.CX P w) (k + 1) f fd ps (spF b ps.length (bodyF N.length g)) := by
  obtain ⟨oc, od, dV, kV, doc, pm, an, cdv, ct, osl, rfl, lk, hcd, _, _⟩ := F.ex
  refine fn_of lk hcd S (fun vs H Q E h => ?_) (fun A outer s H vs Q E hr h => ⟨_, hd cdv A outer s H E ⟨oc, od, osl, lk, rfl, hcd⟩ hr, ?_⟩)
  · obtain ⟨G, svs, h1, _⟩ := h
    exact h1
  · obtain ⟨G, svs, hl, S0, hm, q⟩ := h
    have hlen : svs.length = vs.length := by
      have := S0.len
      unfold svsE vsE at this
      rw [List.length_map, List.length_map] at this
      exact this
    have S1 := S0.pad (N.length - vs.length)
    rw [← start_eq] at S1
    refine ⟨ctx0 G H svs vs, G, _, fun i p fl hi => ?_, S1, ?_⟩
    · obtain ⟨s0, r1, r2, r3, r4⟩ := mem_refsOf.mp hi
      rw [← r3]
      exact hm s0 (List.mem_of_getElem? (svsE_get.mp r1)) r2
    · unfold bodyF at q
      rw [hlen] at q
      cases e : g (svsE svs ++ List.replicate (N.length - vs.length) none) with
      | bad => rw [e] at q; exact q.elim
      | err kk ρ =>
        rw [e] at q
        exact fun σ' H' G' e' S' => q H' G' (S0.exit hm S')
      | ok fl ρ =>
        rw [e] at q
        cases fl with
        | nx => exact fun σ' H' G' e' S' => q .non H' G' (S0.exit hm S') .non
        | bk => exact q.elim
        | ct => exact q.elim
        | rt r => exact fun v σ' H' G' e' S' rn => q v H' G' (S0.exit hm S') rn
theorem fn_body {N ps : List Str} {k : Nat} {g : M Fl} (F : FunD K x qual params body scope [] [] f fd) (S : FnScope N ps scope)
    (hd : ∀ (cdv : Value) (A : Around) (outer : List Env) (s : Shared) (H : Hp) (E : XK), Room k (A.deeper (PyProof.Rows.envOfC qual scope s.heap.objs.size f cdv)) →
      PSs (cxOf (L2.CX P w) P w K mg base N qual scope f cdv A outer s H E) body (tS b (WF E) g)) : FnOk P w K mg base (L2.CX P w) (k + 1) f fd ps (spF b ps.length (bodyF N.length g)) :=
  fn_bodyC F S fun cdv A outer s H E _ hr => hd cdv A outer s H E hr
end
/-! the caller's side -/
def posOf (i : Nat) : List Av → Option Nat
  | [] => none
  | .d _ :: as => (posOf i as).map (· + 1)
  | .s k :: as => if k = i then some 0 else (posOf i as).map (· + 1)
def wb1 (as : List Av) (outs : Ev) (i : Nat) : Option Sv → Option Sv
  | none => none
  | some s => if s.own then (match posOf i as with
    | some j => (match outs[j]? with
      | some (some s') => some (s'.mark s.isRef)
      | _ => some s)
    | none => some s) else some s
def writeBack (ρ : Ev) (as : List Av) (outs : Ev) : Ev := ρ.mapIdx fun i o => wb1 as outs i o
def resolve (ρ : Ev) : List Av → Option (List Sv)
  | [] => some []
  | .d x :: as => (resolve ρ as).map fun r => .d x :: r
  | .s i :: as => match ρ[i]? with
    | some (some s) => (resolve ρ as).map fun r => s.mark true :: r
    | _ => none
def hasS (i : Nat) : List Av → Bool
  | [] => false
  | .d _ :: as => hasS i as
  | .s k :: as => decide (k = i) || hasS i as
def okArgs (ρ : Ev) : List Av → Bool
  | [] => true
  | .d _ :: as => okArgs ρ as
  | .s i :: as => (!ownAt ρ[i]? || !hasS i as) && okArgs ρ as
def callF (n : Nat) (F : Fn) (as : List Av) : M Rv := fun ρ => if as.length = n ∧ okArgs ρ as = true then (match resolve ρ as with
  | none => .bad
  | some svs => (match F svs with
    | .ok r outs => .ok r (writeBack ρ as outs)
    | .err k outs => .err k (writeBack ρ as outs)
    | .bad => .bad)) else .bad
def callM (n : Nat) (F : Fn) (fl : M (List Av)) : M Rv := bindM fl fun as => callF n F as
theorem hasS_of : ∀ {as : List Av} {j i : Nat}, as[j]? = some (.s i) → hasS i as = true
  | [], _, _, h => by simp at h
  | .d _ :: as, 0, _, h => by simp at h
  | .d _ :: as, j + 1, i, h => hasS_of (as := as) (j := j) (by simpa using h)
  | .s k :: as, 0, i, h => by
    simp at h
    subst h
    simp [hasS]
  | .s k :: as, j + 1, i, h => by
    have := hasS_of (as := as) (j := j) (i := i) (by simpa using h)
    simp [hasS, this]
theorem okArgs_uniq {ρ : Ev} : ∀ {as : List Av} {j k i : Nat}, okArgs ρ as = true → ownAt ρ[i]? = true → as[j]? = some (.s i) → as[k]? = some (.s i) → j = k
  | [], _, _, _, _, _, h, _ => by simp at h
  | .d _ :: as, 0, _, _, _, _, h, _ => by simp at h
  | .d _ :: as, _ + 1, 0, _, _, _, _, h => by simp at h
  | .d _ :: as, j + 1, k + 1, i, hk, ho, h1, h2 => by
    rw [okArgs_uniq (as := as) (j := j) (k := k) (i := i) hk ho (by simpa using h1) (by simpa using h2)]
  | .s m :: as, 0, 0, _, _, _, _, _ => rfl
  | .s m :: as, 0, k + 1, i, hk, ho, h1, h2 => by
    simp at h1
    subst h1
    unfold okArgs at hk
    rw [ho, hasS_of (as := as) (j := k) (i := m) (by simpa using h2)] at hk
    simp at hk
  | .s m :: as, j + 1, 0, i, hk, ho, h1, h2 => by
    simp at h2
    subst h2
    unfold okArgs at hk
    rw [ho, hasS_of (as := as) (j := j) (i := m) (by simpa using h1)] at hk
    simp at hk
  | .s m :: as, j + 1, k + 1, i, hk, ho, h1, h2 => by
    unfold okArgs at hk
    rw [Bool.and_eq_true] at hk
    rw [okArgs_uniq (as := as) (j := j) (k := k) (i := i) hk.2 ho (by simpa using h1) (by simpa using h2)]
theorem posOf_some : ∀ {as : List Av} {i j : Nat}, posOf i as = some j → as[j]? = some (.s i)
  | [], _, _, h => by cases h
  | .d x :: as, i, j, h => by
    have h : (posOf i as).map (· + 1) = some j := h
    cases q : posOf i as with
    | none => rw [q] at h; cases h
    | some k =>
      rw [q] at h
      cases h
      rw [List.getElem?_cons_succ]
      exact posOf_some q
  | .s m :: as, i, j, h => by
    unfold posOf at h
    split at h
    · rename_i e
      cases h
      rw [e]
      rfl
    · cases q : posOf i as with
      | none => rw [q] at h; cases h
      | some k =>
        rw [q] at h
        cases h
        rw [List.getElem?_cons_succ]
        exact posOf_some q
theorem posOf_none : ∀ {as : List Av} {i j : Nat}, posOf i as = none → as[j]? ≠ some (.s i)
  | [], _, _, _ => by simp
  | .d x :: as, i, 0, _ => by simp
  | .d x :: as, i, j + 1, h => by
    have h : (posOf i as).map (· + 1) = none := h
    rw [List.getElem?_cons_succ]
    exact posOf_none (by cases q : posOf i as with
      | none => rfl
      | some k => rw [q] at h; cases h)
  | .s m :: as, i, j, h => by
    unfold posOf at h
    split at h
    · cases h
    · rename_i hne
      cases j with
      | zero =>
        simp
        exact hne
      | succ j =>
        rw [List.getElem?_cons_succ]
        exact posOf_none (by cases q : posOf i as with
          | none => rfl
          | some k => rw [q] at h; cases h)
theorem resolve_get {ρ : Ev} : ∀ {as : List Av} {svs : List Sv} {j : Nat}, resolve ρ as = some svs → (svs[j]? = none ∧ as[j]? = none) ∨ (∃ x, as[j]? = some (.d x) ∧ svs[j]? = some (.d x)) ∨ ∃ i s, as[j]? = some (.s i) ∧ ρ[i]? = some (some s) ∧ svs[j]? = some (s.mark true)
  | [], svs, j, h => by
    cases h
    exact .inl ⟨by simp, by simp⟩
  | .d x :: as, svs, j, h => by
    have h : (resolve ρ as).map (fun r => Sv.d x :: r) = some svs := h
    cases q : resolve ρ as with
    | none => rw [q] at h; cases h
    | some r =>
      rw [q] at h
      cases h
      cases j with
      | zero => exact .inr (.inl ⟨x, rfl, rfl⟩)
      | succ j =>
        rw [List.getElem?_cons_succ, List.getElem?_cons_succ]
        exact resolve_get q
  | .s i :: as, svs, j, h => by
    unfold resolve at h
    split at h
    · rename_i s hs
      cases q : resolve ρ as with
      | none => rw [q] at h; cases h
      | some r =>
        rw [q] at h
        cases h
        cases j with
        | zero => exact .inr (.inr ⟨i, s, rfl, hs, rfl⟩)
        | succ j =>
          rw [List.getElem?_cons_succ, List.getElem?_cons_succ]
          exact resolve_get q
    · cases h
theorem resolve_len {ρ : Ev} : ∀ {as : List Av} {svs : List Sv}, resolve ρ as = some svs → svs.length = as.length
  | [], svs, h => by cases h; rfl
  | .d x :: as, svs, h => by
    have h : (resolve ρ as).map (fun r => Sv.d x :: r) = some svs := h
    cases q : resolve ρ as with
    | none => rw [q] at h; cases h
    | some r =>
      rw [q] at h
      cases h
      rw [List.length_cons, List.length_cons, resolve_len q]
  | .s i :: as, svs, h => by
    unfold resolve at h
    split at h
    · cases q : resolve ρ as with
      | none => rw [q] at h; cases h
      | some r =>
        rw [q] at h
        cases h
        rw [List.length_cons, List.length_cons, resolve_len q]
    · cases h
theorem ras_get {K : Fg} {G : Hp} {σ : St} : ∀ {vs : List V} {as : List Av} {j : Nat} {a : Av}, Ras K G σ vs as → as[j]? = some a → ∃ v, vs[j]? = some v ∧ RA K G σ v a
  | _, [], _, _, _, e => by simp at e
  | _, a :: as, 0, x, h, e => by
    cases h with
    | cons h1 h2 =>
      simp at e
      subst e
      exact ⟨_, rfl, h1⟩
  | _, a :: as, j + 1, x, h, e => by
    cases h with
    | cons h1 h2 =>
      obtain ⟨v, q, r⟩ := ras_get (j := j) h2 (by simpa using e)
      exact ⟨v, by simpa using q, r⟩
theorem vsE_get {vs : List V} {i : Nat} {v : V} : (vsE vs)[i]? = some (some v) ↔ vs[i]? = some v := by
  unfold vsE
  rw [List.getElem?_map]
  cases vs[i]? <;> simp
section
variable {b : Bs} {c : Fc} {G G' H H' : Hp} {ρ outs : Ev} {σ : St} {as : List Av} {svs : List Sv} {vs : List V}
/-- where an own argument comes from -/
theorem arg_own (S : SIG b c G ρ σ H) (r : Ras b.K G σ vs as) (hr : resolve ρ as = some svs) {j : Nat} {s : Sv} (e : svs[j]? = some s) (ho : s.own = true) : ∃ i s0, as[j]? = some (.s i) ∧ ρ[i]? = some (some s0) ∧ s0.own = true ∧ s = s0.mark true ∧ ∃ p, vs[j]? = some (.ref p) ∧ σ[i]? = some (some (.ref p)) := by
  rcases resolve_get (j := j) hr with ⟨z, _⟩ | ⟨x, _, z⟩ | ⟨i, s0, h1, h2, h3⟩
  · rw [z] at e; cases e
  · rw [z] at e; cases e; cases ho
  · rw [h3] at e
    cases e
    rw [own_mark] at ho
    obtain ⟨v, hv, ra⟩ := ras_get r h1
    obtain ⟨u, hu, rs⟩ := S.sl i s0 h2
    have ra : σ[i]? = some (some v) := ra
    rw [ra] at hu
    cases hu
    obtain ⟨p, o, rfl, _, _⟩ := rs.at ho
    exact ⟨i, s0, h1, h2, ho, rfl, p, hv, ra⟩
theorem SIG.give (S : SIG b c G ρ σ H) (r : Ras b.K G σ vs as) (hk : okArgs ρ as = true) (hr : resolve ρ as = some svs) : SIG b (ctx0 G H svs vs) G (svsE svs) (vsE vs) H := by
  have hlen : svs.length = vs.length := (resolve_len hr).trans (Paired.length r).symm
  have mt : ∀ {j : Nat} {r1 : Bool} {m : Ms}, (svsE svs)[j]? = some (some (.mt r1 m)) → ∃ (i : Nat) (r0 : Bool) (p : Addr), as[j]? = some (.s i) ∧ ρ[i]? = some (some (.mt r0 m)) ∧ σ[i]? = some (some (.ref p)) ∧ (vsE vs)[j]? = some (some (.ref p)) := fun {j r1 m} e => by
    obtain ⟨i, s0, h1, h2, h3, h4, p, h5, h6⟩ := arg_own S r hr (svsE_get.mp e) rfl
    cases s0 with
    | mt r0 m0 => cases h4; exact ⟨i, r0, p, h1, h2, h6, vsE_get.mpr h5⟩
    | _ => cases h4
  have zn : ∀ {a : Addr}, zoneOf H (svsE svs) (vsE vs) a → zoneOf H ρ σ a := fun {a} z => by
    obtain ⟨j, rj, m, p, C, m', Z, h1, h2, h3, h4⟩ := z
    obtain ⟨i, r0, p', g1, g2, g3, g4⟩ := mt h1
    rw [h2] at g4
    cases g4
    exact ⟨i, r0, m, p, C, m', Z, g2, g3, h3, h4⟩
  have base : SIG b ⟨G, H, refsOf (svsE svs) (vsE vs), zoneOf H (svsE svs) (vsE vs), fun i => ∃ r m, (svsE svs)[i]? = some (some (.mt r m))⟩ G (svsE svs) (vsE vs) H := by
    refine ⟨by unfold svsE vsE; rw [List.length_map, List.length_map, hlen], Same.refl _, S.gh, S.gm, fun a o e _ _ _ => e, fun a o e => .inl e, fun j s e => ?_, fun j k sj sk p e1 e2 o1 o2 a1 a2 => ?_, fun j s p e o1 a1 => .inr ⟨_, mem_refsOf.mpr ⟨s, e, o1, rfl, a1⟩⟩, fun j p f hj => ?_, S.tb, S.hT, fun j rj m p h1 h2 => ?_, fun j k sj sk h1 h2 g1 g2 => ?_, fun a z => (S.zone (zn z)).1, fun i p f s _ h2 h3 => by
      obtain ⟨r, m, rfl⟩ := isMt_of h3
      exact ⟨r, m, h2⟩⟩
    case refine_4 =>
      obtain ⟨i, r0, p', g1, g2, g3, g4⟩ := mt h1
      rw [h2] at g4
      cases g4
      obtain ⟨Z, z1, z2⟩ := S.mz i r0 m p g2 g3
      exact ⟨Z, z1, fun q hq => ⟨(z2 q hq).1, .inr ⟨j, rj, m, p, _, m, Z, h1, h2, z1, hq⟩⟩⟩
    case refine_5 =>
      obtain ⟨rj, mj, rfl⟩ := isMt_of g1
      obtain ⟨rk, mk, rfl⟩ := isMt_of g2
      obtain ⟨i, r0, p, e1, e2, e3, e4⟩ := mt h1
      obtain ⟨i', r0', p', e1', e2', e3', e4'⟩ := mt h2
      have ei := S.m1 i i' _ _ e2 e2' rfl rfl
      subst ei
      exact okArgs_uniq hk (by rw [e2]; rfl) e1 e1'
    · have e := svsE_get.mp e
      rcases resolve_get (j := j) hr with ⟨z, _⟩ | ⟨x, z1, z⟩ | ⟨i, s0, h1, h2, h3⟩
      · rw [z] at e; cases e
      · rw [z] at e
        cases e
        obtain ⟨v, hv, ra⟩ := ras_get r z1
        exact ⟨v, vsE_get.mpr hv, ra⟩
      · rw [h3] at e
        cases e
        obtain ⟨v, hv, ra⟩ := ras_get r h1
        obtain ⟨u, hu, rs⟩ := S.sl i s0 h2
        have ra : σ[i]? = some (some v) := ra
        rw [ra] at hu
        cases hu
        exact ⟨v, vsE_get.mpr hv, rs.mark true⟩
    · obtain ⟨i, s0, h1, h2, h3, _, q, h4, h5⟩ := arg_own S r hr (svsE_get.mp e1) o1
      obtain ⟨i', s0', g1, g2, g3, _, q', g4, g5⟩ := arg_own S r hr (svsE_get.mp e2) o2
      rw [vsE_get.mpr h4] at a1
      rw [vsE_get.mpr g4] at a2
      cases a1
      cases a2
      have ei := S.sp i i' s0 s0' p h2 g2 h3 g3 h5 g5
      subst ei
      exact okArgs_uniq hk (by rw [h2]; exact h3) h1 g1
    · obtain ⟨s, h1, h2, h3, h4⟩ := mem_refsOf.mp hj
      exact ⟨h4, s, h1, h2, h3⟩
  exact base
theorem wb_get (i : Nat) : (writeBack ρ as outs)[i]? = (ρ[i]?).map (wb1 as outs i) := by
  unfold writeBack
  rw [List.getElem?_mapIdx]
/-- behind the call -/
theorem SIG.take (S : SIG b c G ρ σ H) (r : Ras b.K G σ vs as) (hk : okArgs ρ as = true) (hr : resolve ρ as = some svs) (S' : SIG b (ctx0 G H svs vs) G' outs (vsE vs) H') : SIG b c G' (writeBack ρ as outs) σ H' := by
  -- a slot behind the call: as it was, or lent
  have lent : ∀ {i : Nat} {s0 : Sv} {p : Addr}, ρ[i]? = some (some s0) → s0.own = true → σ[i]? = some (some (.ref p)) → (∃ j s', posOf i as = some j ∧ outs[j]? = some (some s') ∧ s'.own = true ∧ (vsE vs)[j]? = some (some (.ref p)) ∧ (writeBack ρ as outs)[i]? = some (some (s'.mark s0.isRef))) ∨
      ((∀ j f, (j, p, f) ∉ (ctx0 G H svs vs).refs) ∧ (writeBack ρ as outs)[i]? = some (some s0)) := fun {i s0 p} h1 h2 h3 => by
    cases q : posOf i as with
    | some j =>
      have hj := posOf_some q
      obtain ⟨v, hv, ra⟩ := ras_get r hj
      have ra : σ[i]? = some (some v) := ra
      rw [ra] at h3
      cases h3
      have hs : svs[j]? = some (s0.mark true) := by
        rcases resolve_get (j := j) hr with ⟨_, z⟩ | ⟨x, z, _⟩ | ⟨i', s', z1, z2, z3⟩
        · rw [hj] at z; cases z
        · rw [hj] at z; cases z
        · rw [hj] at z1
          cases z1
          rw [h1] at z2
          cases z2
          exact z3
      have hm : (j, p, true) ∈ (ctx0 G H svs vs).refs := mem_refsOf.mpr ⟨_, svsE_get.mpr hs, by rw [own_mark]; exact h2, ref_mark h2, vsE_get.mpr hv⟩
      obtain ⟨g1, s', g2, g3, g4⟩ := S'.rf j p true hm
      refine .inl ⟨j, s', rfl, g2, g3, g1, ?_⟩
      rw [wb_get, h1]
      show some (wb1 as outs i (some s0)) = _
      unfold wb1
      dsimp only
      rw [if_pos h2, q]
      dsimp only
      rw [g2]
    | none =>
      refine .inr ⟨fun j f hj => ?_, ?_⟩
      · obtain ⟨s, r1, r2, r3, r4⟩ := mem_refsOf.mp hj
        obtain ⟨i', s', g1, g2, g3, _, p', g4, g5⟩ := arg_own S r hr (svsE_get.mp r1) r2
        rw [vsE_get.mpr g4] at r4
        cases r4
        have := S.sp i i' s0 s' p h1 g2 h2 g3 h3 g5
        subst this
        exact posOf_none q g1
      · rw [wb_get, h1]
        show some (wb1 as outs i (some s0)) = _
        unfold wb1
        dsimp only
        rw [if_pos h2, q]
  have back : ∀ {i : Nat} {s : Sv}, (writeBack ρ as outs)[i]? = some (some s) → ∃ s0 : Sv, ρ[i]? = some (some s0) ∧ s.own = s0.own ∧ (s0.own = false → s = s0) ∧ (s0.own = true → s.isRef = s0.isRef) := fun {i s} e => by
    have e0 := e
    rw [wb_get] at e
    cases q : ρ[i]? with
    | none => rw [q] at e; cases e
    | some o =>
      cases o with
      | none => rw [q] at e; cases e
      | some s0 =>
        refine ⟨s0, rfl, ?_⟩
        cases ho : s0.own with
        | false =>
          rw [q] at e
          have e : some (wb1 as outs i (some s0)) = some (some s) := e
          unfold wb1 at e
          dsimp only at e
          rw [ho, if_neg Bool.false_ne_true] at e
          cases e
          exact ⟨ho, fun _ => rfl, fun z => by cases z⟩
        | true =>
          obtain ⟨v, hv, rs⟩ := S.sl i s0 q
          obtain ⟨p, o, rfl, _, _⟩ := rs.at ho
          rcases lent q ho hv with ⟨j, s', h1, h2, h3, h4, h5⟩ | ⟨_, h5⟩
          · rw [h5] at e0
            cases e0
            exact ⟨by rw [own_mark]; exact h3, (fun z => by cases z), fun _ => ref_mark h3⟩
          · rw [h5] at e0
            cases e0
            exact ⟨ho, (fun z => by cases z), fun _ => rfl⟩
  have frz : ∀ {p o}, G p = none → H p = some o → HO.plain o = true → G' p = none := fun {p o} g1 h1 pl => by
    cases z : G' p with
    | none => rfl
    | some u =>
      rcases S'.gn p u z with y | y | ⟨_, _, y⟩
      · rw [show (ctx0 G H svs vs).G0 p = G p from rfl, g1] at y; cases y
      · rw [show (ctx0 G H svs vs).H0 p = H p from rfl, h1] at y; cases y
      · rw [show (ctx0 G H svs vs).H0 p = H p from rfl, h1] at y; cases y; cases pl
  have sGG : Same G G' := S'.g0
  have mt : ∀ {j : Nat} {r1 : Bool} {m : Ms}, (svsE svs)[j]? = some (some (.mt r1 m)) → ∃ (i : Nat) (r0 : Bool) (p : Addr), as[j]? = some (.s i) ∧ ρ[i]? = some (some (.mt r0 m)) ∧ σ[i]? = some (some (.ref p)) ∧ (vsE vs)[j]? = some (some (.ref p)) := fun {j r1 m} e => by
    obtain ⟨i, s0, h1, h2, h3, h4, p, h5, h6⟩ := arg_own S r hr (svsE_get.mp e) rfl
    cases s0 with
    | mt r0 m0 => cases h4; exact ⟨i, r0, p, h1, h2, h6, vsE_get.mpr h5⟩
    | _ => cases h4
  have zn : ∀ {a : Addr}, (ctx0 G H svs vs).Z a → zoneOf H ρ σ a ∧ ∃ (i j : Nat) (r0 : Bool) (m : Ms), posOf i as = some j ∧ ρ[i]? = some (some (.mt r0 m)) := fun {a} z => by
    obtain ⟨j, rj, m, p, C, m', Z, h1, h2, h3, h4⟩ := z
    obtain ⟨i, r0, p', g1, g2, g3, g4⟩ := mt h1
    rw [h2] at g4
    cases g4
    refine ⟨⟨i, r0, m, p, C, m', Z, g2, g3, h3, h4⟩, ?_⟩
    cases q : posOf i as with
    | none => exact absurd g1 (posOf_none q)
    | some j' => exact ⟨i, j', r0, m, q, g2⟩
  have one : ∀ {i : Nat} {s : Sv}, (writeBack ρ as outs)[i]? = some (some s) → s.isMt = true → (∃ (r0 : Bool) (m : Ms), ρ[i]? = some (some (.mt r0 m)) ∧ posOf i as = none ∧ s = .mt r0 m) ∨ ∃ (j : Nat) (s' : Sv) (p : Addr), posOf i as = some j ∧ outs[j]? = some (some s') ∧ s'.isMt = true ∧ (vsE vs)[j]? = some (some (.ref p)) ∧ σ[i]? = some (some (.ref p)) ∧ (∃ r1 m, s = .mt r1 m ∧ ∃ r2, s' = .mt r2 m) ∧ ∃ r0 m0, ρ[i]? = some (some (.mt r0 m0)) := fun {i s} e hs => by
    obtain ⟨r1, m, rfl⟩ := isMt_of hs
    obtain ⟨s0, h0, h1, h2, h3⟩ := back e
    have ho : s0.own = true := by rw [← h1]; rfl
    obtain ⟨v, hv, rs⟩ := S.sl i s0 h0
    obtain ⟨p, o, rfl, hp, gp⟩ := rs.at ho
    rcases lent h0 ho hv with ⟨j, s', q1, q2, q3, q4, q5⟩ | ⟨q1, q5⟩
    · have k2 : ∃ r2, s' = .mt r2 m := by
        rw [q5] at e
        cases s' <;> first | (cases e; exact ⟨_, rfl⟩) | (cases e)
      obtain ⟨r2, rfl⟩ := k2
      refine .inr ⟨j, _, p, q1, q2, rfl, q4, hv, ⟨r1, m, rfl, _, rfl⟩, ?_⟩
      have hj := posOf_some q1
      have hs : svs[j]? = some (s0.mark true) := by
        rcases resolve_get (j := j) hr with ⟨_, z⟩ | ⟨x, z, _⟩ | ⟨i', s'', z1, z2, z3⟩
        · rw [hj] at z; cases z
        · rw [hj] at z; cases z
        · rw [hj] at z1
          cases z1
          rw [h0] at z2
          cases z2
          exact z3
      obtain ⟨r3, m3, e3⟩ := S'.rk j p true _ (mem_refsOf.mpr ⟨_, svsE_get.mpr hs, by rw [own_mark]; exact ho, ref_mark ho, q4⟩) q2 rfl
      rw [svsE_get.mp e3] at hs
      cases s0 <;> first | exact ⟨_, _, h0⟩ | (cases hs)
    · rw [q5] at e
      cases e
      refine .inl ⟨r1, m, h0, ?_, rfl⟩
      cases q : posOf i as with
      | none => rfl
      | some j =>
        exfalso
        have hj := posOf_some q
        obtain ⟨v', hv', ra⟩ := ras_get r hj
        have ra : σ[i]? = some (some v') := ra
        rw [ra] at hv
        cases hv
        have hs : svs[j]? = some (Sv.mt true m) := by
          rcases resolve_get (j := j) hr with ⟨_, z⟩ | ⟨x, z, _⟩ | ⟨i', s'', z1, z2, z3⟩
          · rw [hj] at z; cases z
          · rw [hj] at z; cases z
          · rw [hj] at z1
            cases z1
            rw [h0] at z2
            cases z2
            exact z3
        exact q1 j true (mem_refsOf.mpr ⟨_, svsE_get.mpr hs, rfl, rfl, vsE_get.mpr hv'⟩)
  refine ⟨by unfold writeBack; rw [List.length_mapIdx]; exact S.len, S.g0.trans sGG, S'.gh, S'.gm, fun a o h1 hT h2 hZ => ?_, fun a o h1 => ?_, fun i s e => ?_, fun i j si sj p e1 e2 o1 o2 a1 a2 => ?_, fun i s p e o1 a1 => ?_, fun i p f hi => ?_, S'.tb, S.ct, fun i r1 m p h1 h2 => ?_, fun i j si sj h1 h2 g1 g2 => ?_, S.zz, fun i p f s h1 h2 h3 => ?_⟩
  case refine_7 =>
    rcases one h1 rfl with ⟨r0, m0, g1, g2, g3⟩ | ⟨j, s', p', g1, g2, g3, g4, g5, ⟨r1', m', g6, r2, g7⟩, _⟩
    · cases g3
      obtain ⟨Z, z1, z2⟩ := S.mz i _ m p g1 h2
      have nz : ∀ {a : Addr}, ¬ (ctx0 G H svs vs).Z a := fun {a} z => by
        obtain ⟨_, i', j', r', m', y1, y2⟩ := zn z
        have := S.m1 i i' _ _ g1 y2 rfl rfl
        subst this
        rw [g2] at y1
        cases y1
      refine ⟨Z, z1.keep fun a o ha hq => ?_, fun q hq => ⟨(z2 q hq).1.mono sGG, (z2 q hq).2⟩⟩
      have nT : ∀ t ∈ b.T, t.1 ≠ a := fun t ht z => by
        obtain ⟨ps, w1, _⟩ := S.tb t ht
        rw [z, hq] at w1
        cases w1
        rcases ha with ha | ha | ⟨xs, ha⟩
        · subst ha
          obtain ⟨dx, fs, w⟩ := z1.main
          rw [hq] at w
          cases w
        · obtain ⟨xs, w⟩ := z1.lsts a ha
          rw [hq] at w
          cases w
        · cases ha
      refine S'.fr a o hq nT (fun j f hj => ?_) nz
      obtain ⟨s, r1, r2, r3, r4⟩ := mem_refsOf.mp hj
      obtain ⟨i', s', w1, w2, w3, _, p', w4, w5⟩ := arg_own S r hr (svsE_get.mp r1) r2
      rw [vsE_get.mpr w4] at r4
      cases r4
      rcases ha with ha | ha | ⟨xs, ha⟩
      · subst ha
        have := S.sp i i' _ s' a g1 w2 rfl w3 h2 w5
        subst this
        exact posOf_none g2 w1
      · obtain ⟨v, hv, rs⟩ := S.sl i' s' w2
        rw [w5] at hv
        cases hv
        obtain ⟨p2, o2, e2, _, y2⟩ := rs.at w3
        cases e2
        exact (z2 a ha).1.ne y2 rfl
      · subst ha
        obtain ⟨v, hv, rs⟩ := S.sl i' s' w2
        rw [w5] at hv
        cases hv
        obtain ⟨o1, y1, y2⟩ := rs.kind w3
        rw [hq] at y1
        cases y1
        cases y2
    · cases g6
      rw [g5] at h2
      cases h2
      subst g7
      obtain ⟨Z, z1, z2⟩ := S'.mz j r2 m p g2 g4
      refine ⟨Z, z1, fun q hq => ⟨(z2 q hq).1, ?_⟩⟩
      rcases (z2 q hq).2 with z | z
      · exact .inl (S.fresh0 z)
      · exact (S.zone (zn z).1).2
  case refine_8 =>
    have was : ∀ {i : Nat} {s : Sv}, (writeBack ρ as outs)[i]? = some (some s) → s.isMt = true → ∃ r0 m0, ρ[i]? = some (some (.mt r0 m0)) := fun {i s} e hs => by
      rcases one e hs with ⟨r0, m0, a1, _⟩ | ⟨_, _, _, _, _, _, _, _, _, a1⟩
      · exact ⟨r0, m0, a1⟩
      · exact a1
    obtain ⟨r1, m1, e1⟩ := was h1 g1
    obtain ⟨r2, m2, e2⟩ := was h2 g2
    exact S.m1 i j _ _ e1 e2 rfl rfl
  case refine_9 =>
    rcases one h2 h3 with ⟨r0, m0, a1, _⟩ | ⟨_, _, _, _, _, _, _, _, _, r0, m0, a1⟩
    · exact S.rk i p f _ h1 a1 rfl
    · exact S.rk i p f _ h1 a1 rfl
  · refine S'.fr a o (S.fr a o h1 hT h2 hZ) hT (fun j f hj => ?_) (fun z => by
      rcases (S.zone (zn z).1).2 with y | y
      · rw [h1] at y; cases y
      · exact hZ y)
    obtain ⟨s, r1, r2, r3, r4⟩ := mem_refsOf.mp hj
    obtain ⟨i', s', g1, g2, g3, _, p', g4, g5⟩ := arg_own S r hr (svsE_get.mp r1) r2
    rw [vsE_get.mpr g4] at r4
    cases r4
    rcases S.nw i' s' a g2 g3 g5 with z | ⟨f', z⟩
    · rw [h1] at z; cases z
    · exact h2 i' f' z
  · rcases S'.gn a o h1 with z | z | ⟨xs, rfl, z⟩
    · exact S.gn a o z
    · exact .inr (.inl (S.fresh0 z))
    · rcases S.tup0 z with y | y
      · exact .inr (.inl y)
      · exact .inr (.inr ⟨xs, rfl, y⟩)
  · obtain ⟨s0, h0, h1, h2, h3⟩ := back e
    obtain ⟨v, hv, rs⟩ := S.sl i s0 h0
    refine ⟨v, hv, ?_⟩
    cases ho : s0.own with
    | false =>
      rw [h2 ho]
      exact rs.keep sGG fun p u z _ _ => by rw [ho] at z; cases z
    | true =>
      obtain ⟨p, o, rfl, hp, gp⟩ := rs.at ho
      rcases lent h0 ho hv with ⟨j, s', q1, q2, q3, q4, q5⟩ | ⟨q1, q5⟩
      · rw [q5] at e
        cases e
        obtain ⟨u, hu, ru⟩ := S'.sl j s' q2
        rw [q4] at hu
        cases hu
        exact ru.mark _
      · rw [q5] at e
        cases e
        refine rs.keep sGG fun p' u _ ev hq => ?_
        cases ev
        obtain ⟨o1, w1, w2⟩ := rs.kind ho
        exact ⟨S'.fr p u hq (S.notT w1 w2) q1 (fun z => (S.zone (zn z).1).1.ne gp rfl), frz gp hq (by rw [w1] at hq; cases hq; exact w2)⟩
  · obtain ⟨s0, h0, h1, _⟩ := back e1
    obtain ⟨s1, g0, g1, _⟩ := back e2
    exact S.sp i j s0 s1 p h0 g0 (by rw [← h1]; exact o1) (by rw [← g1]; exact o2) a1 a2
  · obtain ⟨s0, h0, h1, _⟩ := back e
    exact S.nw i s0 p h0 (by rw [← h1]; exact o1) a1
  · obtain ⟨h1, s0, h2, h3, h4⟩ := S.rf i p f hi
    rcases lent h2 h3 h1 with ⟨j, s', q1, q2, q3, q4, q5⟩ | ⟨q1, q5⟩
    · exact ⟨h1, _, q5, by rw [own_mark]; exact q3, by rw [ref_mark q3]; exact h4⟩
    · exact ⟨h1, s0, q5, h3, h4⟩
theorem own_back (S : SIG b c G ρ σ H) {i : Nat} {s : Sv} (e : (writeBack ρ as outs)[i]? = some (some s)) (ho : s.own = true) : ∃ s0, ρ[i]? = some (some s0) ∧ s0.own = true := by
  rw [wb_get] at e
  cases q : ρ[i]? with
  | none => rw [q] at e; cases e
  | some o =>
    cases o with
    | none => rw [q] at e; cases e
    | some s0 =>
      refine ⟨s0, rfl, ?_⟩
      cases h0 : s0.own with
      | true => rfl
      | false =>
        rw [q] at e
        have e : some (wb1 as outs i (some s0)) = some (some s) := e
        unfold wb1 at e
        dsimp only at e
        rw [h0, if_neg Bool.false_ne_true] at e
        cases e
        rw [h0] at ho
        cases ho
end
theorem rn_inner {b : Bs} {c : Fc} {G G' H H' : Hp} {ρ : Ev} {σ : St} {v : V} {r : Rv} {refs : List (Nat × Addr × Bool)} {Zp : Addr → Prop} {Mp : Nat → Prop} (S : SIG b c G ρ σ H) (h : RN b ⟨G, H, refs, Zp, Mp⟩ G' H' v r) : RN b c G' H' v r := by
  cases r with
  | d x => exact h
  | l xs => obtain ⟨p, vs, h1, h2, h3, h4, h5⟩ := h; exact ⟨p, vs, h1, h2, h3, h4, S.fresh0 h5⟩
  | k xs => obtain ⟨p, vs, h1, h2, h3, h4, h5⟩ := h; exact ⟨p, vs, h1, h2, h3, h4, S.fresh0 h5⟩
  | t xs => obtain ⟨p, vs, h1, h2, h3, h4, h5⟩ := h; exact ⟨p, vs, h1, h2, h3, h4, S.fresh0 h5⟩
section
variable {X : Cx} {b : Bs} {W : WX} {k n : Nat} {f : Addr} {fd : FuncData} {ps : List Str} {F : Fn} {x : Str} {p pos : Pos} {e : Expr} {es : List Expr} {fl : M (List Av)}
theorem m_call (FN : FnOk X.prog X.w X.K X.mg X.base (L2.CX X.prog X.w) k f fd ps (spF b n F)) (hr : Room k X.A) (hg : Gl X x) (hm : X.mg x = some (.ref f)) (hk : PySem.W.keepIn X.K (.ref f) = true) (hb : Binds X.K fd ps []) (tk : Takes X W)
    (ha : PA X (e :: es) (tL b W fl)) (hdb : (x == ("__debug__" : Str)) = false := by decide) (he : starEach (e :: es) X.env = (false, eval e X.env) :: starEach es X.env := by rfl) (hpl : (backTo pos (starEach es X.env)).any (·.1) = false := by rfl) :
    PE X (.Call (.Name x p) (e :: es) [] pos) (tV b W (callM n F fl)) := weakE (pe_callS (E := WE W) FN hr hg hm hk hb (fun σ => passAt tk σ) ha hdb he hpl) fun σ H Q ⟨c, G, ρ, S, q⟩ => by
  refine ⟨c, G, ρ, S, (Post.bind q).imp fun as ρ1 G1 H1 e1 S1 q1 vs hvs => ?_⟩
  unfold callF at q1
  split at q1
  · rename_i hc
    cases hres : resolve ρ1 as with
    | none => rw [hres] at q1; exact q1.elim
    | some svs =>
      rw [hres] at q1
      dsimp only at q1
      have S2 := S1.give hvs hc.2 hres
      refine ⟨G1, svs, by rw [Paired.length hvs]; exact hc.1, S2, fun s hs ho => ?_, ?_⟩
      · obtain ⟨j, hj⟩ := List.getElem?_of_mem hs
        obtain ⟨i, s0, h1, h2, h3, rfl, _⟩ := arg_own S1 hvs hres hj ho
        exact ref_mark h3
      · cases hF : F svs with
        | bad => rw [hF] at q1; exact q1.elim
        | err kk outs =>
          rw [hF] at q1
          exact fun H' G' S' => q1 H' G' S'.g0 (S1.take hvs hc.2 hres S')
        | ok rr outs =>
          rw [hF] at q1
          intro v H' G' S' rn
          refine q1 H' G' S'.g0 (S1.take hvs hc.2 hres S') v (rn_inner S1 rn) fun pp ep hn i s es ho a1 => ?_
          obtain ⟨s0, h1, h2⟩ := own_back S1 es ho
          exact S1.noOwn (rn_new rn hn ep) i s0 h1 h2 a1
  · exact q1.elim
end
end G8
namespace G8
open PySem L2
/-! what operators do with data -/
section
variable {K : Fg} {G H : Hp}
mutual
theorem Rp.plain : ∀ (d : Dt) (v : V), Rp K G v d → d.plain = true
  | .none, _, _ => rfl
  | .bool b, _, _ => rfl
  | .int i, _, _ => rfl
  | .str x, _, _ => rfl
  | .list ds, _, h => by
    cases h with
    | lst h1 h2 => exact Rps.plain ds _ h2
  | .tuple ds, _, h => by
    cases h with
    | tup h1 h2 => exact Rps.plain ds _ h2
  | .dict _, _, h => by cases h
theorem Rps.plain : ∀ (ds : List Dt) (vs : List V), Rps K G vs ds → PyData.plainAll ds = true
  | [], _, _ => rfl
  | d :: ds, _, h => by
    cases h with
    | cons h1 h2 =>
      show (d.plain && PyData.plainAll ds) = true
      rw [Rp.plain d _ h1, Rps.plain ds _ h2]
      rfl
end
theorem RO.plain {v : V} {x : Dt} (h : RO K G H v x) : x.plain = true := by
  rcases h with h | ⟨p, vs, xs, _, rfl, _, h⟩
  · exact Rp.plain _ _ h
  · exact Rps.plain _ _ h
end
def shal (x : Dt) : Bool := decide (x.depth ≤ 60)
def shalL (x : List Dt) : Bool := decide (PyData.depthAll x ≤ 60)
/-- readable data at two places -/
def rTwo (K : Fg) (g : Dt → Dt → Option Bool) : R2 := fun x y H Q => ∃ d e z, Dp K H x d ∧ Dp K H y e ∧ d.plain = true ∧ e.plain = true ∧ g d e = some z ∧ Q (.bl z) H
theorem tells_two {b : Bs} (g : Dt → Dt → Option Bool) : Tells b (rTwo b.K g) g := fun {c G H ρ σ x y dx dy z Q} S hx hy e q => ⟨dx, dy, z, hx.dp S.gh, hy.dp S.gh, hx.plain, hy.plain, e, q⟩
def eqD (x y : Dt) : Option Bool := if shal x && shal y then some (PyData.eqv x y) else none
def neD (x y : Dt) : Option Bool := if shal x && shal y then some (!PyData.eqv x y) else none
def inD (x y : Dt) : Option Bool := match y with
  | .list ys => if shal x && shalL ys then some (ys.any fun z => PyData.eqv z x) else none
  | .tuple ys => if shal x && shalL ys then some (ys.any fun z => PyData.eqv z x) else none
  | _ => none
def ninD (x y : Dt) : Option Bool := (inD x y).map not
section
variable {X : Cx}
theorem sh_of {x : Dt} (h : shal x = true) : x.depth ≤ 60 := of_decide_eq_true h
theorem shL_of {x : List Dt} (h : shalL x = true) : PyData.depthAll x ≤ 60 := of_decide_eq_true h
theorem o_eq (hu : X.A.units + 64 < cLine) : OpR X (compareOp .Eq) (rTwo X.K eqD) := by
  intro pins s σ H x y v u Q I rx ry h
  obtain ⟨d, e, z, hd, he, pd, pe, hg, q⟩ := h
  obtain ⟨as, r1⟩ := Dp.reads I d x v hd rx
  obtain ⟨bs, r2⟩ := Dp.reads I e y u he ry
  unfold eqD at hg
  split at hg
  · rename_i hs
    rw [Bool.and_eq_true] at hs
    cases hg
    have h1 := sh_of hs.1
    exact SeqAt.eq_plain r1 r2 pd pe (by have := Nat.min_le_left d.depth e.depth; omega) ⟨.bl _, H, I, rfl, q⟩
  · cases hg
theorem o_ne (hu : X.A.units + 64 < cLine) : OpR X (compareOp .NotEq) (rTwo X.K neD) := by
  intro pins s σ H x y v u Q I rx ry h
  obtain ⟨d, e, z, hd, he, pd, pe, hg, q⟩ := h
  obtain ⟨as, r1⟩ := Dp.reads I d x v hd rx
  obtain ⟨bs, r2⟩ := Dp.reads I e y u he ry
  unfold neD at hg
  split at hg
  · rename_i hs
    rw [Bool.and_eq_true] at hs
    cases hg
    have h1 := sh_of hs.1
    exact SeqAt.ne_plain r1 r2 pd pe (by have := Nat.min_le_left d.depth e.depth; omega) ⟨.bl _, H, I, rfl, q⟩
  · cases hg
theorem o_in (hu : X.A.units + 64 < cLine) : OpR X (compareOp .In) (rTwo X.K inD) := by
  intro pins s σ H x y v u Q I rx ry h
  obtain ⟨d, e, z, hd, he, pd, pe, hg, q⟩ := h
  obtain ⟨as, r1⟩ := Dp.reads I d x v hd rx
  obtain ⟨bs, r2⟩ := Dp.reads I e y u he ry
  unfold inD at hg
  split at hg
  · rename_i ys
    split at hg
    · rename_i hs
      rw [Bool.and_eq_true] at hs
      cases hg
      have h1 := sh_of hs.1
      exact SeqAt.in_list_data r2 r1 pe pd (by have := Nat.min_le_right (PyData.depthAll ys) d.depth; omega) ⟨.bl _, H, I, rfl, q⟩
    · cases hg
  · rename_i ys
    split at hg
    · rename_i hs
      rw [Bool.and_eq_true] at hs
      cases hg
      have h1 := sh_of hs.1
      exact SeqAt.in_tuple_data r2 r1 pe pd (by have := Nat.min_le_right (PyData.depthAll ys) d.depth; omega) ⟨.bl _, H, I, rfl, q⟩
    · cases hg
  · cases hg
theorem o_nin (hu : X.A.units + 64 < cLine) : OpR X (compareOp .NotIn) (rTwo X.K ninD) := by
  intro pins s σ H x y v u Q I rx ry h
  obtain ⟨d, e, z, hd, he, pd, pe, hg, q⟩ := h
  obtain ⟨as, r1⟩ := Dp.reads I d x v hd rx
  obtain ⟨bs, r2⟩ := Dp.reads I e y u he ry
  unfold ninD inD at hg
  split at hg
  · rename_i ys
    split at hg
    · rename_i hs
      rw [Bool.and_eq_true] at hs
      cases hg
      have h1 := sh_of hs.1
      exact SeqAt.notIn_list_data r2 r1 pe pd (by have := Nat.min_le_right (PyData.depthAll ys) d.depth; omega) ⟨.bl _, H, I, rfl, q⟩
    · cases hg
  · rename_i ys
    split at hg
    · rename_i hs
      rw [Bool.and_eq_true] at hs
      cases hg
      have h1 := sh_of hs.1
      exact SeqAt.notIn_tuple_data r2 r1 pe pd (by have := Nat.min_le_right (PyData.depthAll ys) d.depth; omega) ⟨.bl _, H, I, rfl, q⟩
    · cases hg
  · cases hg
end
def ltI (x y : Dt) : Option Bool := match x, y with
  | .int i, .int j => some (decide (i < j))
  | _, _ => none
def leI (x y : Dt) : Option Bool := match x, y with
  | .int i, .int j => some (decide (i ≤ j))
  | _, _ => none
def gtI (x y : Dt) : Option Bool := match x, y with
  | .int i, .int j => some (decide (j < i))
  | _, _ => none
def geI (x y : Dt) : Option Bool := match x, y with
  | .int i, .int j => some (decide (j ≤ i))
  | _, _ => none
theorem tells_ints {b : Bs} {g : Int → Int → Bool} {h : Dt → Dt → Option Bool} (hh : ∀ x y z, h x y = some z → ∃ i j, x = .int i ∧ y = .int j ∧ z = g i j) : Tells b (rI0 fun i j => .bl (g i j)) h := fun {c G H ρ σ x y dx dy z Q} S hx hy e q => by
  obtain ⟨i, j, rfl, rfl, rfl⟩ := hh _ _ _ e
  exact ⟨i, j, hx.int, hy.int, q⟩
theorem t_lt {b : Bs} : Tells b (rI0 fun i j => .bl (decide (i < j))) ltI := tells_ints fun x y z e => by
  cases x <;> cases y <;> first | (cases e; exact ⟨_, _, rfl, rfl, rfl⟩) | cases e
theorem t_le {b : Bs} : Tells b (rI0 fun i j => .bl (decide (i ≤ j))) leI := tells_ints fun x y z e => by
  cases x <;> cases y <;> first | (cases e; exact ⟨_, _, rfl, rfl, rfl⟩) | cases e
theorem t_gt {b : Bs} : Tells b (rI0 fun i j => .bl (decide (j < i))) gtI := tells_ints fun x y z e => by
  cases x <;> cases y <;> first | (cases e; exact ⟨_, _, rfl, rfl, rfl⟩) | cases e
theorem t_ge {b : Bs} : Tells b (rI0 fun i j => .bl (decide (j ≤ i))) geI := tells_ints fun x y z e => by
  cases x <;> cases y <;> first | (cases e; exact ⟨_, _, rfl, rfl, rfl⟩) | cases e
/-- comparisons as values -/
def cmpM (g : Dt → Dt → Option Bool) (fa fb : M Av) : M Av := bindM fa fun a => bindM fb fun b => optM fun ρ => (res ρ a).bind fun x => (res ρ b).bind fun y => (g x y).map fun z => .d (.bool z)
section
variable {X : Cx} {b : Bs} {W : WX} {a a2 : Expr} {fa fb : M Av} {pos : Pos}
theorem m_cmpB {op : CmpOp} {r : R2} {g : Dt → Dt → Option Bool} (ho : OpR X (compareOp op) r) (t : Tells b r g) (ha : PE X a (tE b W fa)) (hb : PE X a2 (tE b W fb)) (hm : behindInMarks op a2 = false) : PE X (.Compare a [op] [a2] pos) (tE b W (cmpM g fa fb)) :=
  weakE (pe_cmpR ho ha hb hm) fun σ H Q ⟨c, G, ρ, S, q⟩ => ⟨c, G, ρ, S, (Post.bind q).imp fun xa ρ1 G1 H1 e1 S1 q1 v hv => ⟨c, G1, ρ1, S1, (Post.bind q1).imp fun xb ρ2 G2 H2 e2 S2 q2 u hu => by
    obtain ⟨z, h1, h2⟩ := q2.opt S2
    cases hx : res ρ2 xa with
    | none => rw [hx] at h1; cases h1
    | some x =>
      cases hy : res ρ2 xb with
      | none => rw [hx, hy] at h1; cases h1
      | some y =>
        rw [hx, hy] at h1
        dsimp only [Option.bind_some] at h1
        cases hg : g x y with
        | none => rw [hg] at h1; cases h1
        | some k =>
          rw [hg] at h1
          cases h1
          exact t S2 ((hv.mono e2).res S2 hx) (hu.res S2 hy) hg (h2 _ (.bl k))⟩⟩
theorem m_lt (ha : PE X a (tE b W fa)) (hb : PE X a2 (tE b W fb)) : PE X (.Compare a [.Lt] [a2] pos) (tE b W (cmpM ltI fa fb)) := m_cmpB op_lt t_lt ha hb (nomark _)
theorem m_le (ha : PE X a (tE b W fa)) (hb : PE X a2 (tE b W fb)) : PE X (.Compare a [.LtE] [a2] pos) (tE b W (cmpM leI fa fb)) := m_cmpB op_le t_le ha hb (nomark _)
theorem m_gt (ha : PE X a (tE b W fa)) (hb : PE X a2 (tE b W fb)) : PE X (.Compare a [.Gt] [a2] pos) (tE b W (cmpM gtI fa fb)) := m_cmpB op_gt t_gt ha hb (nomark _)
theorem m_ge (ha : PE X a (tE b W fa)) (hb : PE X a2 (tE b W fb)) : PE X (.Compare a [.GtE] [a2] pos) (tE b W (cmpM geI fa fb)) := m_cmpB op_ge t_ge ha hb (nomark _)
theorem m_eq (hu : X.A.units + 64 < cLine) (hK : X.K = b.K) (ha : PE X a (tE b W fa)) (hb : PE X a2 (tE b W fb)) : PE X (.Compare a [.Eq] [a2] pos) (tE b W (cmpM eqD fa fb)) := m_cmpB (o_eq hu) (by rw [hK]; exact tells_two _) ha hb (nomark _)
theorem m_ne (hu : X.A.units + 64 < cLine) (hK : X.K = b.K) (ha : PE X a (tE b W fa)) (hb : PE X a2 (tE b W fb)) : PE X (.Compare a [.NotEq] [a2] pos) (tE b W (cmpM neD fa fb)) := m_cmpB (o_ne hu) (by rw [hK]; exact tells_two _) ha hb (nomark _)
theorem m_in (hu : X.A.units + 64 < cLine) (hK : X.K = b.K) (ha : PE X a (tE b W fa)) (hb : PE X a2 (tE b W fb)) (hm : behindInMarks .In a2 = false := by rfl) : PE X (.Compare a [.In] [a2] pos) (tE b W (cmpM inD fa fb)) := m_cmpB (o_in hu) (by rw [hK]; exact tells_two _) ha hb hm
theorem m_nin (hu : X.A.units + 64 < cLine) (hK : X.K = b.K) (ha : PE X a (tE b W fa)) (hb : PE X a2 (tE b W fb)) (hm : behindInMarks .NotIn a2 = false := by rfl) : PE X (.Compare a [.NotIn] [a2] pos) (tE b W (cmpM ninD fa fb)) := m_cmpB (o_nin hu) (by rw [hK]; exact tells_two _) ha hb hm
/-! is None -/
def isNone : Dt → Bool
  | .none => true
  | _ => false
def nonA (ρ : Ev) : Av → Option Bool
  | .d x => some (isNone x)
  | .s i => match ρ[i]? with
    | some (some (.d x)) => some (isNone x)
    | some (some _) => some false
    | _ => none
def isN (n : Bool) (fa : M Av) : M Av := bindM fa fun a => optM fun ρ => (nonA ρ a).map fun k => .d (.bool (if n then !k else k))
theorem isNone_of {K : Fg} {G : Hp} {v : V} {x : Dt} (h : Rp K G v x) : decide (v = .non) = isNone x := by
  cases h <;> rfl
theorem nonA_of {c : Fc} {G H : Hp} {ρ : Ev} {σ : St} {v : V} {z : Av} {k : Bool} (S : SIG b c G ρ σ H) (h : RA b.K G σ v z) (e : nonA ρ z = some k) : decide (v = .non) = k := by
  cases z with
  | d x => cases e; exact isNone_of h
  | s i =>
    have e : (match ρ[i]? with
      | some (some (.d x)) => some (isNone x)
      | some (some _) => some false
      | _ => none) = some k := e
    have h : σ[i]? = some (some v) := h
    split at e
    · rename_i x hx
      cases e
      obtain ⟨u, hu, r⟩ := S.sl i _ hx
      rw [h] at hu
      cases hu
      exact isNone_of r
    · rename_i sv hne hx
      cases e
      obtain ⟨u, hu, r⟩ := S.sl i _ hx
      rw [h] at hu
      cases hu
      cases sv with
      | d x => exact absurd rfl (hne x)
      | ls r' xs => obtain ⟨p, _, rfl, _⟩ := r; rfl
      | dk r' xs => obtain ⟨p, _, rfl, _⟩ := r; rfl
      | dt r' xs => obtain ⟨p, _, rfl, _⟩ := r; rfl
      | ex k => obtain ⟨p, rfl, _⟩ := r; rfl
      | scr ns => obtain ⟨p, rfl, _⟩ := r; rfl
      | fk kvs => obtain ⟨p, _, _, rfl, _⟩ := r; rfl
      | ft kvs => obtain ⟨p, _, _, rfl, _⟩ := r; rfl
      | mt r' m => obtain ⟨p, _, _, rfl, _⟩ := r; rfl
    · cases e
theorem m_isN {j pos'} (ha : PE X a (tE b W fa)) : PE X (.Compare a [.Is] [.Constant .none j pos'] pos) (tE b W (isN false fa)) := weakE (pe_cmp (pc_isN ha)) fun σ H Q ⟨c, G, ρ, S, q⟩ => ⟨c, G, ρ, S, (Post.bind q).imp fun z ρ1 G1 H1 e1 S1 q1 v hv => by
  obtain ⟨k, h1, h2⟩ := q1.opt S1
  cases hx : nonA ρ1 z with
  | none => rw [hx] at h1; cases h1
  | some t =>
    rw [hx] at h1
    cases h1
    rw [nonA_of S1 hv hx]
    exact h2 _ (.bl t)⟩
theorem m_notN {j pos'} (ha : PE X a (tE b W fa)) : PE X (.Compare a [.IsNot] [.Constant .none j pos'] pos) (tE b W (isN true fa)) := weakE (pe_cmp (pc_notN ha)) fun σ H Q ⟨c, G, ρ, S, q⟩ => ⟨c, G, ρ, S, (Post.bind q).imp fun z ρ1 G1 H1 e1 S1 q1 v hv => by
  obtain ⟨k, h1, h2⟩ := q1.opt S1
  cases hx : nonA ρ1 z with
  | none => rw [hx] at h1; cases h1
  | some t =>
    rw [hx] at h1
    cases h1
    rw [nonA_of S1 hv hx]
    exact h2 _ (.bl (!t))⟩
end
/-! comparisons as tests -/
def cmpT (g : Dt → Dt → Option Bool) (fa fb : M Av) : M Bool := bindM fa fun a => bindM fb fun b => optM fun ρ => (res ρ a).bind fun x => (res ρ b).bind fun y => g x y
def isNT (n : Bool) (fa : M Av) : M Bool := bindM fa fun a => optM fun ρ => (nonA ρ a).map fun k => if n then !k else k
section
variable {X : Cx} {b : Bs} {W : WX} {a a2 : Expr} {fa fb : M Av} {pos : Pos}
theorem m_tcmp {op : CmpOp} {r : R2} {g : Dt → Dt → Option Bool} (ho : OpR X (compareOp op) r) (t : Tells b r g) (ha : PE X a (tE b W fa)) (hb : PE X a2 (tE b W fb)) (hm : behindInMarks op a2 = false) : PT X (.Compare a [op] [a2] pos) (tT b W (cmpT g fa fb)) :=
  weakT (pt_cmpR ho ha hb hm) fun σ H Q ⟨c, G, ρ, S, q⟩ => ⟨c, G, ρ, S, (Post.bind q).imp fun xa ρ1 G1 H1 e1 S1 q1 v hv => ⟨c, G1, ρ1, S1, (Post.bind q1).imp fun xb ρ2 G2 H2 e2 S2 q2 u hu => by
    obtain ⟨z, h1, h2⟩ := q2.opt S2
    cases hx : res ρ2 xa with
    | none => rw [hx] at h1; cases h1
    | some x =>
      cases hy : res ρ2 xb with
      | none => rw [hx, hy] at h1; cases h1
      | some y =>
        rw [hx, hy] at h1
        exact t S2 ((hv.mono e2).res S2 hx) (hu.res S2 hy) h1 ⟨z, rfl, h2⟩⟩⟩
theorem m_tisN {j pos'} (ha : PE X a (tE b W fa)) : PT X (.Compare a [.Is] [.Constant .none j pos'] pos) (tT b W (isNT false fa)) := weakT (pt_cmp (pc_isN ha)) fun σ H Q ⟨c, G, ρ, S, q⟩ => ⟨c, G, ρ, S, (Post.bind q).imp fun z ρ1 G1 H1 e1 S1 q1 v hv => by
  obtain ⟨k, h1, h2⟩ := q1.opt S1
  cases hx : nonA ρ1 z with
  | none => rw [hx] at h1; cases h1
  | some t =>
    rw [hx] at h1
    cases h1
    exact ⟨_, congrArg V.bl (nonA_of S1 hv hx), h2⟩⟩
theorem m_tnotN {j pos'} (ha : PE X a (tE b W fa)) : PT X (.Compare a [.IsNot] [.Constant .none j pos'] pos) (tT b W (isNT true fa)) := weakT (pt_cmp (pc_notN ha)) fun σ H Q ⟨c, G, ρ, S, q⟩ => ⟨c, G, ρ, S, (Post.bind q).imp fun z ρ1 G1 H1 e1 S1 q1 v hv => by
  obtain ⟨k, h1, h2⟩ := q1.opt S1
  cases hx : nonA ρ1 z with
  | none => rw [hx] at h1; cases h1
  | some t =>
    rw [hx] at h1
    cases h1
    exact ⟨_, congrArg (fun k => V.bl (!k)) (nonA_of S1 hv hx), h2⟩⟩
end
/-! arithmetic, lists by operators -/
def small64 (i : Int) : Bool := Nat.blt i.natAbs 18446744073709551616
def addD (x y : Dt) : Option Rv := match x, y with
  | .int i, .int j => some (.d (.int (i + j)))
  | .list xs, .list ys => if xs.length + ys.length ≤ 1000000 then some (.l (xs ++ ys)) else none
  | .str s, .str t => if s.length + t.length ≤ 1000000 then some (.d (.str (s ++ t))) else none
  | _, _ => none
def subD (x y : Dt) : Option Rv := match x, y with
  | .int i, .int j => some (.d (.int (i - j)))
  | _, _ => none
def mulD (x y : Dt) : Option Rv := match x, y with
  | .int i, .int j => if small64 i || small64 j then some (.d (.int (i * j))) else none
  | .list xs, .int k => if mid k && decide (k ≤ 1000) && decide (xs.length ≤ 1000) then some (.l (List.replicate k.toNat xs).flatten) else none
  | _, _ => none
def fdivD (x y : Dt) : Option Rv := match x, y with
  | .int i, .int j => if 0 < j ∧ j.natAbs < 1073741824 then some (.d (.int (i / j))) else none
  | _, _ => none
def modD (x y : Dt) : Option Rv := match x, y with
  | .int i, .int j => if 0 < j then some (.d (.int (i % j))) else none
  | _, _ => none
def powD (x y : Dt) : Option Rv := match x, y with
  | .int i, .int j => if 0 ≤ j ∧ j ≤ 1000000 ∧ i.natAbs < 2 ^ 64 then some (.d (.int (i ^ j.toNat))) else none
  | _, _ => none
theorem fin_d {b : Bs} {c : Fc} {G H : Hp} {ρ : Ev} {σ : St} {v : V} {x : Dt} {Q : VK} (S : SIG b c G ρ σ H) (q : ∀ v H' G', Same G G' → SIG b c G' ρ σ H' → RN b c G' H' v (.d x) → Apart ρ σ v (.d x) → Q v H') (r : Rp b.K G v x) : Q v H :=
  q v H G (Same.refl G) S r fun p _ z => by cases z
theorem fin_l {b : Bs} {c : Fc} {G H : Hp} {ρ : Ev} {σ : St} {p : Addr} {vs : List V} {xs : List Dt} {Q : VK} (S : SIG b c G ρ σ H) (q : ∀ v H' G', Same G G' → SIG b c G' ρ σ H' → RN b c G' H' v (.l xs) → Apart ρ σ v (.l xs) → Q v H') (hp : H p = none) (r : Rps b.K G vs xs) : Q (.ref p) (upd H p (.lst vs)) :=
  q (.ref p) _ G (Same.refl G) (S.alloc hp) ⟨p, vs, rfl, upd_same, S.free hp, r, S.fresh0 hp⟩ fun p' ep _ => by cases ep; exact S.noOwn hp
def rAddD : R2 := fun x y H Q => (rI0 fun i j => .int (i + j)) x y H Q ∨ rCat x y H Q ∨ (∃ i j, x = .str i ∧ y = .str j ∧ i.length + j.length ≤ sizeLine ∧ Q (.str (i ++ j)) H)
theorem le_line {n : Nat} (h : n ≤ 1000000) : n ≤ sizeLine := Nat.le_trans h (by decide)
theorem d_add {b : Bs} : Does2 b rAddD addD := fun {c G H ρ σ x y dx dy z Q} S hx hy e q => by
  unfold addD at e
  split at e
  · cases e
    exact .inl ⟨_, _, hx.int, hy.int, fin_d S q (.int _)⟩
  · split at e
    · rename_i xs ys hl
      cases e
      obtain ⟨p, vs, rfl, h1, h2⟩ := hx.list S.gh
      obtain ⟨p', vs', rfl, h1', h2'⟩ := hy.list S.gh
      exact .inr (.inl ⟨p, p', vs, vs', rfl, rfl, h1, h1', by rw [h2.length, h2'.length]; exact le_line hl, fun r hr => fin_l S q hr (h2.append h2')⟩)
    · cases e
  · split at e
    · rename_i hl
      cases e
      exact .inr (.inr ⟨_, _, hx.str, hy.str, le_line hl, fin_d S q (.str _)⟩)
    · cases e
  · cases e
def rMulD : R2 := fun x y H Q => (rI CMul fun i j => .int (i * j)) x y H Q ∨ rRep x y H Q
theorem small64_of {i : Int} (h : small64 i = true) : -(2 ^ 64) < i ∧ i < 2 ^ 64 := by
  unfold small64 at h
  have h := Nat.blt_eq.mp h
  omega
theorem d_mul {b : Bs} : Does2 b rMulD mulD := fun {c G H ρ σ x y dx dy z Q} S hx hy e q => by
  unfold mulD at e
  split at e
  · split at e
    · rename_i hl
      cases e
      rw [Bool.or_eq_true] at hl
      exact .inl ⟨_, _, hx.int, hy.int, hl.elim (fun z => .inl (small64_of z)) fun z => .inr (small64_of z), fin_d S q (.int _)⟩
    · cases e
  · split at e
    · rename_i xs k hl
      cases e
      rw [Bool.and_eq_true, Bool.and_eq_true, decide_eq_true_eq, decide_eq_true_eq] at hl
      obtain ⟨⟨l1, l2⟩, l3⟩ := hl
      have l1 := mid_of l1
      obtain ⟨p, vs, rfl, h1, h2⟩ := hx.list S.gh
      refine .inr ⟨p, k, vs, rfl, hy.int, h1, by omega, by omega, ?_, fun r hr => fin_l S q hr (h2.rep _)⟩
      rw [h2.length]
      have : k.toNat ≤ 1000 := by omega
      exact Nat.le_trans (Nat.mul_le_mul l3 this) (by decide)
    · cases e
  · cases e
theorem d_sub {b : Bs} : Does2 b (rI0 fun i j => .int (i - j)) subD := fun {c G H ρ σ x y dx dy z Q} S hx hy e q => by
  unfold subD at e
  split at e
  · cases e
    exact ⟨_, _, hx.int, hy.int, fin_d S q (.int _)⟩
  · cases e
theorem d_fdiv {b : Bs} : Does2 b (rI CDiv fun i j => .int (i / j)) fdivD := fun {c G H ρ σ x y dx dy z Q} S hx hy e q => by
  unfold fdivD at e
  split at e
  · split at e
    · rename_i hl
      cases e
      exact ⟨_, _, hx.int, hy.int, ⟨hl.1, by have := hl.2; omega⟩, fin_d S q (.int _)⟩
    · cases e
  · cases e
theorem d_mod {b : Bs} : Does2 b (rI (fun _ j => 0 < j) fun i j => .int (i % j)) modD := fun {c G H ρ σ x y dx dy z Q} S hx hy e q => by
  unfold modD at e
  split at e
  · split at e
    · rename_i hl
      cases e
      exact ⟨_, _, hx.int, hy.int, hl, fin_d S q (.int _)⟩
    · cases e
  · cases e
theorem d_pow {b : Bs} : Does2 b (rI CPow fun i j => .int (i ^ j.toNat)) powD := fun {c G H ρ σ x y dx dy z Q} S hx hy e q => by
  unfold powD at e
  split at e
  · split at e
    · rename_i hl
      cases e
      exact ⟨_, _, hx.int, hy.int, hl, fin_d S q (.int _)⟩
    · cases e
  · cases e
def negD (x : Dt) : Option Rv := match x with
  | .int i => some (.d (.int (-i)))
  | _ => none
theorem d_neg {b : Bs} : Does1 b (rU fun i => .int (-i)) negD := fun {c G H ρ σ x dx z Q} S hx e q => by
  unfold negD at e
  split at e
  · cases e
    exact ⟨_, hx.int, fin_d S q (.int _)⟩
  · cases e
/-- an item -/
def ixD (x y : Dt) : Option Rv := match x, y with
  | .list xs, .int i => (atI xs i).map Rv.d
  | .tuple xs, .int i => (atI xs i).map Rv.d
  | .str s, .int i => if s.length ≤ 1000000 then (atI s.cps.toList i).map fun c => .d (.str ⟨#[c]⟩) else none
  | _, _ => none
theorem atI_rps {K : Fg} {G : Hp} {vs : List V} {xs : List Dt} {i : Int} {d : Dt} (r : Rps K G vs xs) (e : atI xs i = some d) : ∃ v, atI vs i = some v ∧ Rp K G v d := by
  unfold atI at e ⊢
  rw [← r.length] at e
  cases h : ixN vs.length i with
  | none => rw [h] at e; cases e
  | some j =>
    rw [h] at e
    exact r.get e
theorem d_ix {b : Bs} : Does2 b (rIx b.K) ixD := fun {c G H ρ σ x y dx dy z Q} S hx hy e q => by
  unfold ixD at e
  split at e
  · rename_i xs i
    obtain ⟨p, vs, rfl, h1, h2⟩ := hx.list S.gh
    cases hd : atI xs i with
    | none => rw [hd] at e; cases e
    | some d =>
      rw [hd] at e
      cases e
      obtain ⟨v, h3, h4⟩ := atI_rps h2 hd
      exact .inl ⟨p, vs, i, v, rfl, hy.int, SqL.of h1, h3, fin_d S q h4⟩
  · rename_i xs i
    obtain ⟨p, vs, rfl, h1, h2⟩ := hx.tup
    cases hd : atI xs i with
    | none => rw [hd] at e; cases e
    | some d =>
      rw [hd] at e
      cases e
      obtain ⟨v, h3, h4⟩ := atI_rps h2 hd
      exact .inr (.inl ⟨p, vs, i, v, rfl, hy.int, same_sqT S.gh h1, h3, fin_d S q h4⟩)
  · split at e
    · rename_i s i hl
      cases hd : atI s.cps.toList i with
      | none => rw [hd] at e; cases e
      | some d =>
        rw [hd] at e
        cases e
        exact .inr (.inr ⟨s, i, d, hx.str, hy.int, le_line hl, hd, fin_d S q (.str _)⟩)
    · cases e
  · cases e
section
variable {X : Cx} {b : Bs} {W : WX} {a a2 : Expr} {fa fb : M Av} {pos : Pos}
theorem m_add (ha : PE X a (tE b W fa)) (hb : PE X a2 (tE b W fb)) : PE X (.BinOp a .Add a2 pos) (tV b W (bin2 addD fa fb)) := m_op (op_add.or (op_cat.or op_add_str)) d_add ha hb
theorem m_sub (ha : PE X a (tE b W fa)) (hb : PE X a2 (tE b W fb)) : PE X (.BinOp a .Sub a2 pos) (tV b W (bin2 subD fa fb)) := m_op op_sub d_sub ha hb
theorem m_mul (ha : PE X a (tE b W fa)) (hb : PE X a2 (tE b W fb)) : PE X (.BinOp a .Mult a2 pos) (tV b W (bin2 mulD fa fb)) := m_op (op_mul.or op_rep) d_mul ha hb
theorem m_fdiv (ha : PE X a (tE b W fa)) (hb : PE X a2 (tE b W fb)) : PE X (.BinOp a .FloorDiv a2 pos) (tV b W (bin2 fdivD fa fb)) := m_op op_fdiv d_fdiv ha hb
theorem m_mod (ha : PE X a (tE b W fa)) (hb : PE X a2 (tE b W fb)) : PE X (.BinOp a .Mod a2 pos) (tV b W (bin2 modD fa fb)) := m_op op_mod d_mod ha hb
theorem m_pow (ha : PE X a (tE b W fa)) (hb : PE X a2 (tE b W fb)) : PE X (.BinOp a .Pow a2 pos) (tV b W (bin2 powD fa fb)) := m_op op_pow d_pow ha hb
theorem m_neg (ha : PE X a (tE b W fa)) : PE X (.UnaryOp .USub a pos) (tV b W (un1 negD fa)) := m_un un_neg d_neg ha
theorem m_idx (hK : X.K = b.K) (ha : PE X a (tE b W fa)) (hb : PE X a2 (tE b W fb)) (hs : PlainIx a2 := by intro _ _; rfl) : PE X (.Subscript a a2 pos) (tV b W (bin2 ixD fa fb)) := m_ix ix_seq (by rw [hK]; exact d_ix) ha hb hs
end
/-! slices -/
def cutD (xs : List Dt) (lo hi : Option Int) : List Dt := (xs.drop (HT.sIx xs.length 0 lo)).take (HT.sIx xs.length xs.length hi - HT.sIx xs.length 0 lo)
theorem cut_rps {K : Fg} {G : Hp} {vs : List V} {xs : List Dt} (r : Rps K G vs xs) (lo hi : Option Int) : Rps K G (cutV vs lo hi) (cutD xs lo hi) := by
  unfold cutV cutD
  rw [r.length]
  exact (r.drop _).take _
def partN : M (Option Int) := retM none
def partS (f : M Av) : M (Option Int) := bindM f fun a => optM fun ρ => match res ρ a with
  | some (.int i) => some (some i)
  | _ => none
def slD (x : Dt) (lo hi : Option Int) : Option Rv := match x with
  | .list xs => some (.l (cutD xs lo hi))
  | .str s => if s.length ≤ 1000000 then some (.d (.str (cutS s lo hi))) else none
  | _ => none
def sliceM (fa : M Av) (fl fh : M (Option Int)) : M Rv := bindM fa fun a => bindM fl fun lo => bindM fh fun hi => optM fun ρ => (res ρ a).bind fun x => slD x lo hi
def tPO (b : Bs) (W : WX) (f : M (Option Int)) : TO := fun σ H Q => ∃ c G ρ, SIG b c G ρ σ H ∧ Post b c W G σ (fun o _ _ H' => Q o H') (f ρ)
section
variable {X : Cx} {b : Bs} {W : WX} {a : Expr} {lo hi : Option Expr} {fa : M Av} {fl fh : M (Option Int)} {pos p2 : Pos}
theorem weakO {e : Option Expr} {t t' : TO} (h : PO X e t) (w : ∀ σ H Q, t' σ H Q → t σ H Q) : PO X e t' := ⟨fun pins s σ H Q I q => h.run pins s σ H Q I (w σ H Q q)⟩
theorem p_none : PO X none (tPO b W partN) := weakO po_none fun σ H Q ⟨c, G, ρ, S, q⟩ => q.ret S
theorem p_some {e : Expr} (h : PE X e (tE b W fa)) : PO X (some e) (tPO b W (partS fa)) := weakO (po_some h) fun σ H Q ⟨c, G, ρ, S, q⟩ => ⟨c, G, ρ, S, (Post.bind q).imp fun z ρ1 G1 H1 e1 S1 q1 v hv => by
  obtain ⟨o, h1, h2⟩ := q1.opt S1
  split at h1
  · rename_i i hx
    cases h1
    exact ⟨i, (hv.res S1 hx).int, h2⟩
  · cases h1⟩
def rSlD (K : Fg) : V → Option Int → Option Int → Hp → VK → Prop := fun x l h H Q => rSlL K x l h H Q ∨ ∃ z, x = .str z ∧ z.length ≤ sizeLine ∧ Q (.str (cutS z l h)) H
theorem m_slice (hK : X.K = b.K) (hr : SlR X (rSlD X.K)) (ha : PE X a (tE b W fa)) (hl : PO X lo (tPO b W fl)) (hh : PO X hi (tPO b W fh)) : PE X (.Subscript a (.Slice lo hi none p2) pos) (tV b W (sliceM fa fl fh)) :=
  weakE (pe_slice hr ha hl hh) fun σ H Q ⟨c, G, ρ, S, q⟩ => ⟨c, G, ρ, S, (Post.bind q).imp fun z ρ1 G1 H1 e1 S1 q1 v hv => ⟨c, G1, ρ1, S1, (Post.bind q1).imp fun l ρ2 G2 H2 e2 S2 q2 => ⟨c, G2, ρ2, S2, (Post.bind q2).imp fun h ρ3 G3 H3 e3 S3 q3 => by
    unfold optM at q3
    split at q3
    · rename_i r hr'
      dsimp only at hr'
      cases hx : res ρ3 z with
      | none => rw [hx] at hr'; cases hr'
      | some x =>
        rw [hx] at hr'
        have ro := ((hv.mono e2).mono e3).res S3 hx
        have hr' : slD x l h = some r := hr'
        have q4 : ∀ v H' G', Same G3 G' → SIG b c G' ρ3 σ H' → RN b c G' H' v r → Apart ρ3 σ v r → Q v H' := fun v' H' G' ee SS rr ap => q3 H' G' ee SS v' rr ap
        unfold slD at hr'
        split at hr'
        · cases hr'
          obtain ⟨p, vs, rfl, h1, h2⟩ := ro.list S3.gh
          exact .inl ⟨p, vs, rfl, by rw [hK]; exact SqL.of h1, fun r hr => fin_l S3 q4 hr (cut_rps h2 l h)⟩
        · split at hr'
          · rename_i hz
            cases hr'
            exact .inr ⟨_, ro.str, le_line hz, fin_d S3 q4 (.str _)⟩
          · cases hr'
        · cases hr'
    · exact q3.elim⟩⟩⟩
end
end G8
namespace G8
open PySem L2
/-! built-in calls upon data -/
def ress (ρ : Ev) : List Av → Option (List Dt)
  | [] => some []
  | a :: as => (res ρ a).bind fun x => (ress ρ as).map fun xs => x :: xs
inductive ROs (K : Fg) (G H : Hp) : List V → List Dt → Prop
  | nil : ROs K G H [] []
  | cons {v : V} {d : Dt} {vs : List V} {ds : List Dt} : RO K G H v d → ROs K G H vs ds → ROs K G H (v :: vs) (d :: ds)
theorem ress_of {b : Bs} {c : Fc} {G H : Hp} {ρ : Ev} {σ : St} (S : SIG b c G ρ σ H) : ∀ {vs : List V} {as : List Av} {xs : List Dt}, Ras b.K G σ vs as → ress ρ as = some xs → ROs b.K G H vs xs
  | _, [], _, h, e => by
    cases h
    cases e
    exact .nil
  | _, a :: as, _, h, e => by
    cases h with
    | cons h1 h2 =>
      unfold ress at e
      cases hx : res ρ a with
      | none => rw [hx] at e; cases e
      | some x =>
        rw [hx] at e
        cases hy : ress ρ as with
        | none => rw [hy] at e; cases e
        | some ys =>
          rw [hy] at e
          cases e
          exact .cons (h1.res S hx) (ress_of S h2 hy)
def biM (g : List Dt → Option Rv) (fl : M (List Av)) : M Rv := bindM fl fun as => optM fun ρ => (ress ρ as).bind g
def DoesN (b : Bs) (r : List V → Hp → VK → Prop) (g : List Dt → Option Rv) : Prop := ∀ {c : Fc} {G H : Hp} {ρ : Ev} {σ : St} {xs : List V} {ds : List Dt} {z : Rv} {Q : VK}, SIG b c G ρ σ H → ROs b.K G H xs ds → g ds = some z →
  (∀ v H' G', Same G G' → SIG b c G' ρ σ H' → RN b c G' H' v z → Apart ρ σ v z → Q v H') → r xs H Q
theorem bi_core {b : Bs} {W : WX} {fl : M (List Av)} {r : List V → Hp → VK → Prop} {g : List Dt → Option Rv} (dz : DoesN b r g) {σ : St} {H : Hp} {Q : VK} (h : tV b W (biM g fl) σ H Q) : tCB r (tL b W fl) σ H Q := by
  obtain ⟨c, G, ρ, S, q⟩ := h
  refine ⟨c, G, ρ, S, (Post.bind q).imp fun as ρ1 G1 H1 e1 S1 q1 vs hv => ?_⟩
  unfold optM at q1
  split at q1
  · rename_i z hz
    dsimp only at hz
    cases hx : ress ρ1 as with
    | none => rw [hx] at hz; cases hz
    | some xs =>
      rw [hx] at hz
      exact dz S1 (ress_of S1 hv hx) hz fun v' H' G' ee SS rr ap => q1 H' G' ee SS v' rr ap
  · exact q1.elim
section
variable {X : Cx} {b : Bs} {W : WX} {x : Str} {p pos : Pos} {e : Expr} {es : List Expr} {fl : M (List Av)} {id T : String} {r : List V → Hp → VK → Prop} {g : List Dt → Option Rv}
theorem m_bi (hc : CallR X (.builtin id) r) (dz : DoesN b r g) (hg : Gl X x) (hm : X.mg x = none) (hv : bootBuiltins x = some (.builtin id)) (ha : PA X (e :: es) (tL b W fl)) (hn : x ≠ "__name__" := by decide) (hdb : (x == ("__debug__" : Str)) = false := by decide)
    (he : starEach (e :: es) X.env = (false, eval e X.env) :: starEach es X.env := by rfl) (hpl : (backTo pos (starEach es X.env)).any (·.1) = false := by rfl) : PE X (.Call (.Name x p) (e :: es) [] pos) (tV b W (biM g fl)) :=
  weakE (pe_callB hc hg hm hv ha hn hdb he hpl) fun _ _ _ h => bi_core dz h
theorem m_ty (hc : CallR X (.type T) r) (dz : DoesN b r g) (hg : Gl X x) (hm : X.mg x = none) (hv : bootBuiltins x = some (.type T)) (ha : PA X (e :: es) (tL b W fl)) (hn : x ≠ "__name__" := by decide) (hdb : (x == ("__debug__" : Str)) = false := by decide)
    (he : starEach (e :: es) X.env = (false, eval e X.env) :: starEach es X.env := by rfl) (hpl : (backTo pos (starEach es X.env)).any (·.1) = false := by rfl) : PE X (.Call (.Name x p) (e :: es) [] pos) (tV b W (biM g fl)) :=
  weakE (pe_callTy hc hg hm hv ha hn hdb he hpl) fun _ _ _ h => bi_core dz h
end
/-! len -/
def lenD : Dt → Option Nat
  | .list xs => some xs.length
  | .tuple xs => some xs.length
  | .str s => if s.length ≤ 1000000 then some s.length else none
  | _ => none
def lenA (ρ : Ev) : Av → Option Nat
  | .d x => lenD x
  | .s i => match ρ[i]? with
    | some (some (.d x)) => lenD x
    | some (some (.ls _ xs)) => some xs.length
    | some (some (.dk _ xs)) => some xs.length
    | some (some (.scr ns)) => some ns.length
    | _ => none
def lenM (fa : M Av) : M Av := bindM fa fun a => optM fun ρ => (lenA ρ a).map fun (n : Nat) => Av.d (.int (n : Int))
def rLenA (K : Fg) : List V → Hp → VK → Prop := fun xs H Q => (∃ x n, xs = [x] ∧ LenV K x H n ∧ Q (.int n) H) ∨ ∃ a kvs, xs = [V.ref a] ∧ H a = some (.dK kvs) ∧ Q (.int kvs.length) H
theorem lenD_of {K : Fg} {G H : Hp} {v : V} {x : Dt} {n : Nat} (e : SameG G H) (h : RO K G H v x) (q : lenD x = some n) : LenV K v H n := by
  cases x with
  | list ds =>
    obtain ⟨p, vs, rfl, h1, h2⟩ := h.list e
    cases q
    exact .inl ⟨vs, SqL.of h1, h2.length.symm⟩
  | tuple ds =>
    obtain ⟨p, vs, rfl, h1, h2⟩ := h.tup
    cases q
    exact .inr ⟨vs, same_sqT e h1, h2.length.symm⟩
  | str s =>
    rw [h.str]
    have q : (if s.length ≤ 1000000 then some s.length else none) = some n := q
    split at q
    · rename_i hl
      cases q
      exact ⟨le_line hl, rfl⟩
    · cases q
  | _ => cases q
section
variable {X : Cx} {b : Bs} {W : WX} {p pos : Pos} {e : Expr} {fa : M Av}
theorem m_len (hK : X.K = b.K) (hg : Gl X "len") (hm : X.mg "len" = none) (ha : PE X e (tE b W fa)) (hs : starEach [e] X.env = (false, eval e X.env) :: starEach [] X.env := by rfl) : PE X (.Call (.Name "len" p) [e] [] pos) (tE b W (lenM fa)) :=
  weakE (pe_callB ((call_len (X := X)).or call_lenD) hg hm PySem.boot_len (pa_cons ha pa_nil hs) (by decide) (by decide) hs) fun σ H Q ⟨c, G, ρ, S, q⟩ => ⟨c, G, ρ, S, (Post.bind q).imp fun a ρ1 G1 H1 e1 S1 q1 v hv => by
    obtain ⟨z, h1, h2⟩ := q1.opt S1
    show (∃ x n, [v] = [x] ∧ LenV X.K x H1 n ∧ Q (.int n) H1) ∨ ∃ a kvs, [v] = [V.ref a] ∧ H1 a = some (.dK kvs) ∧ Q (.int kvs.length) H1
    cases hx : lenA ρ1 a with
    | none => rw [hx] at h1; cases h1
    | some n =>
      rw [hx] at h1
      cases h1
      have fin := h2 _ (.int (n : Int))
      rw [hK]
      cases a with
      | d x => exact .inl ⟨v, n, rfl, lenD_of S1.gh (.inl hv) hx, fin⟩
      | s i =>
        have hv : σ[i]? = some (some v) := hv
        have hx : (match ρ1[i]? with
          | some (some (.d x)) => lenD x
          | some (some (.ls _ xs)) => some xs.length
          | some (some (.dk _ xs)) => some xs.length
          | some (some (.scr ns)) => some ns.length
          | _ => none) = some n := hx
        split at hx
        · rename_i x hs
          obtain ⟨u, hu, r⟩ := S1.sl i _ hs
          rw [hv] at hu
          cases hu
          exact .inl ⟨v, n, rfl, lenD_of S1.gh (.inl r) hx, fin⟩
        · rename_i rr xs hs
          cases hx
          obtain ⟨u, hu, p', vs, rfl, r2, r3, r4⟩ := S1.sl i _ hs
          rw [hv] at hu
          cases hu
          exact .inl ⟨_, _, rfl, .inl ⟨vs, SqL.of r2, r4.length.symm⟩, fin⟩
        · rename_i rr xs hs
          cases hx
          obtain ⟨u, hu, p', vs, rfl, r2, r3, r4⟩ := S1.sl i _ hs
          rw [hv] at hu
          cases hu
          exact .inr ⟨p', vs, rfl, r2, by rw [Paired.length r4]; exact fin⟩
        · rename_i ns hs
          cases hx
          obtain ⟨u, hu, p', rfl, r2⟩ := S1.sl i _ hs
          rw [hv] at hu
          cases hu
          exact .inl ⟨_, _, rfl, .inl ⟨_, S1.gh.seq r2, by rw [List.length_map]⟩, fin⟩
        · cases hx⟩
/-- an item of the script -/
def ixS (i : Nat) (fb : M Av) : M Av := bindM (varM i) fun _ => bindM fb fun a => optM fun ρ => match ρ[i]?, res ρ a with
  | some (some (.scr ns)), some (.int k) => (atI ns k).map fun z => .d (.int z)
  | _, _ => none
theorem varM_is {ρ ρ' : Ev} {i : Nat} {a : Av} (h : varM i ρ = .ok a ρ') : a = .s i := by
  unfold varM at h
  split at h
  · cases h; rfl
  · cases h
theorem m_ixS {x : Str} {a2 : Expr} {fb : M Av} (hK : X.K = b.K) (i : Nat) (ha : PE X (.Name x p) (tVar i)) (hb : PE X a2 (tE b W fb)) (hs : PlainIx a2 := by intro _ _; rfl) : PE X (.Subscript (.Name x p) a2 pos) (tE b W (ixS i fb)) :=
  weakE (pe_ix ix_list (m_var (b := b) (W := W) i ha) hb hs) fun σ H Q ⟨c, G, ρ, S, q⟩ => by
    have q0 := Post.bind q
    cases hv0 : varM i ρ with
    | bad => rw [hv0] at q0; exact q0.elim
    | err k ρ' => unfold varM at hv0; split at hv0 <;> cases hv0
    | ok a0 ρ0 =>
      have e0 := varM_is hv0
      subst e0
      rw [hv0] at q0
      refine ⟨c, G, ρ, S, ?_⟩
      rw [hv0]
      intro H' G' e' S' v hv
      exact ⟨c, G', ρ0, S', (Post.bind (q0 H' G' e' S')).imp fun a ρ1 G1 H1 e1 S1 q1 u hu => by
          obtain ⟨z, h1, h2⟩ := q1.opt S1
          split at h1
          · rename_i ns k h3 h4
            cases hat : atI ns k with
            | none => rw [hat] at h1; cases h1
            | some y =>
              rw [hat] at h1
              cases h1
              obtain ⟨w, hw, p', rfl, r2⟩ := S1.sl i _ h3
              rw [show σ[i]? = some (some v) from hv] at hw
              cases hw
              refine ⟨p', _, k, .int y, rfl, (hu.res S1 h4).int, by rw [hK]; exact S1.gh.seq r2, ?_, h2 _ (.int y)⟩
              unfold atI at hat ⊢
              rw [List.length_map]
              cases hj : ixN ns.length k with
              | none => rw [hj] at hat; cases hat
              | some j =>
                rw [hj] at hat
                have hat : ns[j]? = some y := hat
                show (ns.map V.int)[j]? = _
                rw [List.getElem?_map, hat]
                rfl
          · cases h1⟩
end
/-! min, max, sum, any, all, list, tuple, int -/
def alikeB (xs : List Dt) : Bool := (xs.all fun x => xs.all fun y => PySem.W.alike x y) && xs.all fun x => !isNone x
theorem alikeB_of {xs : List Dt} (h : alikeB xs = true) : PySem.W.AlikeAll xs := by
  unfold alikeB at h
  rw [Bool.and_eq_true, List.all_eq_true, List.all_eq_true] at h
  refine ⟨fun x hx y hy => List.all_eq_true.mp (h.1 x hx) y hy, fun x hx e => ?_⟩
  have := h.2 x hx
  rw [e] at this
  cases this
def bestD (g : Dt → List Dt → Dt) : List Dt → Option Rv
  | [.list (x :: xs)] => if shalL (x :: xs) && alikeB (x :: xs) then some (.d (g x xs)) else none
  | [.int i, .int j] => none
  | _ => none
def rBest (K : Fg) (g : Dt → List Dt → Dt) : List V → Hp → VK → Prop := fun vs H Q => ∃ (a : Addr) (ys : List V) (x : Dt) (xs : List Dt), vs = [.ref a] ∧ SqL K H a ys ∧ DpAll K H ys (x :: xs) ∧ PyData.plainAll (x :: xs) = true ∧ PySem.W.AlikeAll (x :: xs) ∧ PyData.depthAll (x :: xs) ≤ 60 ∧
  ∀ (i : Nat) (y : V) (d : Dt), ys[i]? = some y → (x :: xs)[i]? = some d → d = g x xs → Q y H
theorem readsAll_get {h : Heap} : ∀ {vs : List Value} {xs : List Dt} {as : List Addr} {i : Nat} {v : Value}, ReadsAll h vs xs as → vs[i]? = some v → ∃ d bs, xs[i]? = some d ∧ Reads h v d bs
  | _, _, _, _, _, .nil, e => by simp at e
  | _, _, _, 0, _, .cons r rs, e => by
    simp at e
    subst e
    exact ⟨_, _, rfl, r⟩
  | _, _, _, i + 1, _, .cons r rs, e => by
    obtain ⟨d, bs, h1, h2⟩ := readsAll_get (i := i) rs (by simpa using e)
    exact ⟨d, bs, by simpa using h1, h2⟩
theorem plainAll_get : ∀ {xs : List Dt} {i : Nat} {d : Dt}, PyData.plainAll xs = true → xs[i]? = some d → d.plain = true
  | [], _, _, _, e => by simp at e
  | x :: xs, 0, d, h, e => by
    simp at e
    subst e
    have h : (x.plain && PyData.plainAll xs) = true := h
    rw [Bool.and_eq_true] at h
    exact h.1
  | x :: xs, i + 1, d, h, e => by
    have h : (x.plain && PyData.plainAll xs) = true := h
    rw [Bool.and_eq_true] at h
    exact plainAll_get h.2 (by simpa using e)
section
variable {X : Cx}
theorem best_core {id : String} {g : Dt → List Dt → Dt} (hc : X.calm = true) (hu : X.A.units + 64 < cLine)
    (rule : ∀ {s : Shared} {l : Addr} {vs : Array Value} {x : PyData} {xs : List PyData} {as : List Addr} {Q : Value → Shared → Prop}, X.A.handled = none → s.heap.IsList l vs → ReadsAll s.heap vs.toList (x :: xs) as → PySem.W.AlikeAll (x :: xs) → X.A.units + 1 + PyData.depthAll (x :: xs) < cLine →
      (∀ (i : Nat) v h' tk bs, vs[i]? = some v → Reads h' v (g x xs) bs → (∀ b o, s.heap.get? b = some o → h'.get? b = some o) → Q v { s with heap := h', toks := tk }) → wpAny (model X.prog X.w) X.A (call (.builtin id) [.ref l]) Q X.xe s) : CallR X (.builtin id) (rBest X.K g) := by
  intro pins s σ H vs us Q I r h
  obtain ⟨a, ys, x, xs, rfl, h1, h2, h3, h4, h5, q⟩ := h
  obtain ⟨u, rfl, ru⟩ := vals1 r
  cases ru
  obtain ⟨its, rv, pl, hz⟩ := I.list h1
  obtain ⟨as, rs⟩ := Dp.readsAll I (x :: xs) ys its h2 rv
  obtain ⟨o, n, ho, hcl, _, hd⟩ := pl
  refine rule (I.ok.hd hc) (vs := its.toArray) ⟨o, ho, hcl, n, hd⟩ (by simpa using rs) h4 (by omega) fun i v h' tk bs hi hr hk => ?_
  have hi' : its[i]? = some v := by simpa using hi
  obtain ⟨d, bs', e1, e2⟩ := readsAll_get rs hi'
  have hil : i < ys.length := by
    have := (List.getElem?_eq_some_iff.mp hi').1
    rw [rv.length]
    exact this
  obtain ⟨u, g1, g2⟩ := rv.get (List.getElem?_eq_getElem hil)
  rw [hi'] at g1
  cases g1
  have ed : d = g x xs := SeqAt.plain_unique d (g x xs) v bs' bs (plainAll_get h3 e1) (PyProof.Rows.Reads.keeps hk e2) hr
  exact ⟨ys[i], H, I.kept (t' := tk) hk, g2, q i ys[i] d (List.getElem?_eq_getElem hil) e1 ed⟩
theorem c_max (hc : X.calm = true) (hu : X.A.units + 64 < cLine) : CallR X (.builtin "max") (rBest X.K PySem.W.maxD) := best_core hc hu fun h1 h2 h3 h4 h5 h6 => PySem.W.max_list_data h1 h2 h3 h4 h5 h6
theorem c_min (hc : X.calm = true) (hu : X.A.units + 64 < cLine) : CallR X (.builtin "min") (rBest X.K PySem.W.minD) := best_core hc hu fun h1 h2 h3 h4 h5 h6 => PySem.W.min_list_data h1 h2 h3 h4 h5 h6
end
theorem d_best {b : Bs} (g : Dt → List Dt → Dt) : DoesN b (rBest b.K g) (bestD g) := fun {c G H ρ σ xs ds z Q} S hx e q => by
  unfold bestD at e
  split at e
  · rename_i x xs'
    split at e
    · rename_i hs
      cases e
      rw [Bool.and_eq_true] at hs
      cases hx with
      | cons h1 h2 =>
        cases h2
        obtain ⟨p, vs, rfl, r1, r2⟩ := h1.list S.gh
        refine ⟨p, vs, x, xs', rfl, SqL.of r1, Rps.dp _ _ (Rps.monoG S.gh _ _ r2), Rps.plain _ _ r2, alikeB_of hs.2, shL_of hs.1, fun i y d e1 e2 e3 => ?_⟩
        obtain ⟨d', e4, e5⟩ := r2.getV e1
        rw [e2] at e4
        cases e4
        rw [e3] at e5
        exact fin_d S q e5
    · cases e
  · cases e
  · cases e
def two2 (g : Int → Int → Int) : List Dt → Option Rv
  | [.int i, .int j] => some (.d (.int (g i j)))
  | _ => none
def intsOf : List Dt → Option (List Int)
  | [] => some []
  | .int i :: xs => (intsOf xs).map fun r => i :: r
  | _ => none
def boolsOf : List Dt → Option (List Bool)
  | [] => some []
  | .bool i :: xs => (boolsOf xs).map fun r => i :: r
  | _ => none
theorem intsOf_map (ns : List Int) : intsOf (ns.map PyData.int) = some ns := by
  induction ns with
  | nil => rfl
  | cons n ns ih =>
    show (intsOf (ns.map PyData.int)).map (fun r => n :: r) = _
    rw [ih]
    rfl
theorem boolsOf_map (ns : List Bool) : boolsOf (ns.map PyData.bool) = some ns := by
  induction ns with
  | nil => rfl
  | cons n ns ih =>
    show (boolsOf (ns.map PyData.bool)).map (fun r => n :: r) = _
    rw [ih]
    rfl
theorem intsOf_of : ∀ {xs : List Dt} {ns : List Int}, intsOf xs = some ns → xs = ns.map PyData.int
  | [], _, h => by cases h; rfl
  | x :: xs, ns, h => by
    unfold intsOf at h
    split at h
    · rename_i h0
      cases h0
    · rename_i i ys h0
      cases h0
      cases q : intsOf xs with
      | none => rw [q] at h; cases h
      | some r =>
        rw [q] at h
        cases h
        rw [intsOf_of q]
        rfl
    · cases h
theorem boolsOf_of : ∀ {xs : List Dt} {ns : List Bool}, boolsOf xs = some ns → xs = ns.map PyData.bool
  | [], _, h => by cases h; rfl
  | x :: xs, ns, h => by
    unfold boolsOf at h
    split at h
    · rename_i h0
      cases h0
    · rename_i i ys h0
      cases h0
      cases q : boolsOf xs with
      | none => rw [q] at h; cases h
      | some r =>
        rw [q] at h
        cases h
        rw [boolsOf_of q]
        rfl
    · cases h
def sumD : List Dt → Option Rv
  | [.list xs] => (intsOf xs).map fun ns => .d (.int ns.sum)
  | _ => none
def anyD : List Dt → Option Rv
  | [.list xs] => (boolsOf xs).map fun ns => .d (.bool (ns.any id))
  | _ => none
def allD : List Dt → Option Rv
  | [.list xs] => (boolsOf xs).map fun ns => .d (.bool (ns.all id))
  | _ => none
def listD : List Dt → Option Rv
  | [.list xs] => some (.l xs)
  | [.tuple xs] => some (.l xs)
  | _ => none
def tupD : List Dt → Option Rv
  | [.list xs] => some (.d (.tuple xs))
  | _ => none
def intD : List Dt → Option Rv
  | [.int i] => some (.d (.int i))
  | [.bool k] => some (.d (.int (if k then 1 else 0)))
  | _ => none
theorem ros1 {K : Fg} {G H : Hp} {vs : List V} {d : Dt} (h : ROs K G H vs [d]) : ∃ v, vs = [v] ∧ RO K G H v d := by
  cases h with
  | cons h1 h2 => cases h2; exact ⟨_, rfl, h1⟩
theorem ros2 {K : Fg} {G H : Hp} {vs : List V} {d e : Dt} (h : ROs K G H vs [d, e]) : ∃ v u, vs = [v, u] ∧ RO K G H v d ∧ RO K G H u e := by
  cases h with
  | cons h1 h2 =>
    cases h2 with
    | cons h3 h4 => cases h4; exact ⟨_, _, rfl, h1, h3⟩
theorem d_two2 {b : Bs} (g : Int → Int → Int) : DoesN b (fun xs H Q => ∃ i j, xs = [.int i, .int j] ∧ Q (.int (g i j)) H) (two2 g) := fun {c G H ρ σ xs ds z Q} S hx e q => by
  unfold two2 at e
  split at e
  · cases e
    obtain ⟨v, u, rfl, h1, h2⟩ := ros2 hx
    rw [h1.int, h2.int]
    exact ⟨_, _, rfl, fin_d S q (.int _)⟩
  · cases e
theorem d_sum {b : Bs} : DoesN b (rSum b.K) sumD := fun {c G H ρ σ xs ds z Q} S hx e q => by
  unfold sumD at e
  split at e
  · rename_i ys
    obtain ⟨v, rfl, h1⟩ := ros1 hx
    cases hy : intsOf ys with
    | none => rw [hy] at e; cases e
    | some ns =>
      rw [hy] at e
      cases e
      have := intsOf_of hy
      subst this
      obtain ⟨p, vs, rfl, r1, r2⟩ := h1.list S.gh
      rw [r2.ints] at r1
      exact ⟨p, ns, rfl, SqL.of r1, fin_d S q (.int _)⟩
  · cases e
theorem d_any {b : Bs} : DoesN b (rAny b.K) anyD := fun {c G H ρ σ xs ds z Q} S hx e q => by
  unfold anyD at e
  split at e
  · rename_i ys
    obtain ⟨v, rfl, h1⟩ := ros1 hx
    cases hy : boolsOf ys with
    | none => rw [hy] at e; cases e
    | some ns =>
      rw [hy] at e
      cases e
      have := boolsOf_of hy
      subst this
      obtain ⟨p, vs, rfl, r1, r2⟩ := h1.list S.gh
      rw [r2.bools] at r1
      exact ⟨p, ns, rfl, SqL.of r1, fin_d S q (.bl _)⟩
  · cases e
theorem d_all {b : Bs} : DoesN b (rAll b.K) allD := fun {c G H ρ σ xs ds z Q} S hx e q => by
  unfold allD at e
  split at e
  · rename_i ys
    obtain ⟨v, rfl, h1⟩ := ros1 hx
    cases hy : boolsOf ys with
    | none => rw [hy] at e; cases e
    | some ns =>
      rw [hy] at e
      cases e
      have := boolsOf_of hy
      subst this
      obtain ⟨p, vs, rfl, r1, r2⟩ := h1.list S.gh
      rw [r2.bools] at r1
      exact ⟨p, ns, rfl, SqL.of r1, fin_d S q (.bl _)⟩
  · cases e
theorem d_list {b : Bs} : DoesN b (fun xs H Q => ∃ p ys, xs = [.ref p] ∧ (SqL b.K H p ys ∨ SqT b.K H p ys) ∧ ∀ l, H l = none → Q (.ref l) (upd H l (.lst ys))) listD := fun {c G H ρ σ xs ds z Q} S hx e q => by
  unfold listD at e
  split at e
  · cases e
    obtain ⟨v, rfl, h1⟩ := ros1 hx
    obtain ⟨p, vs, rfl, r1, r2⟩ := h1.list S.gh
    exact ⟨p, vs, rfl, .inl (SqL.of r1), fun l hl => fin_l S q hl r2⟩
  · cases e
    obtain ⟨v, rfl, h1⟩ := ros1 hx
    obtain ⟨p, vs, rfl, r1, r2⟩ := h1.tup
    exact ⟨p, vs, rfl, .inr (same_sqT S.gh r1), fun l hl => fin_l S q hl r2⟩
  · cases e
theorem fin_t {b : Bs} {c : Fc} {G H : Hp} {ρ : Ev} {σ : St} {p : Addr} {vs : List V} {xs : List Dt} {Q : VK} (S : SIG b c G ρ σ H) (q : ∀ v H' G', Same G G' → SIG b c G' ρ σ H' → RN b c G' H' v (.d (.tuple xs)) → Apart ρ σ v (.d (.tuple xs)) → Q v H') (hp : H p = none) (r : Rps b.K G vs xs) : Q (.ref p) (upd H p (.tup vs)) := by
  obtain ⟨e2, S2⟩ := S.lay (o := .tup vs) hp
  exact q (.ref p) _ _ e2 S2 (.tup (.inl upd_same) (Rps.mono e2 _ _ r)) fun p' _ z => by cases z
theorem d_tup {b : Bs} : DoesN b (fun xs H Q => ∃ p ys, xs = [.ref p] ∧ ((SqL b.K H p ys ∧ ∀ l, H l = none → Q (.ref l) (upd H l (.tup ys))) ∨ (SqT b.K H p ys ∧ Q (.ref p) H))) tupD := fun {c G H ρ σ xs ds z Q} S hx e q => by
  unfold tupD at e
  split at e
  · cases e
    obtain ⟨v, rfl, h1⟩ := ros1 hx
    obtain ⟨p, vs, rfl, r1, r2⟩ := h1.list S.gh
    exact ⟨p, vs, rfl, .inl ⟨SqL.of r1, fun l hl => fin_t S q hl r2⟩⟩
  · cases e
theorem d_int {b : Bs} : DoesN b (fun xs H Q => (∃ i, xs = [.int i] ∧ Q (.int i) H) ∨ ∃ k, xs = [.bl k] ∧ Q (.int (if k then 1 else 0)) H) intD := fun {c G H ρ σ xs ds z Q} S hx e q => by
  unfold intD at e
  split at e
  · cases e
    obtain ⟨v, rfl, h1⟩ := ros1 hx
    rw [h1.int]
    exact .inl ⟨_, rfl, fin_d S q (.int _)⟩
  · cases e
    obtain ⟨v, rfl, h1⟩ := ros1 hx
    rw [h1.bool]
    exact .inr ⟨_, rfl, fin_d S q (.int _)⟩
  · cases e
section
variable {X : Cx} {b : Bs} {W : WX} {p pos : Pos} {e e2 : Expr} {fl : M (List Av)}
theorem m_max1 (hK : X.K = b.K) (hc : X.calm = true) (hu : X.A.units + 64 < cLine) (hg : Gl X "max") (hm : X.mg "max" = none) (ha : PA X [e] (tL b W fl)) (hs : starEach [e] X.env = (false, eval e X.env) :: starEach [] X.env := by rfl) : PE X (.Call (.Name "max" p) [e] [] pos) (tV b W (biM (bestD PySem.W.maxD) fl)) :=
  m_bi (c_max hc hu) (by rw [hK]; exact d_best _) hg hm (by decide +kernel) ha (by decide) (by decide) hs
theorem m_min1 (hK : X.K = b.K) (hc : X.calm = true) (hu : X.A.units + 64 < cLine) (hg : Gl X "min") (hm : X.mg "min" = none) (ha : PA X [e] (tL b W fl)) (hs : starEach [e] X.env = (false, eval e X.env) :: starEach [] X.env := by rfl) : PE X (.Call (.Name "min" p) [e] [] pos) (tV b W (biM (bestD PySem.W.minD) fl)) :=
  m_bi (c_min hc hu) (by rw [hK]; exact d_best _) hg hm (by decide +kernel) ha (by decide) (by decide) hs
theorem m_max2 (hc : X.calm = true) (hg : Gl X "max") (hm : X.mg "max" = none) (ha : PA X [e, e2] (tL b W fl)) (hs : starEach [e, e2] X.env = (false, eval e X.env) :: starEach [e2] X.env := by rfl) (hpl : (backTo pos (starEach [e2] X.env)).any (·.1) = false := by rfl) : PE X (.Call (.Name "max" p) [e, e2] [] pos) (tV b W (biM (two2 fun i j => if j > i then j else i) fl)) :=
  m_bi (call_max2 hc) (d_two2 _) hg hm (by decide +kernel) ha (by decide) (by decide) hs hpl
theorem m_min2 (hc : X.calm = true) (hg : Gl X "min") (hm : X.mg "min" = none) (ha : PA X [e, e2] (tL b W fl)) (hs : starEach [e, e2] X.env = (false, eval e X.env) :: starEach [e2] X.env := by rfl) (hpl : (backTo pos (starEach [e2] X.env)).any (·.1) = false := by rfl) : PE X (.Call (.Name "min" p) [e, e2] [] pos) (tV b W (biM (two2 fun i j => if j < i then j else i) fl)) :=
  m_bi (call_min2 hc) (d_two2 _) hg hm (by decide +kernel) ha (by decide) (by decide) hs hpl
theorem m_sum (hK : X.K = b.K) (hc : X.calm = true) (hg : Gl X "sum") (hm : X.mg "sum" = none) (ha : PA X [e] (tL b W fl)) (hs : starEach [e] X.env = (false, eval e X.env) :: starEach [] X.env := by rfl) : PE X (.Call (.Name "sum" p) [e] [] pos) (tV b W (biM sumD fl)) :=
  m_bi (cr_sum hc) (by rw [hK]; exact d_sum) hg hm (by decide +kernel) ha (by decide) (by decide) hs
theorem m_any (hK : X.K = b.K) (hc : X.calm = true) (hg : Gl X "any") (hm : X.mg "any" = none) (ha : PA X [e] (tL b W fl)) (hs : starEach [e] X.env = (false, eval e X.env) :: starEach [] X.env := by rfl) : PE X (.Call (.Name "any" p) [e] [] pos) (tV b W (biM anyD fl)) :=
  m_bi (cr_any hc) (by rw [hK]; exact d_any) hg hm (by decide +kernel) ha (by decide) (by decide) hs
theorem m_all (hK : X.K = b.K) (hc : X.calm = true) (hg : Gl X "all") (hm : X.mg "all" = none) (ha : PA X [e] (tL b W fl)) (hs : starEach [e] X.env = (false, eval e X.env) :: starEach [] X.env := by rfl) : PE X (.Call (.Name "all" p) [e] [] pos) (tV b W (biM allD fl)) :=
  m_bi (cr_all hc) (by rw [hK]; exact d_all) hg hm (by decide +kernel) ha (by decide) (by decide) hs
theorem m_list (hK : X.K = b.K) (hg : Gl X "list") (hm : X.mg "list" = none) (ha : PA X [e] (tL b W fl)) (hs : starEach [e] X.env = (false, eval e X.env) :: starEach [] X.env := by rfl) : PE X (.Call (.Name "list" p) [e] [] pos) (tV b W (biM listD fl)) :=
  m_ty call_list_of (by rw [hK]; exact d_list) hg hm (by decide +kernel) ha (by decide) (by decide) hs
theorem m_tuple (hK : X.K = b.K) (hg : Gl X "tuple") (hm : X.mg "tuple" = none) (ha : PA X [e] (tL b W fl)) (hs : starEach [e] X.env = (false, eval e X.env) :: starEach [] X.env := by rfl) : PE X (.Call (.Name "tuple" p) [e] [] pos) (tV b W (biM tupD fl)) :=
  m_ty call_tuple_of (by rw [hK]; exact d_tup) hg hm (by decide +kernel) ha (by decide) (by decide) hs
theorem m_intc (hg : Gl X "int") (hm : X.mg "int" = none) (ha : PA X [e] (tL b W fl)) (hs : starEach [e] X.env = (false, eval e X.env) :: starEach [] X.env := by rfl) : PE X (.Call (.Name "int" p) [e] [] pos) (tV b W (biM intD fl)) :=
  m_ty call_int1 d_int hg hm (by decide +kernel) ha (by decide) (by decide) hs
end
end G8
namespace G8
open PySem L2
/-! methods of lists that only look -/
def rLook (K : Fg) (g : List Dt → Dt → Option Int) : V → List V → Hp → VK → Prop := fun x xs H Q => ∃ (a : Addr) (y : V) (d : Dt) (ds : List Dt) (z : Int), x = .ref a ∧ xs = [y] ∧ Dp K H (.ref a) (.list ds) ∧ Dp K H y d ∧ PyData.plainAll ds = true ∧ d.plain = true ∧ d.depth ≤ 60 ∧ g ds d = some z ∧ Q (.int z) H
def countD (ds : List Dt) (d : Dt) : Option Int := some ((ds.countP fun y => PyData.eqv y d : Nat) : Int)
def indexD (ds : List Dt) (d : Dt) : Option Int := (SeqAt.dataPlace ds d).map fun j => ((j : Nat) : Int)
section
variable {X : Cx}
theorem c_count (hu : X.A.units + 64 < cLine) : MtR X "list.count" (rLook X.K countD) := by
  intro pins s σ H x xs v us Q I rx rxs h
  obtain ⟨a, y, d, ds, z, rfl, rfl, hl, hy, h1, h2, h3, hg, q⟩ := h
  cases rx
  obtain ⟨uy, rfl, ry⟩ := vals1 rxs
  cases hg
  obtain ⟨bs, r1⟩ := Dp.reads I d y uy hy ry
  cases hl with
  | lst hs ha =>
    obtain ⟨its, rv, ⟨o, n, ho, hcl, hdn, hdt⟩, hlen⟩ := I.list hs
    obtain ⟨as, h4⟩ := Dp.readsAll I ds _ its ha rv
    refine SeqAt.count_list_data (vs := its.toArray) ⟨o, ho, hcl, n, hdt⟩ (by simpa using h4) r1 h1 h2 (by have := Nat.min_le_right (PyData.depthAll ds) d.depth; omega) ?_
    exact ⟨.int _, H, I.tok _, ⟨_, rfl⟩, q⟩
theorem c_index (hu : X.A.units + 64 < cLine) : MtR X "list.index" (rLook X.K indexD) := by
  intro pins s σ H x xs v us Q I rx rxs h
  obtain ⟨a, y, d, ds, z, rfl, rfl, hl, hy, h1, h2, h3, hg, q⟩ := h
  cases rx
  obtain ⟨uy, rfl, ry⟩ := vals1 rxs
  obtain ⟨bs, r1⟩ := Dp.reads I d y uy hy ry
  cases hl with
  | lst hs ha =>
    obtain ⟨its, rv, ⟨⟨cls, dd, data, sls⟩, n, ho, hcl, hdn, hdt⟩, hlen⟩ := I.list hs
    simp only at hcl hdt
    subst hcl hdt
    obtain ⟨as, h4⟩ := Dp.readsAll I ds _ its ha rv
    unfold indexD at hg
    cases hp : SeqAt.dataPlace ds d with
    | none => rw [hp] at hg; cases hg
    | some j =>
      rw [hp] at hg
      cases hg
      have hs' := sizeLine_eq
      have hvl := rv.length
      obtain ⟨hj, hit, hno⟩ := SeqAt.hit_at (vs := its.toArray) (by simpa using h4) h1 hp
      have hjl : j < its.length := by simpa using hj
      refine call_meets PySem.F.slot_list_index ⟨_, ho, rfl⟩ PySem.F.entry_list_index (PySem.F.args_list_index_2 _ _)
        (SeqAt.list_indexAt a its.toArray n dd sls uy (fun u => PyData.eqv (SeqAt.readOf s.heap u) d) j hj (by omega) hit hno) ⟨ho, SeqAt.items_plain (vs := its.toArray) (by simpa using h4) r1 h1 h2 (by have := Nat.min_le_right (PyData.depthAll ds) d.depth; omega), ?_⟩
      exact ⟨.int (j : Nat), H, I.tok _, ⟨_, rfl⟩, q⟩
end
def isL : Dt → Option Unit
  | .list _ => some ()
  | _ => none
def lookD (g : List Dt → Dt → Option Int) : Dt → List Dt → Option Dt
  | .list xs, [d] => if shal d then (g xs d).map fun z => .int z else none
  | _, _ => none
def meM (g : Dt → List Dt → Option Dt) (fo : M Av) (fl : M (List Av)) : M Av := bindM fo fun o => bindM (optM fun ρ => (res ρ o).bind isL) fun _ => bindM fl fun as => optM fun ρ => (res ρ o).bind fun x => (ress ρ as).bind fun ds => (g x ds).map Av.d
section
variable {X : Cx} {b : Bs} {W : WX} {o e : Expr} {es : List Expr} {name : Str} {id : String} {fo : M Av} {fl : M (List Av)} {apos cpos : Pos}
theorem look_core {g : List Dt → Dt → Option Int} {σ : St} {H : Hp} {Q : VK} (h : tE b W (meM (lookD g) fo fl) σ H Q) : tBM b.K "list" (rLook b.K g) (tE b W fo) (tL b W fl) σ H Q := by
  obtain ⟨c, G, ρ, S, q⟩ := h
  refine ⟨c, G, ρ, S, (Post.bind q).imp fun oa ρ1 G1 H1 e1 S1 q1 v hv => ?_⟩
  obtain ⟨u, h1, h2⟩ := (Post.bind q1).opt S1
  cases hx : res ρ1 oa with
  | none => rw [hx] at h1; cases h1
  | some x =>
    rw [hx] at h1
    cases x with
    | list xs =>
      obtain ⟨p, vs, rfl, r1, r2⟩ := (hv.res S1 hx).list S1.gh
      refine ⟨.inl ⟨rfl, vs, SqL.of r1⟩, c, G1, ρ1, S1, (Post.bind h2).imp fun as ρ2 G2 H2 e2 S2 q2 ws hws => ?_⟩
      obtain ⟨z, h3, h4⟩ := q2.opt S2
      cases hx2 : res ρ2 oa with
      | none => rw [hx2] at h3; cases h3
      | some x2 =>
        rw [hx2] at h3
        dsimp only [Option.bind_some] at h3
        cases hd : ress ρ2 as with
        | none => rw [hd] at h3; cases h3
        | some ds =>
          rw [hd] at h3
          dsimp only [Option.bind_some] at h3
          have rr := (hv.mono e2).res S2 hx2
          have ra := ress_of S2 hws hd
          unfold lookD at h3
          split at h3
          · rename_i ys d
            split at h3
            · rename_i hs
              cases hg : g ys d with
              | none => rw [hg] at h3; cases h3
              | some n =>
                rw [hg] at h3
                cases h3
                obtain ⟨y, rfl, ry⟩ := ros1 ra
                exact ⟨p, y, d, ys, n, rfl, rfl, rr.dp S2.gh, ry.dp S2.gh, rr.plain, ry.plain, sh_of hs, hg, h4 _ (.int n)⟩
            · cases h3
          · cases h3
    | _ => cases h1
theorem m_count (hK : X.K = b.K) (hu : X.A.units + 64 < cLine) (ho : PE X o (tE b W fo)) (ha : PA X [e] (tL b W fl)) (hbase : attributeBase o "count" X.env (eval o X.env) = eval o X.env := by rfl)
    (hp : ∀ {to : TE} {t : TA} {r : V → List V → Hp → VK → Prop}, MtR X "list.count" r → PE X o to → PA X [e] t → PE X (.Call (.Attribute o "count" apos) [e] [] cpos) (tBM X.K "list" r to t)) : PE X (.Call (.Attribute o "count" apos) [e] [] cpos) (tE b W (meM (lookD countD) fo fl)) :=
  weakE (hp (c_count hu) ho ha) fun σ H Q h => by rw [hK]; exact look_core h
theorem m_index (hK : X.K = b.K) (hu : X.A.units + 64 < cLine) (ho : PE X o (tE b W fo)) (ha : PA X [e] (tL b W fl))
    (hp : ∀ {to : TE} {t : TA} {r : V → List V → Hp → VK → Prop}, MtR X "list.index" r → PE X o to → PA X [e] t → PE X (.Call (.Attribute o "index" apos) [e] [] cpos) (tBM X.K "list" r to t)) : PE X (.Call (.Attribute o "index" apos) [e] [] cpos) (tE b W (meM (lookD indexD) fo fl)) :=
  weakE (hp (c_index hu) ho ha) fun σ H Q h => by rw [hK]; exact look_core h
end
/-! methods that change a list -/
def MutOk (b : Bs) (r : V → List V → Hp → VK → Prop) (g : List Dt → List Dt → Option (Dt × List Dt)) : Prop := ∀ {G H : Hp} {p : Addr} {vl : List V} {xs : List Dt} {args : List V} {ds : List Dt} {y : Dt} {ys : List Dt} {Q : VK}, SameG G H → H p = some (.lst vl) → Rps b.K G vl xs → Rps b.K G args ds → g xs ds = some (y, ys) →
  (∀ v vs', Rp b.K G v y → Rps b.K G vs' ys → Q v (upd H p (.lst vs'))) → r (.ref p) args H Q
def slotL : Option (Option Sv) → Option (Bool × List Dt)
  | some (some (.ls r xs)) => some (r, xs)
  | _ => none
def mutM (i : Nat) (g : List Dt → List Dt → Option (Dt × List Dt)) (fl : M (List Av)) : M Rv := bindM (optM fun ρ => slotL ρ[i]?) fun _ => bindM fl fun as ρ => match slotL ρ[i]?, fzs ρ as with
  | some (r, xs), some ds => (match g xs ds with
    | some (y, ys) => .ok (.d y) (ρ.set i (some (.ls r ys)))
    | none => .bad)
  | _, _ => .bad
theorem slotL_of {o : Option (Option Sv)} {r : Bool} {xs : List Dt} (h : slotL o = some (r, xs)) : o = some (some (.ls r xs)) := by
  unfold slotL at h
  split at h
  · cases h; rfl
  · cases h
section
variable {X : Cx} {b : Bs} {W : WX} {x : Str} {e : Expr} {es : List Expr} {fl : M (List Av)} {i : Nat} {pos : Pos}
theorem mut_core {r : V → List V → Hp → VK → Prop} {g : List Dt → List Dt → Option (Dt × List Dt)} (mo : MutOk b r g) {σ : St} {H : Hp} {Q : VK} (h : tV b W (mutM i g fl) σ H Q) : tBM b.K "list" r (tVar i) (tL b W fl) σ H Q := by
  obtain ⟨c, G, ρ, S, q⟩ := h
  obtain ⟨⟨r0, xs0⟩, h1, h2⟩ := (Post.bind q).opt S
  have hs0 := slotL_of h1
  obtain ⟨v, hv, p, vs, rfl, a2, a3, a4⟩ := S.sl i _ hs0
  refine ⟨.ref p, hv, .inl ⟨rfl, vs, SqL.of a2⟩, c, G, ρ, S, (Post.bind h2).imp fun as ρ1 G1 H1 e1 S1 q1 ws hws => ?_⟩
  split at q1
  · rename_i r1 xs ds hsl hf
    have hs1 := slotL_of hsl
    split at q1
    · rename_i y ys hg
      obtain ⟨v', hv', p', vs', e', b2, b3, b4⟩ := S1.sl i _ hs1
      rw [hv] at hv'
      cases hv'
      cases e'
      refine mo S1.gh b2 b4 (fzs_of S1 hws hf) hg fun w ws' rw_ rws => ?_
      have S2 := S1.mut (o := .lst ws') (sv' := .ls r1 ys) hs1 rfl hv rfl rfl ⟨p, ws', rfl, upd_same, b3, rws⟩
      exact q1 _ G1 (Same.refl G1) S2 w rw_ fun _ _ z => by cases z
    · exact q1.elim
  · exact q1.elim
theorem mut_core0 {r : V → List V → Hp → VK → Prop} {g : List Dt → List Dt → Option (Dt × List Dt)} (mo : MutOk b r g) {σ : St} {H : Hp} {Q : VK} (h : tV b W (mutM i g (retM [])) σ H Q) : tBM0 b.K "list" r (tVar i) σ H Q := by
  obtain ⟨v, hv, ty, c, G, ρ, S, q⟩ := mut_core mo h
  exact ⟨v, hv, ty, q.ret S [] .nil⟩
end
def appD (xs ds : List Dt) : Option (Dt × List Dt) := match ds with
  | [d] => if xs.length < 1000000 then some (.none, xs ++ [d]) else none
  | _ => none
def extD (xs ds : List Dt) : Option (Dt × List Dt) := match ds with
  | [.list ys] => if xs.length + ys.length ≤ 1000000 then some (.none, xs ++ ys) else none
  | _ => none
def insD (xs ds : List Dt) : Option (Dt × List Dt) := match ds with
  | [.int i, d] => if xs.length < 1000000 ∧ 0 ≤ i ∧ mid i = true then some (.none, xs.take i.toNat ++ [d] ++ xs.drop i.toNat) else none
  | _ => none
def popD (xs ds : List Dt) : Option (Dt × List Dt) := match ds with
  | [] => (xs[xs.length - 1]?).map fun y => (y, xs.dropLast)
  | _ => none
def popAtD (xs ds : List Dt) : Option (Dt × List Dt) := match ds with
  | [.int i] => if 0 ≤ i ∧ i < xs.length ∧ mid i = true then (xs[i.toNat]?).map fun y => (y, xs.eraseIdx i.toNat) else none
  | _ => none
def remD (xs ds : List Dt) : Option (Dt × List Dt) := match ds with
  | [d] => if shal d && decide (xs.length ≤ 1000000) then (SeqAt.dataPlace xs d).map fun j => (.none, xs.eraseIdx j) else none
  | _ => none
theorem rps1 {K : Fg} {G : Hp} {vs : List V} {d : Dt} (h : Rps K G vs [d]) : ∃ v, vs = [v] ∧ Rp K G v d := by
  cases h with
  | cons h1 h2 => cases h2; exact ⟨_, rfl, h1⟩
theorem rps2 {K : Fg} {G : Hp} {vs : List V} {d e : Dt} (h : Rps K G vs [d, e]) : ∃ v u, vs = [v, u] ∧ Rp K G v d ∧ Rp K G u e := by
  cases h with
  | cons h1 h2 =>
    cases h2 with
    | cons h3 h4 => cases h4; exact ⟨_, _, rfl, h1, h3⟩
theorem lt_line {n : Nat} (h : n < 1000000) : n < sizeLine := Nat.lt_of_lt_of_le h (by decide)
theorem k_app {b : Bs} : MutOk b rAppend appD := fun {G H p vl xs args ds y ys Q} sg hp r ra e q => by
  unfold appD at e
  split at e
  · split at e
    · rename_i d hl
      cases e
      obtain ⟨v, rfl, rv⟩ := rps1 ra
      exact ⟨p, vl, v, rfl, rfl, hp, by rw [r.length]; exact lt_line hl, q _ _ .non (r.append (.cons rv .nil))⟩
    · cases e
  · cases e
theorem k_ext {b : Bs} : MutOk b rExtend extD := fun {G H p vl xs args ds y ys Q} sg hp r ra e q => by
  unfold extD at e
  split at e
  · split at e
    · rename_i zs hl
      cases e
      obtain ⟨v, rfl, rv⟩ := rps1 ra
      cases rv with
      | lst r1 r2 => exact ⟨p, _, vl, _, rfl, rfl, hp, sg _ _ r1 rfl, by rw [r.length, r2.length]; exact le_line hl, q _ _ .non (r.append r2)⟩
    · cases e
  · cases e
theorem k_ins {b : Bs} : MutOk b (fun x vs H Q => ∃ (l : Addr) (xs : List V) (i : Int) (y : V), x = .ref l ∧ vs = [.int i, y] ∧ H l = some (.lst xs) ∧ xs.length < sizeLine ∧ 0 ≤ i ∧ i < 2 ^ 63 ∧ Q .non (upd H l (.lst (xs.take i.toNat ++ [y] ++ xs.drop i.toNat)))) insD := fun {G H p vl xs args ds y ys Q} sg hp r ra e q => by
  unfold insD at e
  split at e
  · split at e
    · rename_i i d hl
      cases e
      obtain ⟨v, u, rfl, rv, ru⟩ := rps2 ra
      cases rv
      exact ⟨p, vl, i, u, rfl, rfl, hp, by rw [r.length]; exact lt_line hl.1, hl.2.1, by have := mid_of hl.2.2; omega, q _ _ .non (((r.take _).append (.cons ru .nil)).append (r.drop _))⟩
    · cases e
  · cases e
theorem Rps.dropLast {K : Fg} {G : Hp} {vs : List V} {ds : List Dt} (h : Rps K G vs ds) : Rps K G vs.dropLast ds.dropLast := by
  rw [List.dropLast_eq_take, List.dropLast_eq_take, h.length]
  exact h.take _
theorem k_pop {b : Bs} : MutOk b rPop popD := fun {G H p vl xs args ds y ys Q} sg hp r ra e q => by
  unfold popD at e
  split at e
  · cases hx : xs[xs.length - 1]? with
    | none => rw [hx] at e; cases e
    | some z =>
      rw [hx] at e
      cases e
      cases ra
      obtain ⟨v, h1, h2⟩ := r.get hx
      exact ⟨p, vl, v, rfl, rfl, hp, by rw [r.length]; exact h1, q _ _ h2 r.dropLast⟩
  · cases e
theorem k_popAt {b : Bs} : MutOk b rPopAt popAtD := fun {G H p vl xs args ds y ys Q} sg hp r ra e q => by
  unfold popAtD at e
  split at e
  · split at e
    · rename_i i hl
      cases hx : xs[i.toNat]? with
      | none => rw [hx] at e; cases e
      | some z =>
        rw [hx] at e
        cases e
        obtain ⟨v, rfl, rv⟩ := rps1 ra
        cases rv
        obtain ⟨w, h1, h2⟩ := r.get hx
        have hmi := mid_of hl.2.2
        refine ⟨p, vl, i, i.toNat, w, rfl, rfl, hp, by omega, by omega, ?_, h1, q _ _ h2 (r.erase _)⟩
        rw [r.length]
        exact (ixN_seq (by unfold ixN; rw [if_pos hl.1, if_pos hl.2.1])).1
    · cases e
  · cases e
/-- l.remove(x), x there -/
def rRemD (K : Fg) : V → List V → Hp → VK → Prop := fun x vs H Q => ∃ (l : Addr) (xs : List V) (y : V) (d : Dt) (ds : List Dt) (j : Nat), x = .ref l ∧ vs = [y] ∧ H l = some (.lst xs) ∧ DpAll K H xs ds ∧ Dp K H y d ∧ PyData.plainAll ds = true ∧ d.plain = true ∧ d.depth ≤ 60 ∧ SeqAt.dataPlace ds d = some j ∧ Q .non (upd H l (.lst (xs.eraseIdx j)))
theorem c_rem {X : Cx} (hu : X.A.units + 64 < cLine) : MtR X "list.remove" (rRemD X.K) := by
  intro pins s σ H x vs v us Q I rx rv h
  obtain ⟨l, xs, y, d, ds, j, rfl, rfl, hH, ha, hy, h1, h2, h3, hp, q⟩ := h
  cases rx
  obtain ⟨u, rfl, ru⟩ := vals1 rv
  obtain ⟨bs, r1⟩ := Dp.reads I d y u hy ru
  obtain ⟨z, its, n, r, hl, e⟩ := I.lstM hH
  obtain ⟨as, h4⟩ := Dp.readsAll I ds _ its ha r
  refine SeqAt.remove_list_data (vs := its.toArray) ⟨_, e, rfl, n, rfl⟩ (by simpa using h4) r1 h1 h2 (by have := Nat.min_le_right (PyData.depthAll ds) d.depth; omega) hp (by rw [List.size_toArray]; omega) ?_
  refine ⟨.non, _, I.lset (its' := its.eraseIdx j) (t' := s.toks) hH e ?_ (r.eraseIdx j) ?_, rfl, q⟩
  · show its.toArray.eraseIdxIfInBounds j = (its.eraseIdx j).toArray
    rw [List.eraseIdxIfInBounds_toArray]
  · exact Nat.le_trans (len_erase xs j) z
theorem k_rem {b : Bs} : MutOk b (rRemD b.K) remD := fun {G H p vl xs args ds y ys Q} sg hp r ra e q => by
  unfold remD at e
  split at e
  · rename_i d
    split at e
    · rename_i hl
      cases hx : SeqAt.dataPlace xs d with
      | none => rw [hx] at e; cases e
      | some j =>
        rw [hx] at e
        cases e
        rw [Bool.and_eq_true] at hl
        obtain ⟨v, rfl, rv⟩ := rps1 ra
        exact ⟨p, vl, v, d, xs, j, rfl, rfl, hp, Rps.dp _ _ (Rps.monoG sg _ _ r), Rp.dp _ _ (Rp.monoG sg _ _ rv), Rps.plain _ _ r, Rp.plain _ _ rv, sh_of hl.1, hx, q _ _ .non (r.erase _)⟩
    · cases e
  · cases e
section
variable {X : Cx} {b : Bs} {W : WX} {x : Str} {e : Expr} {es : List Expr} {fl : M (List Av)} {pos apos cpos : Pos}
theorem m_mut {r : V → List V → Hp → VK → Prop} {g : List Dt → List Dt → Option (Dt × List Dt)} (hK : X.K = b.K) (i : Nat) (mo : MutOk b r g) (h : PE X e (tBM X.K "list" r (tVar i) (tL b W fl))) : PE X e (tV b W (mutM i g fl)) :=
  weakE h fun σ H Q h => by rw [hK]; exact mut_core mo h
theorem m_mut0 {r : V → List V → Hp → VK → Prop} {g : List Dt → List Dt → Option (Dt × List Dt)} (hK : X.K = b.K) (i : Nat) (mo : MutOk b r g) (h : PE X e (tBM0 X.K "list" r (tVar i))) : PE X e (tV b W (mutM i g (retM []))) :=
  weakE h fun σ H Q h => by rw [hK]; exact mut_core0 mo h
/-- an expression as a statement -/
def exprS (f : M Rv) : M Fl := bindM f fun _ => retM .nx
theorem s_expr {f : M Rv} (he : PE X e (tV b W f)) (hs : swapsWith e none pos.line X.env = pure false := by rfl) : PS X (.Expr e pos) (tS b W (exprS f)) := weakS (ps_expr he hs) fun D σ H ⟨c, G, ρ, hb, S, q⟩ =>
  ⟨c, G, ρ, S, (PostS.bind σ q).imp fun r ρ1 G1 H1 e1 S1 q1 v hv ap => q1 σ H1 G1 (Same.refl G1) S1⟩
/-- x[k] = e, x a slot's own list -/
def setIt (i : Nat) (fe fk : M Av) : M Fl := bindM fe fun a => bindM (optM fun ρ => slotL ρ[i]?) fun _ => bindM fk fun k ρ => match slotL ρ[i]?, fzv ρ a, res ρ k with
  | some (r, xs), some d, some (.int n) => (match ixN xs.length n with
    | some j => .ok .nx (ρ.set i (some (.ls r (xs.set j d))))
    | none => .bad)
  | _, _, _ => .bad
theorem s_setIt {o k : Expr} {fe fk : M Av} {tp : Pos} (i : Nat) (hp : PS X (.Assign [.Subscript o k tp] e pos) (tAsg (tE b W fe) (gSub (tVar i) (tE b W fk) rSetL))) : PS X (.Assign [.Subscript o k tp] e pos) (tS b W (setIt i fe fk)) := weakS hp fun D σ H ⟨c, G, ρ, hb, S, q⟩ =>
  ⟨c, G, ρ, S, (PostS.bind σ q).imp fun a ρ1 G1 H1 e1 S1 q1 v hv => by
    obtain ⟨⟨r0, xs0⟩, h1, h2⟩ := (PostS.bind σ q1).opt S1
    have hs0 := slotL_of h1
    obtain ⟨w, hw, p, vs, rfl, a2, a3, a4⟩ := S1.sl i _ hs0
    refine ⟨.ref p, hw, c, G1, ρ1, S1, (PostS.bind σ h2).imp fun kk ρ2 G2 H2 e2 S2 q2 u hu => ?_⟩
    split at q2
    · rename_i r1 xs d n hsl hf hk
      have hs1 := slotL_of hsl
      split at q2
      · rename_i j hj
        obtain ⟨v', hv', p', vs', e', b2, b3, b4⟩ := S2.sl i _ hs1
        rw [hw] at hv'
        cases hv'
        cases e'
        refine ⟨p, vs', n, j, rfl, (hu.res S2 hk).int, b2, by rw [b4.length]; exact hj, ?_⟩
        have S3 := S2.mut (o := .lst (vs'.set j v)) (sv' := .ls r1 (xs.set j d)) hs1 rfl hw rfl rfl ⟨p, _, rfl, upd_same, b3, Rps.set ((hv.mono e2).fz S2 hf) j b4⟩
        exact q2 σ _ G2 (Same.refl G2) S3
      · exact q2.elim
    · exact q2.elim⟩
end
end G8
namespace G8
open PySem L2
/-! raise -/
def raiseM {α : Type} (k : Nat) : M α := fun ρ => .err k ρ
section
variable {X : Cx} {b : Bs} {W : WX} {e : Expr} {pos : Pos}
theorem s_raise (k : Nat) (hc : X.calm = true) (tk : Takes X W) (he : PMk X e (fun _ H Q => Q (.ref (b.C k)) none H)) : PS X (.Raise (some e) none pos) (tS b W (raiseM k)) :=
  weakS (ps_raise hc tk he) fun D σ H ⟨c, G, ρ, hb, S, q⟩ => q σ H G (Same.refl G) S
theorem s_never {st : Stmt} : PS X st (tS b W badM) := weakS ps_never fun D σ H ⟨c, G, ρ, hb, S, q⟩ => q.elim
theorem ss_never {st : List Stmt} : PSs X st (tS b W badM) := weakB pss_never fun D σ H ⟨c, G, ρ, hb, S, q⟩ => q.elim
end
/-! try: .. except X as n: .. ; the exception is kept in sight behind the suite -/
def exT (cls : Value) (d : Option Addr) (a : Addr) : HO := .ext fun h => ∃ (oe : Obj) (vs : Array Value), h.get? a = some oe ∧ Zc cls d oe ∧ oe.data = .fields vs
section
variable {X : Cx} {pins : List (Addr × Obj)} {σ : St} {H : Hp} {s : Shared}
theorem inv_track {a : Addr} {oe : Obj} {vs : Array Value} {cls : Value} {d : Option Addr} (J : Inv X pins σ H s) (ha : s.heap.get? a = some oe) (hz : Zc cls d oe) (hd : oe.data = .fields vs) (hn : H a = none) (nL : a ≠ X.env.locals) (n0 : X.s_0.heap.get? a = none) (np : ∀ p ∈ X.pn ++ pins, p.1 ≠ a) :
    Inv X pins σ (upd H a (exT cls d a)) s := by
  have un : ∀ {t u}, H t = some u → upd H a (exT cls d a) t = some u := fun {t u} z => by rw [upd_ne (ne_of_none z hn)]; exact z
  refine ⟨J.ok, J.os, J.bare, ⟨J.base.keep, J.base.slot, fun t u h1 h2 h3 => ?_, J.base.there, fun t u h1 => un (J.base.tups t u h1), fun t u w h1 => un (J.base.frzs t u w h1), fun t u h1 => ?_⟩, J.loc, J.cell, ?_, fun y t h1 => ?_, fun p hp => ?_, fun t u h1 => ?_, J.len⟩
  · rw [upd_ne (fun z => by rw [z, n0] at h1; cases h1)]
    exact J.base.free t u h1 h2 h3
  · obtain ⟨m, z⟩ := J.base.tbls t u h1
    exact ⟨m, un z⟩
  · rw [upd_ne (Ne.symm nL)]
    exact J.free
  · have hne : t ≠ a := fun z => by
      obtain ⟨w, o, h2, h3⟩ := J.cell y t h1
      rw [z, ha] at h2
      cases h2
      rw [hd] at h3
      cases h3
    rw [upd_ne hne]
    exact J.freeC y t h1
  · obtain ⟨h1, h2, h3, h4, h5⟩ := J.pin p hp
    exact ⟨h1, by rw [upd_ne (np p hp)]; exact h2, h3, h4, h5⟩
  · by_cases ht : t = a
    · subst ht
      rw [upd_same] at h1
      cases h1
      exact ⟨⟨oe, vs, ha, hz, hd⟩, ⟨oe, ha⟩, fun _ _ ⟨o, w, q, r⟩ k => ⟨o, w, k o q, r⟩⟩
    · rw [upd_ne ht] at h1
      exact (J.hok t u h1).stay (fun _ _ _ z => z) (fun _ z => un z) fun _ _ z => un z
end
def wAsT (K : Fg) (c : Value) (i : Nat) (ts : Addr → Value → Option Addr → TS) (Wo : WX) (D : Ends) : WX := fun cls d σ H =>
  ∃ k, PySem.W.exmOne K cls c = some k ∧
    (k = true → ∀ a, H a = none → ts a cls d { nx := fun σ' H' => H' a = none → D.nx (σ'.set i none) (upd H' a (exT cls d a)), rt := fun _ _ => False } (σ.set i (some (.ref a))) H) ∧ (k = false → Wo cls d σ H)
section
variable {X : Cx} {x n : Str} {c : Value} {i : Nat} {body suite : List Stmt} {s0 : Stmt} {np pos pos' : Pos} {tb : WX → TS} {ts : Addr → Value → Option Addr → TS} {Wo : WX}
theorem ps_tryT (hs : X.stack = X.env :: X.outer) (hf : X.env.frame = some X.env.locals) (hex : X.ex = []) (hN : X.N.Nodup) (hi : X.N[i]? = some n) (hln : X.env.kindOf n = some .local) (hc : Names X x c) (tk : Takes X Wo)
    (hb : ∀ (W : WX) (pn : List (Addr × Obj)) (xe : Value → Shared → Prop), Takes (X.tr pn xe) W → PassesOwn (model X.prog X.w) X.A X.env xe → PSs (X.tr pn xe) body (tb W))
    (hsu : ∀ (a : Addr) (oe : Obj) (cls : Value) (d : Option Addr) (pn : List (Addr × Obj)), PSs (X.suite a ((a, oe) :: pn)) (s0 :: suite) (ts a cls d)) :
    PS X (.Try body [.ExceptHandler (some (.Name x np)) (some n) (s0 :: suite) pos'] [] [] pos) (fun D σ H => tb (wAsT X.K c i ts Wo D) D σ H) := by
  refine ⟨fun pins s σ H D J0 h => ?_⟩
  have okX := J0.ok
  have frm : X.A.frames = some (X.env :: X.outer) := by rw [okX.frames, hs]
  refine wpAny_Try_except ?_
  refine wpAny_mono ((hb (wAsT X.K c i ts Wo D) (X.pn ++ pins) _ (fun u s1 xx => ?_) PassesOwn.looking).run [] s σ H D (J0.toTry _) h) (fun fl s1 sp => ?_) (fun e s1 he => he)
  · obtain ⟨a, B, sI, pin2, σ1, H1, cls, d, rfl, Jx, nb, up, sky, na, os, ag, k, hk, yes, no⟩ := xx
    have JI : Inv X pins σ1 H1 sI := Jx.ofTry okX
    have sky2 : Sky B (X.env :: X.outer) a (Zc cls d) X.env.locals s1.heap := by rw [← hs]; exact sky
    show wpAny (model X.prog X.w) X.A (noteFrame (.ref a) X.env) _ _ _
    refine Sky.land Zc.steady frm hf sky2 fun h2 fl2 up2 => ?_
    have J2 : Inv X pins σ1 H1 { s1 with heap := h2 } := JI.landed nb fl2.1 (up.trans up2) os ag
    obtain ⟨o2, v2, g2, z2, d2⟩ := fl2.there
    have away : a ∉ frs (X.env :: X.outer) := fun hm => by
      obtain ⟨_, o', e', nf⟩ := (fl2.2.2.1).mem hm
      rw [g2] at e'
      cases e'
      exact nf _ d2
    have nL : a ≠ X.env.locals := fun z => away (List.mem_filterMap.mpr ⟨X.env, List.mem_cons_self, by rw [hf, z]⟩)
    have nF : a ∉ X.fs := fun hm => by
      obtain ⟨e, he, q⟩ := List.mem_filterMap.mp hm
      exact away (List.mem_filterMap.mpr ⟨e, List.mem_cons_of_mem _ he, q⟩)
    have nI : sI.heap.get? a = none := by
      cases z : sI.heap.get? a with
      | none => rfl
      | some o =>
        have y := nb a o z (by rw [hs]; exact away)
        rw [fl2.2.1] at y
        cases y
    have n0 : X.s_0.heap.get? a = none := by
      cases z : X.s_0.heap.get? a with
      | none => rfl
      | some o =>
        obtain ⟨o', y⟩ := JI.base.there a o z (by rw [hex]; exact List.not_mem_nil)
        rw [nI] at y
        cases y
    have npin : ∀ p ∈ X.pn ++ pins, p.1 ≠ a := fun p hp z => by
      have y := (JI.pin p hp).1
      rw [z, nI] at y
      cases y
    have T2 := J2.suite g2 d2 na nL nF
    refine wpAny_handleBy_cons (codeAny_handlers_test ?_) (by intro q; cases q)
    have lty : PySem.W.Looks (model X.prog X.w) h2 (typeOf (.ref a)) cls := fun A Q E t kk q => wpAny_typeOf_ref (kk _ _ g2) (by rw [z2.1]; exact q)
    have lm := PySem.W.exm_one (M := model X.prog X.w) (J2.kIn) lty hk
    have named : ∀ {Q : Value → Shared → Prop} {E : Value → Shared → Prop}, Q c { s1 with heap := h2 } → wpAny (model X.prog X.w) (X.A.mark (some (.ref a))) (eval (.Name x np) X.env) Q E { s1 with heap := h2 } := fun {Q E} q => by
      obtain ⟨hg, hdbg, hm | ⟨hm, hv, hnn⟩⟩ := hc
      · exact ld_glob (X := X.suite a ((a, o2) :: (X.pn ++ pins))) T2 hg hm q hdbg
      · exact ld_blt (X := X.suite a ((a, o2) :: (X.pn ++ pins))) T2 hg hm hv q hnn hdbg
    refine named (lm.here ?_)
    cases k with
    | true =>
      refine codeAny_handlers_suite_as ?_
      refine HandSPX.lands_againZ fl2 fun h3 fl3 up3 => ?_
      have J3 : Inv X pins σ1 H1 { s1 with heap := h3 } := JI.landed nb fl3.1 ((up.trans up2).trans up3) os ag
      obtain ⟨o3, v3, g3, z3, d3⟩ := fl3.there
      have T3 := J3.suite g3 d3 na nL nF
      refine store_ok (X := X.suite a ((a, o3) :: (X.pn ++ pins))) (v := .ref a) T3 hN hi (.inl hln) rfl (fun s5 T5 => ?_) (.inr hln)
      refine wpAny_mono ((hsu a o3 cls d (X.pn ++ pins)).run [] s5 _ H1 _ T5 (yes rfl a na)) (fun fl s6 sp => ?_) (fun _ _ z => False.elim z)
      cases fl with
      | next =>
        obtain ⟨σ6, H6, T6, q6⟩ := sp
        obtain ⟨p1, p2, _⟩ := T6.pin (a, o3) (List.mem_append_left _ List.mem_cons_self)
        have J6 := inv_track (T6.unsuite okX) p1 z3 d3 p2 nL n0 npin
        exact gone_ok J6 hN hi hln fun s7 J7 => ⟨_, _, J7, q6 p2⟩
      | brk =>
        obtain ⟨_, _, _, q6⟩ := sp
        exact False.elim q6
      | cont =>
        obtain ⟨_, _, _, q6⟩ := sp
        exact False.elim q6
      | ret u =>
        obtain ⟨_, _, _, _, _, q6⟩ := sp
        exact False.elim q6
    | false =>
      show wpAny _ X.A (handleBy (.ref a) X.env []) _ _ _
      refine wpAny_handleBy_nil ?_
      obtain ⟨w1, w2, w3, oe, vs, T, oT, tl, he, hz, hd, h1, hr⟩ := id fl2
      unfold PySem.passOn
      refine wpAny_bind (wpAny_field he hd h1 ?_)
      rw [if_neg (show ¬ ((Value.ref T == Value.none) = true) from by simp)]
      have fin : wpAny (model X.prog X.w) X.A (setFlight (.ref a) X.env.frame) (fun _ s4 => wpAny (model X.prog X.w) X.A (throw (.ref a) : Sem Flow) (SP X pins D) X.xe s4) X.xe { s1 with heap := h2 } := by
        rw [hf]
        refine HandSPX.setFlight_upZ fl2 fun h4 hh4 up4 => wpAny_throw (tk _ _ ?_)
        exact ⟨a, B, sI, pins, σ1, H1, cls, d, rfl, JI, nb, (up.trans up2).trans up4, .inr (.inr (by rw [hs]; exact hh4)), na, os, ag, no rfl⟩
      first
        | exact wpAny_bind (wpAny_pure (wpAny_bind fin))
        | exact wpAny_bind fin
  · cases fl with
    | next =>
      obtain ⟨σ1, H1, J1, q⟩ := sp
      exact wpAny_execs_nil ⟨σ1, H1, J1.ofTry okX, q⟩
    | brk =>
      obtain ⟨σ1, H1, J1, q⟩ := sp
      exact ⟨σ1, H1, J1.ofTry okX, q⟩
    | cont =>
      obtain ⟨σ1, H1, J1, q⟩ := sp
      exact ⟨σ1, H1, J1.ofTry okX, q⟩
    | ret u =>
      obtain ⟨v, σ1, H1, J1, r, q⟩ := sp
      exact ⟨v, σ1, H1, J1.ofTry okX, r, q⟩
end
/-- the classes: which are caught -/
structure Exs (b : Bs) (c : Value) (g : Nat → Bool) : Prop where
  is : ∀ k, PySem.W.exmOne b.K (.ref (b.C k)) c = some (g k)
/-- try: body / except X as e: y = e -/
def tryM (g : Nat → Bool) (i j : Nat) (f : M Fl) : M Fl := fun ρ => match f ρ with
  | .err k ρ' => if g k then (if ownAt ρ'[i]? || refAt ρ'[j]? then .bad else if i = j ∨ ρ'.length ≤ i then .bad else .ok .nx ((ρ'.set i none).set j (some (.ex k)))) else .err k ρ'
  | o => o
section
variable {X : Cx} {b : Bs} {W : WX} {x n y : Str} {c : Value} {i j : Nat} {body : List Stmt} {np pos pos' p1 p2 p3 : Pos} {g : Nat → Bool} {f : M Fl}
theorem s_try (hK : X.K = b.K) (hs : X.stack = X.env :: X.outer) (hf : X.env.frame = some X.env.locals) (hex : X.ex = []) (hN : X.N.Nodup) (hi : X.N[i]? = some n) (hln : X.env.kindOf n = some .local) (hc : Names X x c) (tk : Takes X W) (E : Exs b c g)
    (hj : X.N[j]? = some y) (hjl : X.env.kindOf y = some .local)
    (hb : ∀ (W' : WX) (pn : List (Addr × Obj)) (xe : Value → Shared → Prop), Takes (X.tr pn xe) W' → PassesOwn (model X.prog X.w) X.A X.env xe → PSs (X.tr pn xe) body (tS b W' f))
    (hsu : ∀ (a : Addr) (oe : Obj) (pn : List (Addr × Obj)), PS (X.suite a ((a, oe) :: pn)) (.Assign [.Name y p1] (.Name n p2) p3) (tAsg (tVar i) (gName j))) :
    PS X (.Try body [.ExceptHandler (some (.Name x np)) (some n) [.Assign [.Name y p1] (.Name n p2) p3] pos'] [] [] pos) (tS b W (tryM g i j f)) := by
  refine weakS (ps_tryT (tb := fun W' => tS b W' f) (ts := fun _ _ _ => tAsg (tVar i) (gName j)) hs hf hex hN hi hln hc tk hb (fun a oe _ _ pn => pss_one (hsu a oe pn))) fun D σ H ⟨cc, G, ρ, hfn, S, q⟩ => ?_
  refine ⟨cc, G, ρ, hfn, S, ?_⟩
  unfold tryM at q
  cases e : f ρ with
  | bad => rw [e] at q; exact q
  | ok fl ρ1 =>
    rw [e] at q
    cases fl <;> exact q
  | err k ρ1 =>
    rw [e] at q
    have q : PostS b cc W G D (if g k = true then (if (ownAt ρ1[i]? || refAt ρ1[j]?) = true then .bad else if i = j ∨ ρ1.length ≤ i then .bad else .ok .nx ((ρ1.set i none).set j (some (.ex k)))) else .err k ρ1) := q
    intro σ1 H1 G1 e1 S1
    refine ⟨g k, by rw [hK]; exact E.is k, fun hg a ha => ?_, fun hg => ?_⟩
    · rw [if_pos hg] at q
      split at q
      · exact q.elim
      · rename_i ho
        split at q
        · exact q.elim
        · rename_i hij
          rw [Bool.or_eq_true, not_or] at ho
          rw [not_or] at hij
          have hlt := hij.2
          have hij := hij.1
          refine ⟨.ref a, ?_, fun hna => ?_⟩
          · rw [getElem?_set_eq', if_pos rfl, if_pos (by rw [← S1.len]; omega)]
          · obtain ⟨e2, S2⟩ := S1.lay (o := exT (.ref (b.C k)) none a) ha
            have S3 := S2.drop (i := i) (ownAt_of ho.1) none
            have hop : Open cc (ρ1.set i none) j := fun s hsj => by
              rw [List.getElem?_set_ne hij] at hsj
              exact refAt_of hfn ho.2 s hsj
            have S4 := S3.set (i := j) (v := .ref a) (sv := .ex k) ⟨a, rfl, upd_same⟩ hop (fun _ _ z => by cases z)
            have eσ : ((σ1.set i (some (.ref a))).set j (some (.ref a))).set i none = (σ1.set i none).set j (some (.ref a)) := by
              rw [List.set_comm _ _ (Ne.symm hij), List.set_set]
            show D.nx (((σ1.set i (some (.ref a))).set j (some (.ref a))).set i none) (upd H1 a _)
            rw [eσ]
            exact q _ _ _ (e1.trans e2) S4
    · rw [if_neg (by rw [hg]; exact Bool.false_ne_true)] at q
      exact q σ1 H1 G1 e1 S1
end
/-! try: .. except X: y = constant -/
def tryO (g : Nat → Bool) (h f : M Fl) : M Fl := fun ρ => match f ρ with
  | .err k ρ' => if g k then h ρ' else .err k ρ'
  | o => o
section
variable {X : Cx} {b : Bs} {W : WX} {x : Str} {c : Value} {body suite : List Stmt} {s0 : Stmt} {np pos pos' : Pos} {g : Nat → Bool} {f h : M Fl}
theorem s_tryO (hK : X.K = b.K) (hs : X.stack = X.env :: X.outer) (hf : X.env.frame = some X.env.locals) (hc : Names X x c) (tk : Takes X W) (E : Exs b c g) (hn : ∀ ρ k ρ', h ρ ≠ .err k ρ')
    (hb : ∀ (W' : WX) (pn : List (Addr × Obj)) (xe : Value → Shared → Prop), Takes (X.tr pn xe) W' → PassesOwn (model X.prog X.w) X.A X.env xe → PSs (X.tr pn xe) body (tS b W' f))
    (hsu : ∀ (a : Addr) (oe : Obj) (pn : List (Addr × Obj)), PSs (X.suite a ((a, oe) :: pn)) (s0 :: suite) (tS b W0 h)) :
    PS X (.Try body [.ExceptHandler (some (.Name x np)) none (s0 :: suite) pos'] [] [] pos) (tS b W (tryO g h f)) := by
  refine weakS (ps_try_only (tb := fun W' => tS b W' f) (ts := fun _ _ _ => tS b W0 h) hs hf hc tk hb (fun a oe _ _ pn _ _ => hsu a oe pn)) fun D σ H ⟨cc, G, ρ, hfn, S, q⟩ => ?_
  refine ⟨cc, G, ρ, hfn, S, ?_⟩
  unfold tryO at q
  cases e : f ρ with
  | bad => rw [e] at q; exact q
  | ok fl ρ1 =>
    rw [e] at q
    cases fl <;> exact q
  | err k ρ1 =>
    rw [e] at q
    have q : PostS b cc W G D (if g k = true then h ρ1 else .err k ρ1) := q
    intro σ1 H1 G1 e1 S1
    refine ⟨g k, by rw [hK]; exact E.is k, fun hg a ha => ?_, fun hg => ?_⟩
    · rw [if_pos hg] at q
      refine ⟨cc, G1, ρ1, hfn, S1, ?_⟩
      have q := PostS.mono e1 q
      cases e2 : h ρ1 with
      | bad => rw [e2] at q; exact q.elim
      | err k2 ρ2 => exact absurd e2 (hn _ _ _)
      | ok fl ρ2 =>
        rw [e2] at q
        cases fl <;> exact q
    · rw [if_neg (by rw [hg]; exact Bool.false_ne_true)] at q
      exact q σ1 H1 G1 e1 S1
end
/-! isinstance(e, C), e a slot that holds an exception -/
def rIsX (K : Fg) (cv : Value) (D : Addr) : List V → Hp → VK → Prop := fun xs H Q => ∃ (a : Addr) (t : V) (k : Bool), xs = [.ref a, t] ∧ (∀ u, RelV t u → u = cv) ∧ H a = some (exO D a) ∧ ExcC K D ∧ PySem.W.kitOne K (.ref D) cv = some k ∧ Q (.bl k) H
theorem c_isX {X : Cx} (cv : Value) : CallR X (.builtin "isinstance") (fun xs H Q => ∃ D, rIsX X.K cv D xs H Q) := by
  intro pins s σ H xs us Q I r h
  obtain ⟨D, a, t, k, rfl, hcv, hH, C, e, q⟩ := h
  obtain ⟨u1, u2, rfl, r1, r2⟩ := vals2 r
  cases r1
  have := hcv _ r2
  subst this
  obtain ⟨⟨oe, vs, h1, h2, h3⟩, _⟩ := (show ObjOk X.prog X.w H s.heap a (exO D a) from I.hok a _ hH)
  have J : PySem.W.InstAt s.heap a oe D none := by
    obtain ⟨oc, od, oda, osl⟩ := oe
    obtain ⟨h4, h5⟩ := h2
    dsimp only at h4 h5 h3
    subst h4 h5 h3
    exact ⟨h1, rfl, rfl, trivial⟩
  exact PySem.W.kia_one (PySem.W.handS_kitx_exc C.hg C.hk C.hs C.hd C.ha C.hn C.ht C.hm) I.kIn J e (fun z => nomatch z) fun tk => ⟨.bl k, H, I.kept (t' := tk) fun _ _ z => z, rfl, q⟩
structure Isi (b : Bs) (cv : Value) (g : Nat → Bool) : Prop where
  ex : ∀ k, ExcC b.K (b.C k)
  is : ∀ k, PySem.W.kitOne b.K (.ref (b.C k)) cv = some (g k)
def isiM (i : Nat) (g : Nat → Bool) : M Av := fun ρ => match ρ[i]? with
  | some (some (.ex k)) => .ok (.d (.bool (g k))) ρ
  | _ => .bad
section
variable {X : Cx} {b : Bs} {W : WX} {p1 p2 p3 pos : Pos} {x : Str} {e2 : Expr} {cv : Value} {v : V} {g : Nat → Bool}
theorem m_isi (hK : X.K = b.K) (i : Nat) (I : Isi b cv g) (ha : PE X (.Name x p2) (tVar i)) (hb : PE X e2 (tC v)) (hv : ∀ u, RelV v u → u = cv) (hg : Gl X "isinstance") (hm : X.mg "isinstance" = none)
    (hs : starEach [.Name x p2, e2] X.env = (false, eval (.Name x p2) X.env) :: starEach [e2] X.env := by rfl) (hs2 : starEach [e2] X.env = (false, eval e2 X.env) :: starEach [] X.env := by rfl) (hpl : (backTo pos (starEach [e2] X.env)).any (·.1) = false := by rfl) :
    PE X (.Call (.Name "isinstance" p1) [.Name x p2, e2] [] pos) (tE b W (isiM i g)) :=
  weakE (pe_callB (c_isX cv) hg hm (by decide +kernel) (pa_cons ha (pa_cons hb pa_nil hs2) hs) (by decide) (by decide) hs hpl) fun σ H Q ⟨c, G, ρ, S, q⟩ => by
    unfold isiM at q
    split at q
    · rename_i k hk
      obtain ⟨u, hu, a, rfl, r⟩ := S.sl i _ hk
      exact ⟨.ref a, hu, b.C k, a, v, g k, rfl, hv, S.gh _ _ r rfl, by rw [hK]; exact I.ex k, by rw [hK]; exact I.is k, q H G (Same.refl G) S _ (.bl _)⟩
    · exact q.elim
end
end G8
namespace G8
open PySem L2
/-! what the top leaves, by facts -/
def obsM (fa : List (Fg → Bool)) (fn : List He.DefD) (K : Fg) : He.AlD := ((fa.all fun f => f K) && fn.all fun d => d.ok K, fn.map fun d => He.fnW K d.at_)
def SaysM (fa : List (Fg → Bool)) (fn : List He.DefD) (K : Fg) : Prop := obsM fa fn K = He.valD fn
def obsMG (n : Nat) (fa : List (Fg → Bool)) (fn : List He.DefD) (g : Addr → Option Obj) : He.AlD := obsM fa fn (He.frG g (He.asD g n))
def hookM (n : Nat) (fa : List (Fg → Bool)) (fn : List He.DefD) : PySem.W.Hook where
  α := He.AlD
  obs := fun s => obsMG n fa fn s.heap.get?
  val := fun _ => He.valD fn
  says := fun _ h => ∃ K : Fg, K.In h ∧ SaysM fa fn K
  of := fun _ _ e => ⟨_, He.frG_in, e⟩
  keeps := fun _ _ _ ⟨K, h1, h2⟩ k => ⟨K, PySem.W.Frag.In.keeps h1 k, h2⟩
theorem obsMG_eq {n : Nat} {fa : List (Fg → Bool)} {fn : List He.DefD} {g : Addr → Option Obj} {s : Shared} (h : ∀ a, g a = s.heap.get? a) : obsMG n fa fn g = (hookM n fa fn).obs s := by
  rw [show g = s.heap.get? from funext h]
  rfl
section
variable {fa : List (Fg → Bool)} {fn : List He.DefD} {K : Fg}
theorem SaysM.fact (c : SaysM fa fn K) (i : Nat) {f : Fg → Bool} (h : fa[i]? = some f := by rfl) : f K = true := by
  have c1 : ((fa.all fun f => f K) && fn.all fun d => d.ok K) = true := congrArg Prod.fst c
  rw [Bool.and_eq_true, List.all_eq_true] at c1
  exact c1.1 f (List.mem_of_getElem? h)
theorem SaysM.def_ (c : SaysM fa fn K) (i : Nat) {d : He.DefD} (h : fn[i]? = some d := by rfl) : ∃ fd, FunD K d.name d.qual d.params d.body d.scope (d.dvs K) (d.kws K) (He.fAd K d.at_) fd := by
  have c1 : ((fa.all fun f => f K) && fn.all fun d => d.ok K) = true := congrArg Prod.fst c
  rw [Bool.and_eq_true, List.all_eq_true, List.all_eq_true] at c1
  have e : fn.map (fun d => He.fnW K d.at_) = fn.map He.DefD.val := congrArg Prod.snd c
  have e2 : (fn.map fun d => He.fnW K d.at_)[i]? = (fn.map He.DefD.val)[i]? := by rw [e]
  rw [List.getElem?_map, List.getElem?_map, h] at e2
  exact He.DefD.funD (Option.some.inj e2) (c1.2 d (List.mem_of_getElem? h))
end
/-! the eight refusals -/
def exName : Nat → Str
  | 0 => "BadRow"
  | 1 => "BadRoom"
  | 2 => "BadRule"
  | 3 => "BadPlan"
  | 4 => "BadDepths"
  | 5 => "BadTurns"
  | 6 => "BadAsk"
  | _ => "BadText"
def exC (K : Fg) (k : Nat) : Addr := He.ga K (exName k)
/-- the tables of code objects that the program's defs fill: that of most_held, where it is there -/
def lamAt : Fg → Addr × Addr := fun K => He.cT K ("most_held", none)
def tbs (K : Fg) : List (Addr × Str) := if He.Fa.ok K (.glo "most_held") then [((lamAt K).2, "most_held.<locals>.<lambda>")] else []
abbrev bs (K : Fg) : Bs := ⟨K, exC K, tbs K, He.ga K "Meter"⟩
def eqOV (a b : Option (Option Value)) : Bool := He.eqO a b
/-- what is looked at of one of them -/
def fExc (k : Nat) (K : Fg) : Bool := He.Fa.ok K (.exc (exName k)) && (He.Fa.ok K (.glo (exName k)) && (PySem.W.hasDictIn K (exC K k) && (He.eqO (PySem.W.findIn K (.ref (exC K k)) "__getattribute__") (some (some (.builtin "BaseException.__getattribute__"))) &&
  (He.eqO (PySem.W.findIn K (.ref (exC K k)) "__getattr__") (some none) && (He.eqO (PySem.W.findIn K (.ref (exC K k)) "__class__") (some (some (.builtin "object.__class__"))) && (He.eqO (PySem.W.specialIn K (.builtin "object.__class__") "__get__") (some (some (.builtin "getset_descriptor.__get__"))) &&
  (decide (PySem.W.takesIn K (.builtin "object.__class__") = some true) && decide (PySem.W.mroIn K (exC K k) (.type "object") = some true))))))))
theorem fExc_c {k : Nat} {K : Fg} (h : fExc k K = true) : ExcC K (exC K k) := by
  obtain ⟨h1, h⟩ := He.ba h
  obtain ⟨h2, h⟩ := He.ba h
  obtain ⟨h3, h⟩ := He.ba h
  obtain ⟨h4, h⟩ := He.ba h
  obtain ⟨h5, h⟩ := He.ba h
  obtain ⟨h6, h⟩ := He.ba h
  obtain ⟨h7, h⟩ := He.ba h
  obtain ⟨h8, h9⟩ := He.ba h
  exact ⟨He.eqO_ok h4, He.eqO_ok h5, (He.exc_ok h1).2.2.1, h3, He.eqO_ok h6, He.eqO_ok h7, of_decide_eq_true h8, of_decide_eq_true h9⟩
structure ExFact (K : Fg) (mg : Str → Option Value) (k : Nat) : Prop where
  exc : PySem.W.excIn K (exC K k) He.veBase "ValueError.__new__" = true
  kp : PySem.W.keepIn K (.ref (exC K k)) = true
  sub : PySem.W.subIn K (.ref (exC K k)) (.type "BaseException") = some true
  ty : PySem.W.typeIn K (.ref (exC K k)) = some (.type "type")
  g : mg (exName k) = some (.ref (exC K k))
  c : ExcC K (exC K k)
theorem exFact {K : Fg} {h : Heap} {mg : Str → Option Value} (X : K.In h) (G : h.Ns mainGlobals mg) {k : Nat} (f : fExc k K = true) : ExFact K mg k := by
  obtain ⟨h1, h2⟩ := He.ba f
  obtain ⟨h3, _⟩ := He.ba h2
  obtain ⟨e1, e2, e3, e4⟩ := He.exc_ok h1
  exact ⟨e1, e2, e3, e4, He.glo_ok X G h3, fExc_c f⟩
/-- all eight -/
def fAll (K : Fg) : Bool := (List.range 8).all fun k => fExc k K
theorem exC_ge {K : Fg} {k : Nat} (h : 7 ≤ k) : exC K k = exC K 7 := by
  unfold exC
  match k, h with
  | 7, _ => rfl
  | n + 8, _ => rfl
theorem exName_ge {k : Nat} (h : 7 ≤ k) : exName k = exName 7 := by
  match k, h with
  | 7, _ => rfl
  | n + 8, _ => rfl
theorem fAll_of {K : Fg} (h : fAll K = true) (k : Nat) : fExc k K = true := by
  unfold fAll at h
  rw [List.all_eq_true] at h
  by_cases hk : k < 8
  · exact h k (List.mem_range.mpr hk)
  · have := h 7 (List.mem_range.mpr (by decide))
    unfold fExc at this ⊢
    rw [exC_ge (K := K) (k := k) (by omega), exName_ge (k := k) (by omega)]
    exact this
/-- isinstance and except against one of them, or ValueError, RoomError -/
def fKit (cv : Fg → Value) (g : Nat → Bool) (K : Fg) : Bool := (List.range 8).all fun k => decide (PySem.W.kitOne K (.ref (exC K k)) (cv K) = some (g k))
def fExm (cv : Fg → Value) (g : Nat → Bool) (K : Fg) : Bool := (List.range 8).all fun k => decide (PySem.W.exmOne K (.ref (exC K k)) (cv K) = some (g k))
def is8 (j k : Nat) : Bool := decide (min k 7 = j)
theorem all8 {p : Nat → Bool} (h : ((List.range 8).all p) = true) (hs : ∀ k, 7 ≤ k → p k = p 7) (k : Nat) : p k = true := by
  rw [List.all_eq_true] at h
  by_cases hk : k < 8
  · exact h k (List.mem_range.mpr hk)
  · rw [hs k (by omega)]
    exact h 7 (List.mem_range.mpr (by decide))
theorem fKit_of {K : Fg} {cv : Fg → Value} {g : Nat → Bool} (hg : ∀ k, 7 ≤ k → g k = g 7) (ha : fAll K = true) (h : fKit cv g K = true) : Isi (bs K) (cv K) g :=
  ⟨fun k => fExc_c (fAll_of ha k), fun k => of_decide_eq_true (all8 h (fun k hk => by rw [exC_ge hk, hg k hk]) k)⟩
theorem fExm_of {K : Fg} {cv : Fg → Value} {g : Nat → Bool} (hg : ∀ k, 7 ≤ k → g k = g 7) (h : fExm cv g K = true) : Exs (bs K) (cv K) g :=
  ⟨fun k => of_decide_eq_true (all8 h (fun k hk => by rw [exC_ge hk, hg k hk]) k)⟩
theorem is8_ge (j : Nat) : ∀ k, 7 ≤ k → is8 j k = is8 j 7 := fun k hk => by
  unfold is8
  rw [Nat.min_eq_right hk]
  rfl
/-! constants of the top -/
section
variable {X : Cx} {b : Bs} {W : WX} {x : Str} {pos : Pos}
theorem m_gint {i : Int} (hg : Gl X x) (hm : ∃ t, X.mg x = some (.int i t)) (hd : (x == ("__debug__" : Str)) = false := by decide) : PE X (.Name x pos) (tE b W (retM (.d (.int i)))) := by
  obtain ⟨t, ht⟩ := hm
  exact m_const (pe_glob (v := .int i) hg ht ⟨_, rfl⟩ hd) fun _ _ => .int i
theorem m_gstr {i : Str} (hg : Gl X x) (hm : ∃ t, X.mg x = some (.str i t)) (hd : (x == ("__debug__" : Str)) = false := by decide) : PE X (.Name x pos) (tE b W (retM (.d (.str i)))) := by
  obtain ⟨t, ht⟩ := hm
  exact m_const (pe_glob (v := .str i) hg ht ⟨_, rfl⟩ hd) fun _ _ => .str i
/-- a tuple of texts of the top -/
theorem m_gtup {ss : List Str} {a : Addr} (hg : Gl X x) (hm : X.mg x = some (.ref a)) (ht : ∀ H, SqT b.K H a (ss.map V.str)) (hd : (x == ("__debug__" : Str)) = false := by decide) (hn : ss.isEmpty = false := by rfl) : PE X (.Name x pos) (tE b W (retM (.d (.tuple (ss.map PyData.str))))) := by
  refine weakE (pe_glob (v := .ref a) hg hm rfl hd) fun σ H Q ⟨c, G, ρ, S, q⟩ => q.ret S (.ref a) (.tup (.inr ⟨ht _, by cases ss with | nil => cases hn | cons y ys => exact ⟨y, _, rfl⟩⟩) ?_)
  induction ss with
  | nil => exact .nil
  | cons s ss ih => exact .cons (.str s) (ih' ss)
where ih' {K : Fg} {G : Hp} : ∀ ss : List Str, Rps K G (ss.map V.str) (ss.map PyData.str)
  | [] => .nil
  | s :: ss => .cons (.str s) (ih' ss)
theorem s_raiseX {m : Str} {j k : Nat} {K : Fg} {p1 p2 p3 : Pos} (hK : X.K = K) (f : ExFact K X.mg k) (hx : exName k = x) (hg : Gl X x) (hc : X.calm = true) (tk : Takes X W) (hd : (x == ("__debug__" : Str)) = false := by decide) :
    PS X (.Raise (some (.Call (.Name x p1) [.Constant (.str m) j p2] [] p3)) none pos) (tS (bs K) W (raiseM k)) := by
  subst hx
  subst hK
  exact s_raise k hc tk (pmk_own PySem.F.excBase_ValueError f.exc f.g f.kp (raises_own f.sub f.ty) hg hd)
end
end G8
namespace G8
open PySem L2
/-! the end of a law -/
def spLaw (K : Fg) : Sp := fun vs H Q _ => ∃ (a : Addr) (ns : List Int), vs = [.ref a] ∧ ns.length ≤ 63 ∧ SqL K H a (ns.map V.int) ∧ (∀ p ∈ tbs K, H p.1 = some (.tbl #[])) ∧ ∀ H', Q (.bl true) H'
def Keeps (F : Fn) : Prop := ∀ ns : List Int, ns.length ≤ 63 → ∃ ρ, F [.scr ns] = .ok (.d (.bool true)) ρ
def noTab (H : Hp) : Hp := fun b => match H b with
  | some (.tbl _) => none
  | some (.rng _ _) => none
  | x => x
theorem noTab_same (H : Hp) : Same (noTab H) H := fun b o e => by
  unfold noTab at e
  split at e
  · cases e
  · cases e
  · exact e
theorem noTab_mk {H : Hp} {b : Addr} (h : Mk (noTab H) b) : False := by
  obtain ⟨o, h1, h2⟩ := h
  unfold noTab at h1
  split at h1
  · cases h1
  · cases h1
  · rename_i n1 n2
    cases o <;> first | exact n2 _ _ h1 | cases h2
theorem noTab_keep {H : Hp} {b : Addr} {o : HO} (e : H b = some o) (n : ∀ ps, o ≠ .tbl ps) (n2 : isMk o = false := by rfl) : noTab H b = some o := by
  unfold noTab
  split
  · rename_i ps h
    rw [e] at h
    exact absurd (Option.some.inj h) (n ps)
  · rename_i lo hi h
    rw [e] at h
    cases h
    cases n2
  · exact e
theorem sqL_noTab {K : Fg} {H : Hp} {a : Addr} {xs : List V} (h : SqL K H a xs) : SqL K (noTab H) a xs := by
  rcases h with (h | ⟨o, h⟩) | h
  · exact .inl (.inl (noTab_keep h fun _ z => by cases z))
  · exact .inl (.inr ⟨o, noTab_keep h fun _ z => by cases z⟩)
  · exact .inr h
theorem sig_scr {b : Bs} {H : Hp} {a : Addr} {ns : List Int} (h : SqL b.K H a (ns.map V.int)) (hT : ∀ p ∈ b.T, H p.1 = some (.tbl #[])) : SIG b (ctx0 (noTab H) H [.scr ns] [.ref a]) (noTab H) (svsE [.scr ns]) (vsE [.ref a]) H := by
  have one : ∀ {i : Nat} {sv : Sv}, (svsE [.scr ns])[i]? = some (some sv) → i = 0 ∧ sv = .scr ns := fun {i sv} e => by
    cases i with
    | zero => simp [svsE] at e; exact ⟨rfl, e.symm⟩
    | succ i => simp [svsE] at e
  have nr : ∀ i p f, (i, p, f) ∉ (ctx0 (noTab H) H [.scr ns] [.ref a]).refs := fun i p f m => by
    revert m
    simp [ctx0, inner, svsE, vsE, refsOf, Sv.own]
  refine ⟨rfl, Same.refl _, sg (noTab_same H), fun a m => (noTab_mk m).elim, fun a o e _ _ _ => e, fun a o e => .inl e, fun i sv e => ?_, fun i j si sj p e1 _ o1 => ?_, fun i si p e1 o1 => ?_, fun i p f m => (nr i p f m).elim, fun p hp => LamX.TabS.nil (hT p hp), fun p hp => ⟨?_, _, hT p hp⟩, fun i r m p h1 _ => ?_, fun i j si sj h1 _ g1 _ => ?_, fun a z => ?_, fun i p f s m => (nr i p f m).elim⟩
  case refine_5 =>
    cases (one h1).2
  case refine_6 =>
    rw [(one h1).2] at g1
    cases g1
  case refine_7 =>
    obtain ⟨i, r, m, p, C, m', Z, h1, _⟩ := z
    cases (one h1).2
  · obtain ⟨rfl, rfl⟩ := one e
    exact ⟨.ref a, rfl, a, rfl, sqL_noTab h⟩
  · obtain ⟨rfl, rfl⟩ := one e1
    cases o1
  · obtain ⟨rfl, rfl⟩ := one e1
    cases o1
  · show noTab H p.1 = none
    unfold noTab
    rw [hT p hp]
theorem law_end {P : Program} {w : World} {K : Fg} {mg : Str → Option Value} {base : Heap} {k : Nat} {f : Addr} {fd : FuncData} {F : Fn} (hF : Keeps F)
    (FN : FnOk P w K mg base (L2.CX P w) k f fd ["script"] (spF (bs K) 1 F)) : FnOk P w K mg base CX0 k f fd ["script"] (spLaw K) := by
  refine ⟨fun vs H Q E ⟨a, ns, e, _⟩ => by rw [e]; rfl, fun A outer s H args us vs Q E hr he hb hv ⟨a, ns, e, hl, hs, hT, hq⟩ => ?_⟩
  subst e
  obtain ⟨ρ, hρ⟩ := hF ns hl
  refine PySem.codeAny_mono (FN.run A outer s H args us [.ref a] Q (fun _ _ _ => False) hr he hb hv ⟨noTab H, [.scr ns], rfl, sig_scr hs hT, fun s m o => ?_, ?_⟩) fun r s' h => ?_
  · rcases List.mem_singleton.mp m with rfl
    cases o
  · rw [hρ]
    intro v H' G' S r
    have r : Rp K G' v (.bool true) := r
    cases r
    exact hq H'
  · cases r with
    | ok u => cases u <;> exact h
    | error e =>
      obtain ⟨_, _, _, _, _, _, _, _, _, _, _, _, z⟩ := h
      exact z
theorem tbs_nil {K : Fg} (h : (!He.Fa.ok K (.glo "most_held")) = true) : tbs K = [] := by
  unfold tbs
  rw [if_neg (by simpa using h)]
theorem tbs_one {K : Fg} (h : He.Fa.ok K (.glo "most_held") = true) : tbs K = [((lamAt K).2, ("most_held.<locals>.<lambda>" : Str))] := by
  unfold tbs
  rw [if_pos h]
/-! the top with the table of most_held, empty and left out -/
def lamTf : List He.Defn := [("most_held", none)]
def SaysL (fa : List (Fg → Bool)) (fn : List He.DefD) (h : Heap) (K : Fg) : Prop := SaysM fa fn K ∧ PySem.W.codeHdIn K (lamAt K).1 (lamAt K).2 = true ∧ K.lookup (lamAt K).2 = none ∧ h.get? (lamAt K).2 = some { cls := .none, data := .fields #[] }
def obsL (n : Nat) (fa : List (Fg → Bool)) (fn : List He.DefD) (g : Addr → Option Obj) : He.AlD × Bool := (obsM fa fn (He.frT g (He.asD g n)), He.tabsB g lamTf (He.frT g (He.asD g n)))
theorem saysL_of {n : Nat} {fa : List (Fg → Bool)} {fn : List He.DefD} {h : Heap} (e : obsL n fa fn h.get? = (He.valD fn, true)) : SaysL fa fn h (He.frT h.get? (He.asD h.get? n)) := by
  have e1 : obsM fa fn (He.frT h.get? (He.asD h.get? n)) = He.valD fn := congrArg Prod.fst e
  have e2 : He.tabsB h.get? lamTf (He.frT h.get? (He.asD h.get? n)) = true := congrArg Prod.snd e
  obtain ⟨h3, h4⟩ := He.ba (List.all_eq_true.mp e2 ("most_held", none) (List.mem_singleton.mpr rfl))
  refine ⟨e1, h3, ?_⟩
  cases q : h.get? (He.cT (He.frT h.get? (He.asD h.get? n)) ("most_held", none)).2 with
  | none =>
    rw [q] at h4
    cases h4
  | some o =>
    rw [q] at h4
    refine ⟨He.frT_none q h4, ?_⟩
    show h.get? (He.cT (He.frT h.get? (He.asD h.get? n)) ("most_held", none)).2 = _
    rw [q, He.emptyTab_eq h4]
def hookL (n : Nat) (fa : List (Fg → Bool)) (fn : List He.DefD) : PySem.W.Hook where
  α := He.AlD × Bool
  obs := fun s => obsL n fa fn s.heap.get?
  val := fun _ => (He.valD fn, true)
  says := fun _ h => ∃ K : Fg, K.In h ∧ SaysL fa fn h K
  of := fun _ _ e => ⟨_, He.frT_in, saysL_of e⟩
  keeps := fun _ _ _ ⟨K, h1, h2, h3, h4, h5⟩ k => ⟨K, PySem.W.Frag.In.keeps h1 k, h2, h3, h4, k _ _ h5⟩
theorem obsL_eq {n : Nat} {fa : List (Fg → Bool)} {fn : List He.DefD} {g : Addr → Option Obj} {s : Shared} (h : ∀ a, g a = s.heap.get? a) : obsL n fa fn g = (hookL n fa fn).obs s := by
  rw [show g = s.heap.get? from funext h]
  rfl
/-! the draws: one number of a script, from 0 to less than many -/
def cellI (ns : List Int) (k : Nat) : Int := if ns.isEmpty then 0 else ns.getD (k % ns.length) 0
def mixI (ns : List Int) (k : Nat) : Int :=
  let a := (cellI ns k + 104729 * ((k : Int) + 1)) % 4294967291
  let b := a ^ 5 % 4294967279
  (b / 64 * 69621 + b) % 4294967231
def drw (ns : List Int) (k : Nat) (m : Int) : Int := mixI ns k / 8 % m
theorem drw_lo (ns : List Int) (k : Nat) {m : Int} (h : 0 < m) : 0 ≤ drw ns k m := Int.emod_nonneg _ (by omega)
theorem drw_hi (ns : List Int) (k : Nat) {m : Int} (h : 0 < m) : drw ns k m < m := Int.emod_lt_of_pos _ h
def fcell : M Fl :=
    (seqM (ifM (testM (varM 0)) (retS (dataM (ixS 0 (frzM (bin2 modD (varM 1) (lenM (varM 0))))))) (retM .nx))
    (retS (dataM (retM (.d (.int 0))))))
def Fcell : Fn := bodyF 2 fcell
def fmix : M Fl :=
    (seqM (setM 2 (bin2 modD (frzM (bin2 addD (frzM (callM 2 Fcell (consM (varM 0) (consM (varM 1) (retM []))))) (frzM (bin2 mulD (retM (.d (.int 104729))) (frzM (bin2 addD (varM 1) (retM (.d (.int 1))))))))) (retM (.d (.int 4294967291)))))
    (seqM (setM 2 (bin2 modD (frzM (bin2 powD (varM 2) (retM (.d (.int 5))))) (retM (.d (.int 4294967279)))))
    (retS (bin2 modD (frzM (bin2 addD (frzM (bin2 mulD (frzM (bin2 fdivD (varM 2) (retM (.d (.int 64))))) (retM (.d (.int 69621))))) (varM 2))) (retM (.d (.int 4294967231)))))))
def Fmix : Fn := bodyF 3 fmix
def fdraw : M Fl :=
    (seqM (exprS (mutM 1 appD (consM (retM (.d (.int 0))) (retM []))))
    (retS (bin2 modD (frzM (bin2 fdivD (frzM (callM 2 Fmix (consM (varM 0) (consM (lenM (varM 1)) (retM []))))) (retM (.d (.int 8))))) (varM 2))))
def Fdraw : Fn := bodyF 3 fdraw
/-! what the parts do, one by one -/
@[simp] theorem bindM_ap {α β : Type} (f : M α) (g : α → M β) (ρ : Ev) : bindM f g ρ = (match f ρ with
  | .ok a ρ' => g a ρ'
  | .err k ρ' => .err k ρ'
  | .bad => .bad) := rfl
@[simp] theorem retM_ap {α : Type} (a : α) (ρ : Ev) : retM a ρ = .ok a ρ := rfl
@[simp] theorem badM_ap {α : Type} (ρ : Ev) : (badM : M α) ρ = .bad := rfl
@[simp] theorem optM_ap {α : Type} (g : Ev → Option α) (ρ : Ev) : optM g ρ = (match g ρ with
  | some a => .ok a ρ
  | none => .bad) := rfl
@[simp] theorem varM_ap (i : Nat) (ρ : Ev) : varM i ρ = (match ρ[i]? with
  | some (some _) => .ok (.s i) ρ
  | _ => .bad) := rfl
@[simp] theorem frzM_ap (f : M Rv) (ρ : Ev) : frzM f ρ = (match f ρ with
  | .ok (.d x) ρ' => .ok (.d x) ρ'
  | .ok (.l xs) ρ' => .ok (.d (.list xs)) ρ'
  | .ok _ _ => .bad
  | .err k ρ' => .err k ρ'
  | .bad => .bad) := by
  unfold frzM bindM
  cases f ρ with
  | ok r ρ' => cases r <;> rfl
  | err k ρ' => rfl
  | bad => rfl
@[simp] theorem dataM_ap (f : M Av) (ρ : Ev) : dataM f ρ = bindM f (fun a => optM fun ρ => (fzv ρ a).map Rv.d) ρ := rfl
@[simp] theorem bin2_ap (g : Dt → Dt → Option Rv) (fa fb : M Av) (ρ : Ev) : bin2 g fa fb ρ = bindM fa (fun a => bindM fb fun b => optM fun ρ => (res ρ a).bind fun x => (res ρ b).bind fun y => g x y) ρ := rfl
@[simp] theorem un1_ap (g : Dt → Option Rv) (fa : M Av) (ρ : Ev) : un1 g fa ρ = bindM fa (fun a => optM fun ρ => (res ρ a).bind g) ρ := rfl
@[simp] theorem testM_ap (fa : M Av) (ρ : Ev) : testM fa ρ = bindM fa (fun a => optM fun ρ => tru ρ a) ρ := rfl
@[simp] theorem notM_ap (fa : M Bool) (ρ : Ev) : notM fa ρ = bindM fa (fun b => retM (!b)) ρ := rfl
@[simp] theorem notV_ap (fa : M Av) (ρ : Ev) : notV fa ρ = bindM (testM fa) (fun b => retM (.d (.bool (!b)))) ρ := rfl
@[simp] theorem consM_ap (fe : M Av) (fs : M (List Av)) (ρ : Ev) : consM fe fs ρ = bindM fe (fun a => bindM fs fun as => retM (a :: as)) ρ := rfl
@[simp] theorem lstM_ap (fl : M (List Av)) (ρ : Ev) : lstM fl ρ = bindM fl (fun as => optM fun ρ => if as.length ≤ 1000 then (fzs ρ as).map Rv.l else none) ρ := rfl
@[simp] theorem tupM_ap (fl : M (List Av)) (ρ : Ev) : tupM fl ρ = bindM fl (fun as => bindM (optM fun ρ => if as.length ≤ 1000 then fzs ρ as else none) fun xs => retM (.d (.tuple xs))) ρ := rfl
@[simp] theorem putM_ap (i : Nat) (s : Option Sv) (ρ : Ev) : putM i s ρ = if refAt ρ[i]? then .bad else .ok () (ρ.set i s) := rfl
@[simp] theorem setM_ap (i : Nat) (f : M Rv) (ρ : Ev) : setM i f ρ = bindM f (fun r => bindM (putM i (some r.sv)) fun _ => retM .nx) ρ := rfl
@[simp] theorem retS_ap (f : M Rv) (ρ : Ev) : retS f ρ = bindM f (fun r => retM (.rt r)) ρ := rfl
@[simp] theorem retO_ap (i : Nat) (ρ : Ev) : retO i ρ = bindM (optM fun ρ => slotR ρ[i]?) (fun r => retM (.rt r)) ρ := rfl
@[simp] theorem withS_ap {α : Type} (i : Nat) (f : M α) (ρ : Ev) : withS i f ρ = bindM (shareM i) (fun _ => f) ρ := rfl
@[simp] theorem putD_ap (i : Nat) (d : Dt) (ρ : Ev) : putD i d ρ = if ownAt ρ[i]? then .bad else .ok () (ρ.set i (some (.d d))) := rfl
@[simp] theorem asgM_ap (fe : M Av) (t : Tgt) (ρ : Ev) : asgM fe t ρ = bindM fe (fun a => bindM (optM fun ρ => fzv ρ a) fun d => bindM (putT t d) fun _ => retM .nx) ρ := rfl
@[simp] theorem itM_ap (fa : M Av) (ρ : Ev) : itM fa ρ = bindM fa (fun a => optM fun ρ => (fzv ρ a).bind seqOf) ρ := rfl
@[simp] theorem itT_ap (fa : M Av) (ρ : Ev) : itT fa ρ = bindM fa (fun a => optM fun ρ => (fzv ρ a).bind tupOf) ρ := rfl
@[simp] theorem rg1_ap (fl : M (List Av)) (ρ : Ev) : rg1 fl ρ = bindM fl (fun as => optM fun ρ => (fzs ρ as).bind fun xs => (int1 xs).bind fun j => if mid j then some (rangeD 0 j.toNat) else none) ρ := rfl
@[simp] theorem rg2_ap (fl : M (List Av)) (ρ : Ev) : rg2 fl ρ = bindM fl (fun as => optM fun ρ => (fzs ρ as).bind fun xs => (int2 xs).bind fun q => if mid q.1 && mid q.2 then some (rangeD q.1 (q.2 - q.1).toNat) else none) ρ := rfl
@[simp] theorem rg3_ap (fl : M (List Av)) (ρ : Ev) : rg3 fl ρ = bindM fl (fun as => optM fun ρ => (fzs ρ as).bind fun xs => (int3 xs).bind fun q => if mid q.1 && mid q.2.1 && decide (q.2.2 = -1) then some (rangeC q.1 (-1) (q.1 - q.2.1).toNat) else none) ρ := rfl
@[simp] theorem forM_ap (fi : M (List Dt)) (t : Tgt) (body : M Fl) (ρ : Ev) : forM fi t body ρ = bindM fi (fun ds => forL t body ds) ρ := rfl
@[simp] theorem lcM_ap (fi : M (List Dt)) (t : Tgt) (ft : M Bool) (fe : M Av) (ρ : Ev) : lcM fi t ft fe ρ = bindM fi (fun ds => bindM (compL t ft fe ds []) fun xs => retM (.l xs)) ρ := rfl
@[simp] theorem callM_ap (n : Nat) (F : Fn) (fl : M (List Av)) (ρ : Ev) : callM n F fl ρ = bindM fl (fun as => callF n F as) ρ := rfl
@[simp] theorem cmpM_ap (g : Dt → Dt → Option Bool) (fa fb : M Av) (ρ : Ev) : cmpM g fa fb ρ = bindM fa (fun a => bindM fb fun b => optM fun ρ => (res ρ a).bind fun x => (res ρ b).bind fun y => (g x y).map fun z => .d (.bool z)) ρ := rfl
@[simp] theorem cmpT_ap (g : Dt → Dt → Option Bool) (fa fb : M Av) (ρ : Ev) : cmpT g fa fb ρ = bindM fa (fun a => bindM fb fun b => optM fun ρ => (res ρ a).bind fun x => (res ρ b).bind fun y => g x y) ρ := rfl
@[simp] theorem isN_ap (n : Bool) (fa : M Av) (ρ : Ev) : isN n fa ρ = bindM fa (fun a => optM fun ρ => (nonA ρ a).map fun k => .d (.bool (if n then !k else k))) ρ := rfl
@[simp] theorem isNT_ap (n : Bool) (fa : M Av) (ρ : Ev) : isNT n fa ρ = bindM fa (fun a => optM fun ρ => (nonA ρ a).map fun k => if n then !k else k) ρ := rfl
@[simp] theorem partN_ap  (ρ : Ev) : partN ρ = .ok none ρ := rfl
@[simp] theorem partS_ap (f : M Av) (ρ : Ev) : partS f ρ = bindM f (fun a => optM fun ρ => match res ρ a with
  | some (.int i) => some (some i)
  | _ => none) ρ := rfl
@[simp] theorem sliceM_ap (fa : M Av) (fl fh : M (Option Int)) (ρ : Ev) : sliceM fa fl fh ρ = bindM fa (fun a => bindM fl fun lo => bindM fh fun hi => optM fun ρ => (res ρ a).bind fun x => slD x lo hi) ρ := rfl
@[simp] theorem biM_ap (g : List Dt → Option Rv) (fl : M (List Av)) (ρ : Ev) : biM g fl ρ = bindM fl (fun as => optM fun ρ => (ress ρ as).bind g) ρ := rfl
@[simp] theorem lenM_ap (fa : M Av) (ρ : Ev) : lenM fa ρ = bindM fa (fun a => optM fun ρ => (lenA ρ a).map fun (n : Nat) => Av.d (.int (n : Int))) ρ := rfl
@[simp] theorem meM_ap (g : Dt → List Dt → Option Dt) (fo : M Av) (fl : M (List Av)) (ρ : Ev) : meM g fo fl ρ = bindM fo (fun o => bindM (optM fun ρ => (res ρ o).bind isL) fun _ => bindM fl fun as => optM fun ρ => (res ρ o).bind fun x => (ress ρ as).bind fun ds => (g x ds).map Av.d) ρ := rfl
@[simp] theorem exprS_ap (f : M Rv) (ρ : Ev) : exprS f ρ = bindM f (fun _ => retM .nx) ρ := rfl
@[simp] theorem raiseM_ap {α : Type} (k : Nat) (ρ : Ev) : (raiseM k : M α) ρ = .err k ρ := rfl
@[simp] theorem andM_ap (fa fb : M Bool) (ρ : Ev) : andM fa fb ρ = (match fa ρ with
  | .ok true ρ' => fb ρ'
  | .ok false ρ' => .ok false ρ'
  | .err k ρ' => .err k ρ'
  | .bad => .bad) := by
  unfold andM bindM
  cases fa ρ with
  | ok b ρ' => cases b <;> rfl
  | err k ρ' => rfl
  | bad => rfl
@[simp] theorem orM_ap (fa fb : M Bool) (ρ : Ev) : orM fa fb ρ = (match fa ρ with
  | .ok true ρ' => .ok true ρ'
  | .ok false ρ' => fb ρ'
  | .err k ρ' => .err k ρ'
  | .bad => .bad) := by
  unfold orM bindM
  cases fa ρ with
  | ok b ρ' => cases b <;> rfl
  | err k ρ' => rfl
  | bad => rfl
@[simp] theorem ifM_ap {α : Type} (ft : M Bool) (fa fb : M α) (ρ : Ev) : ifM ft fa fb ρ = (match ft ρ with
  | .ok true ρ' => fa ρ'
  | .ok false ρ' => fb ρ'
  | .err k ρ' => .err k ρ'
  | .bad => .bad) := by
  unfold ifM bindM
  cases ft ρ with
  | ok b ρ' => cases b <;> rfl
  | err k ρ' => rfl
  | bad => rfl
@[simp] theorem andV_ap (fa fb : M Av) (ρ : Ev) : andV fa fb ρ = (match fa ρ with
  | .ok a ρ' => (match tru ρ' a with
    | some true => fb ρ'
    | some false => .ok a ρ'
    | none => .bad)
  | .err k ρ' => .err k ρ'
  | .bad => .bad) := by
  unfold andV
  simp only [bindM_ap, optM_ap]
  cases fa ρ with
  | ok b ρ' =>
    dsimp only
    cases tru ρ' b with
    | none => rfl
    | some k => cases k <;> rfl
  | err k ρ' => rfl
  | bad => rfl
@[simp] theorem orV_ap (fa fb : M Av) (ρ : Ev) : orV fa fb ρ = (match fa ρ with
  | .ok a ρ' => (match tru ρ' a with
    | some true => .ok a ρ'
    | some false => fb ρ'
    | none => .bad)
  | .err k ρ' => .err k ρ'
  | .bad => .bad) := by
  unfold orV
  simp only [bindM_ap, optM_ap]
  cases fa ρ with
  | ok b ρ' =>
    dsimp only
    cases tru ρ' b with
    | none => rfl
    | some k => cases k <;> rfl
  | err k ρ' => rfl
  | bad => rfl
@[simp] theorem seqM_ap (f g : M Fl) (ρ : Ev) : seqM f g ρ = (match f ρ with
  | .ok .nx ρ' => g ρ'
  | o => o) := rfl
@[simp] theorem shareM_ap (i : Nat) (ρ : Ev) : shareM i ρ = (match ρ[i]? with
  | some (some (.ls false xs)) => .ok () (ρ.set i (some (.d (.list xs))))
  | some (some (.d _)) => .ok () ρ
  | _ => .bad) := rfl
@[simp] theorem putT_one (i : Nat) (d : Dt) : putT (.one i) d = putD i d := rfl
@[simp] theorem putT_tup (is : List Nat) (ds : List Dt) : putT (.tup is) (.tuple ds) = putDs is ds := rfl
@[simp] theorem putDs_nil (ρ : Ev) : putDs [] [] ρ = .ok () ρ := rfl
@[simp] theorem putDs_cons (i : Nat) (is : List Nat) (d : Dt) (ds : List Dt) (ρ : Ev) : putDs (i :: is) (d :: ds) ρ = bindM (putD i d) (fun _ => putDs is ds) ρ := rfl
@[simp] theorem chainT_ap (g g' : Dt → Dt → Option Bool) (fa fb fc : M Av) (ρ : Ev) : chainT g g' fa fb fc ρ = bindM fa (fun a => bindM fb fun b => bindM (optM fun ρ => (res ρ a).bind fun x => (res ρ b).bind fun y => g x y) fun k =>
    if k then bindM fc (fun z => optM fun ρ => (res ρ b).bind fun y => (res ρ z).bind fun w => g' y w) else retM false) ρ := by
  unfold chainT chainM
  simp only [bindM_ap]
  cases fa ρ with
  | err k ρ' => rfl
  | bad => rfl
  | ok a ρ1 =>
    dsimp only
    cases fb ρ1 with
    | err k ρ' => rfl
    | bad => rfl
    | ok b ρ2 =>
      simp only [optM_ap]
      cases ((res ρ2 a).bind fun x => (res ρ2 b).bind fun y => g x y) with
      | none => rfl
      | some k =>
        cases k with
        | false => rfl
        | true =>
          simp only [bindM_ap, optM_ap, if_true]
          cases fc ρ2 with
          | err k ρ' => rfl
          | bad => rfl
          | ok c ρ3 =>
            dsimp only
            cases res ρ3 b with
            | none => rfl
            | some y =>
              cases res ρ3 c with
              | none => rfl
              | some w =>
                simp only [Option.bind_some]
                cases g' y w <;> rfl
@[simp] theorem chainM_ap (g g' : Dt → Dt → Option Bool) (fa fb fc : M Av) (ρ : Ev) : chainM g g' fa fb fc ρ = bindM fa (fun a => bindM fb fun b => bindM (optM fun ρ => (res ρ a).bind fun x => (res ρ b).bind fun y => g x y) fun k =>
    if k then bindM fc (fun z => optM fun ρ => (res ρ b).bind fun y => (res ρ z).bind fun w => (g' y w).map fun t => .d (.bool t)) else retM (.d (.bool false))) ρ := by
  unfold chainM
  simp only [bindM_ap]
  cases fa ρ with
  | err k ρ' => rfl
  | bad => rfl
  | ok a ρ1 =>
    dsimp only
    cases fb ρ1 with
    | err k ρ' => rfl
    | bad => rfl
    | ok b ρ2 =>
      simp only [optM_ap]
      cases ((res ρ2 a).bind fun x => (res ρ2 b).bind fun y => g x y) with
      | none => rfl
      | some k => cases k <;> rfl
@[simp] theorem ixS_ap (i : Nat) (fb : M Av) (ρ : Ev) : ixS i fb ρ = bindM (varM i) (fun _ => bindM fb fun a => optM fun ρ => match ρ[i]?, res ρ a with
  | some (some (.scr ns)), some (.int k) => (atI ns k).map fun z => .d (.int z)
  | _, _ => none) ρ := rfl
@[simp] theorem mutM_ap (i : Nat) (g : List Dt → List Dt → Option (Dt × List Dt)) (fl : M (List Av)) (ρ : Ev) : mutM i g fl ρ = bindM (optM fun ρ => slotL ρ[i]?) (fun _ => bindM fl fun as ρ => match slotL ρ[i]?, fzs ρ as with
  | some (r, xs), some ds => (match g xs ds with
    | some (y, ys) => .ok (.d y) (ρ.set i (some (.ls r ys)))
    | none => .bad)
  | _, _ => .bad) ρ := rfl
@[simp] theorem setIt_ap (i : Nat) (fe fk : M Av) (ρ : Ev) : setIt i fe fk ρ = bindM fe (fun a => bindM (optM fun ρ => slotL ρ[i]?) fun _ => bindM fk fun k ρ => match slotL ρ[i]?, fzv ρ a, res ρ k with
  | some (r, xs), some d, some (.int n) => (match ixN xs.length n with
    | some j => .ok .nx (ρ.set i (some (.ls r (xs.set j d))))
    | none => .bad)
  | _, _, _ => .bad) ρ := rfl
@[simp] theorem isiM_ap (i : Nat) (g : Nat → Bool) (ρ : Ev) : isiM i g ρ = (match ρ[i]? with
  | some (some (.ex k)) => .ok (.d (.bool (g k))) ρ
  | _ => .bad) := rfl
@[simp] theorem tryM_ap (g : Nat → Bool) (i j : Nat) (f : M Fl) (ρ : Ev) : tryM g i j f ρ = (match f ρ with
  | .err k ρ' => if g k then (if ownAt ρ'[i]? || refAt ρ'[j]? then .bad else if i = j ∨ ρ'.length ≤ i then .bad else .ok .nx ((ρ'.set i none).set j (some (.ex k)))) else .err k ρ'
  | o => o) := rfl
@[simp] theorem tryO_ap (g : Nat → Bool) (h f : M Fl) (ρ : Ev) : tryO g h f ρ = (match f ρ with
  | .err k ρ' => if g k then h ρ' else .err k ρ'
  | o => o) := rfl
@[simp] theorem callF_ap (n : Nat) (F : Fn) (as : List Av) (ρ : Ev) : callF n F as ρ = if as.length = n ∧ okArgs ρ as = true then (match resolve ρ as with
  | none => .bad
  | some svs => (match F svs with
    | .ok r outs => .ok r (writeBack ρ as outs)
    | .err k outs => .err k (writeBack ρ as outs)
    | .bad => .bad)) else .bad := rfl
@[simp] theorem resolve_nil (ρ : Ev) : resolve ρ [] = some [] := rfl
@[simp] theorem resolve_d (ρ : Ev) (x : Dt) (as : List Av) : resolve ρ (.d x :: as) = (resolve ρ as).map fun r => .d x :: r := rfl
@[simp] theorem resolve_s (ρ : Ev) (i : Nat) (as : List Av) : resolve ρ (.s i :: as) = (match ρ[i]? with
    | some (some s) => (resolve ρ as).map fun r => s.mark true :: r
    | _ => none) := rfl
@[simp] theorem res_d (ρ : Ev) (x : Dt) : res ρ (.d x) = some x := rfl
@[simp] theorem res_s (ρ : Ev) (i : Nat) : res ρ (.s i) = slotD ρ[i]? := rfl
@[simp] theorem fzv_d (ρ : Ev) (x : Dt) : fzv ρ (.d x) = some x := rfl
@[simp] theorem fzv_s (ρ : Ev) (i : Nat) : fzv ρ (.s i) = slotZ ρ[i]? := rfl
@[simp] theorem tru_d (ρ : Ev) (x : Dt) : tru ρ (.d x) = truth x := rfl
@[simp] theorem tru_s (ρ : Ev) (i : Nat) : tru ρ (.s i) = slotT ρ[i]? := rfl
@[simp] theorem slotD_d (x : Dt) : slotD (some (some (.d x))) = some x := rfl
@[simp] theorem slotD_l (r : Bool) (xs : List Dt) : slotD (some (some (.ls r xs))) = some (.list xs) := rfl
@[simp] theorem slotZ_d (x : Dt) : slotZ (some (some (.d x))) = some x := rfl
@[simp] theorem slotL_l (r : Bool) (xs : List Dt) : slotL (some (some (.ls r xs))) = some (r, xs) := rfl
@[simp] theorem slotR_d (x : Dt) : slotR (some (some (.d x))) = some (.d x) := rfl
@[simp] theorem slotR_l (xs : List Dt) : slotR (some (some (.ls false xs))) = some (.l xs) := rfl
@[simp] theorem fzs_nil (ρ : Ev) : fzs ρ [] = some [] := rfl
@[simp] theorem fzs_cons (ρ : Ev) (a : Av) (as : List Av) : fzs ρ (a :: as) = (fzv ρ a).bind fun x => (fzs ρ as).map fun xs => x :: xs := rfl
@[simp] theorem ress_nil (ρ : Ev) : ress ρ [] = some [] := rfl
@[simp] theorem ress_cons (ρ : Ev) (a : Av) (as : List Av) : ress ρ (a :: as) = (res ρ a).bind fun x => (ress ρ as).map fun xs => x :: xs := rfl
@[simp] theorem sv_d (x : Dt) : (Rv.d x).sv = .d x := rfl
@[simp] theorem sv_l (x : List Dt) : (Rv.l x).sv = .ls false x := rfl
@[simp] theorem addD_i (i j : Int) : addD (.int i) (.int j) = some (.d (.int (i + j))) := rfl
@[simp] theorem addD_l (i j : List Dt) : addD (.list i) (.list j) = if i.length + j.length ≤ 1000000 then some (.l (i ++ j)) else none := rfl
@[simp] theorem subD_i (i j : Int) : subD (.int i) (.int j) = some (.d (.int (i - j))) := rfl
@[simp] theorem mulD_i (i j : Int) : mulD (.int i) (.int j) = if small64 i || small64 j then some (.d (.int (i * j))) else none := rfl
@[simp] theorem fdivD_i (i j : Int) : fdivD (.int i) (.int j) = if 0 < j ∧ j.natAbs < 1073741824 then some (.d (.int (i / j))) else none := rfl
@[simp] theorem modD_i (i j : Int) : modD (.int i) (.int j) = if 0 < j then some (.d (.int (i % j))) else none := rfl
@[simp] theorem powD_i (i j : Int) : powD (.int i) (.int j) = if 0 ≤ j ∧ j ≤ 1000000 ∧ i.natAbs < 2 ^ 64 then some (.d (.int (i ^ j.toNat))) else none := rfl
@[simp] theorem negD_i (i : Int) : negD (.int i) = some (.d (.int (-i))) := rfl
@[simp] theorem ltI_i (i j : Int) : ltI (.int i) (.int j) = some (decide (i < j)) := rfl
@[simp] theorem leI_i (i j : Int) : leI (.int i) (.int j) = some (decide (i ≤ j)) := rfl
@[simp] theorem gtI_i (i j : Int) : gtI (.int i) (.int j) = some (decide (j < i)) := rfl
@[simp] theorem geI_i (i j : Int) : geI (.int i) (.int j) = some (decide (j ≤ i)) := rfl
@[simp] theorem ixD_l (xs : List Dt) (i : Int) : ixD (.list xs) (.int i) = (atI xs i).map Rv.d := rfl
@[simp] theorem ixD_t (xs : List Dt) (i : Int) : ixD (.tuple xs) (.int i) = (atI xs i).map Rv.d := rfl
@[simp] theorem forL_nil (t : Tgt) (body : M Fl) (ρ : Ev) : forL t body [] ρ = .ok .nx ρ := rfl
@[simp] theorem compL_nil (t : Tgt) (ft : M Bool) (fe : M Av) (acc : List Dt) (ρ : Ev) : compL t ft fe [] acc ρ = .ok acc ρ := rfl
@[simp] theorem refAt_n : refAt (some none) = false := rfl
@[simp] theorem refAt_s (s : Sv) : refAt (some (some s)) = s.isRef := rfl
@[simp] theorem ownAt_n : ownAt (some none) = false := rfl
@[simp] theorem ownAt_s (s : Sv) : ownAt (some (some s)) = s.own := rfl
@[simp] theorem isRef_d (x : Dt) : (Sv.d x).isRef = false := rfl
@[simp] theorem isRef_l (r : Bool) (x : List Dt) : (Sv.ls r x).isRef = r := rfl
@[simp] theorem isRef_x (k : Nat) : (Sv.ex k).isRef = false := rfl
@[simp] theorem isRef_s (k : List Int) : (Sv.scr k).isRef = false := rfl
@[simp] theorem own_d (x : Dt) : (Sv.d x).own = false := rfl
@[simp] theorem own_l (r : Bool) (x : List Dt) : (Sv.ls r x).own = true := rfl
@[simp] theorem own_x (k : Nat) : (Sv.ex k).own = false := rfl
@[simp] theorem own_s (k : List Int) : (Sv.scr k).own = false := rfl
@[simp] theorem mark_d (b : Bool) (x : Dt) : (Sv.d x).mark b = .d x := rfl
@[simp] theorem mark_l (b r : Bool) (x : List Dt) : (Sv.ls r x).mark b = .ls b x := rfl
@[simp] theorem mark_x (b : Bool) (k : Nat) : (Sv.ex k).mark b = .ex k := rfl
@[simp] theorem mark_s (b : Bool) (k : List Int) : (Sv.scr k).mark b = .scr k := rfl
theorem atI_nat {α : Type} (xs : List α) (i : Nat) : atI xs (i : Int) = xs[i]? := by
  unfold atI ixN
  by_cases h : i < xs.length
  · rw [if_pos (by omega), if_pos (by omega)]
    simp
  · rw [if_pos (by omega), if_neg (by omega), List.getElem?_eq_none (by omega)]
    rfl
def wbAt (o : Option Sv) (q : Option (Option Sv)) : Option Sv := match o with
  | none => none
  | some s => if s.own then (match q with
    | some (some s') => some (s'.mark s.isRef)
    | _ => some s) else some s
theorem wb1_eq (as : List Av) (outs : Ev) (i : Nat) (o : Option Sv) : wb1 as outs i o = (match posOf i as with
    | none => o
    | some j => wbAt o outs[j]?) := by
  unfold wb1 wbAt
  cases o with
  | none => cases posOf i as <;> rfl
  | some s =>
    cases posOf i as with
    | none => dsimp only; split <;> rfl
    | some j => rfl
@[simp] theorem writeBack_nil (as : List Av) (outs : Ev) : writeBack [] as outs = [] := rfl
@[simp] theorem writeBack_eq (ρ : Ev) (as : List Av) (outs : Ev) : writeBack ρ as outs = ρ.mapIdx fun i o => (match posOf i as with
    | none => o
    | some j => wbAt o outs[j]?) := by
  unfold writeBack
  congr 1
  funext i o
  exact wb1_eq as outs i o
@[simp] theorem posOf_nil (i : Nat) : posOf i [] = none := rfl
@[simp] theorem posOf_d (i : Nat) (x : Dt) (as : List Av) : posOf i (.d x :: as) = (posOf i as).map (· + 1) := rfl
@[simp] theorem posOf_s (i k : Nat) (as : List Av) : posOf i (.s k :: as) = if k = i then some 0 else (posOf i as).map (· + 1) := rfl
@[simp] theorem wbAt_n (q : Option (Option Sv)) : wbAt none q = none := rfl
@[simp] theorem wbAt_d (x : Dt) (q : Option (Option Sv)) : wbAt (some (.d x)) q = some (.d x) := rfl
@[simp] theorem wbAt_x (x : Nat) (q : Option (Option Sv)) : wbAt (some (.ex x)) q = some (.ex x) := rfl
@[simp] theorem wbAt_s (x : List Int) (q : Option (Option Sv)) : wbAt (some (.scr x)) q = some (.scr x) := rfl
@[simp] theorem wbAt_l (r : Bool) (x : List Dt) (s : Sv) : wbAt (some (.ls r x)) (some (some s)) = some (s.mark r) := rfl
@[simp] theorem okArgs_nil (ρ : Ev) : okArgs ρ [] = true := rfl
@[simp] theorem okArgs_d (ρ : Ev) (x : Dt) (as : List Av) : okArgs ρ (.d x :: as) = okArgs ρ as := rfl
@[simp] theorem okArgs_s (ρ : Ev) (i : Nat) (as : List Av) : okArgs ρ (.s i :: as) = ((!ownAt ρ[i]? || !hasS i as) && okArgs ρ as) := rfl
@[simp] theorem hasS_nil (i : Nat) : hasS i [] = false := rfl
@[simp] theorem hasS_d (i : Nat) (x : Dt) (as : List Av) : hasS i (.d x :: as) = hasS i as := rfl
@[simp] theorem hasS_s (i k : Nat) (as : List Av) : hasS i (.s k :: as) = (decide (k = i) || hasS i as) := rfl
@[simp] theorem finE_nil (ρ : Ev) : finE [] ρ = [] := rfl
@[simp] theorem finE_cons (s : Sv) (ss : List Sv) (ρ : Ev) : finE (s :: ss) ρ = (if s.isRef then (ρ.head?).getD none else none) :: finE ss ρ.tail := rfl
@[simp] theorem svsE_nil : svsE [] = [] := rfl
@[simp] theorem svsE_cons (s : Sv) (ss : List Sv) : svsE (s :: ss) = some s :: svsE ss := rfl
theorem bodyF_ap (n : Nat) (f : M Fl) (svs : List Sv) : bodyF n f svs = (match f (svsE svs ++ List.replicate (n - svs.length) none) with
  | .ok (.rt r) ρ => .ok r (finE svs ρ)
  | .ok .nx ρ => .ok (.d .none) (finE svs ρ)
  | .ok _ _ => .bad
  | .err k ρ => .err k (finE svs ρ)
  | .bad => .bad) := rfl
theorem Fcell_eq (ns : List Int) (k : Nat) : Fcell [.scr ns, .d (.int k)] = .ok (.d (.int (cellI ns k))) [none, none] := by
  by_cases hn : ns = []
  · subst hn
    rfl
  · have h1 : 0 < ns.length := List.length_pos_iff.mpr hn
    have e : ((k : Int) % (ns.length : Int)) = (((k % ns.length : Nat)) : Int) := by omega
    have hl : k % ns.length < ns.length := Nat.mod_lt _ h1
    have h0 : ns.isEmpty = false := by cases ns <;> simp at hn ⊢
    have q : atI ns ((k : Int) % (ns.length : Int)) = some (cellI ns k) := by
      rw [e, atI_nat, List.getElem?_eq_getElem hl]
      unfold cellI
      rw [if_neg (by simp [h0]), List.getD_eq_getElem?_getD, List.getElem?_eq_getElem hl]
      rfl
    simp [Fcell, fcell, bodyF_ap, lenA, slotT, h0, h1, q]
theorem Fmix_eq (ns : List Int) (k : Nat) : Fmix [.scr ns, .d (.int k)] = .ok (.d (.int (mixI ns k))) [none, none] := by
  have a0 : (0 : Int) ≤ (cellI ns k + 104729 * ((k : Int) + 1)) % 4294967291 := Int.emod_nonneg _ (by decide)
  have a1 : (cellI ns k + 104729 * ((k : Int) + 1)) % 4294967291 < 4294967291 := Int.emod_lt_of_pos _ (by decide)
  have s1 : small64 104729 = true := rfl
  have s2 : small64 69621 = true := rfl
  have nb : ((cellI ns k + 104729 * ((k : Int) + 1)) % 4294967291).natAbs < 2 ^ 64 := by omega
  simp at nb
  simp [Fmix, fmix, bodyF_ap, Fcell_eq, s1, s2, nb, mixI]
theorem Fdraw_eq (ns : List Int) (xs : List Dt) (m : Int) (hm : 0 < m) (hk : xs.length < 999999) : Fdraw [.scr ns, .ls true xs, .d (.int m)] = .ok (.d (.int (drw ns (xs.length + 1) m))) [none, some (.ls true (xs ++ [.int 0])), none] := by
  have hk' : xs.length < 1000000 := by omega
  have q := Fmix_eq ns (xs.length + 1)
  simp at q
  simp [Fdraw, fdraw, bodyF_ap, appD, lenA, q, hm, hk', drw]
end G8
namespace G8
open PySem L2
/-! more of what the parts do -/
@[simp] theorem int1_i (i : Int) : int1 [.int i] = some i := rfl
@[simp] theorem int2_i (i j : Int) : int2 [.int i, .int j] = some (i, j) := rfl
@[simp] theorem int3_i (i j k : Int) : int3 [.int i, .int j, .int k] = some (i, j, k) := rfl
@[simp] theorem mulD_l (xs : List Dt) (k : Int) : mulD (.list xs) (.int k) = if mid k && decide (k ≤ 1000) && decide (xs.length ≤ 1000) then some (.l (List.replicate k.toNat xs).flatten) else none := rfl
@[simp] theorem seqOf_l (xs : List Dt) : seqOf (.list xs) = some xs := rfl
@[simp] theorem tupOf_t (xs : List Dt) : tupOf (.tuple xs) = some xs := rfl
@[simp] theorem lenA_d (ρ : Ev) (x : Dt) : lenA ρ (.d x) = lenD x := rfl
@[simp] theorem lenA_s (ρ : Ev) (i : Nat) : lenA ρ (.s i) = (match ρ[i]? with
    | some (some (.d x)) => lenD x
    | some (some (.ls _ xs)) => some xs.length
    | some (some (.dk _ xs)) => some xs.length
    | some (some (.scr ns)) => some ns.length
    | _ => none) := rfl
@[simp] theorem lenD_l (xs : List Dt) : lenD (.list xs) = some xs.length := rfl
@[simp] theorem lenD_t (xs : List Dt) : lenD (.tuple xs) = some xs.length := rfl
@[simp] theorem nonA_d (ρ : Ev) (x : Dt) : nonA ρ (.d x) = some (isNone x) := rfl
@[simp] theorem nonA_s (ρ : Ev) (i : Nat) : nonA ρ (.s i) = (match ρ[i]? with
    | some (some (.d x)) => some (isNone x)
    | some (some _) => some false
    | _ => none) := rfl
@[simp] theorem isNone_n : isNone .none = true := rfl
@[simp] theorem isNone_i (i : Int) : isNone (.int i) = false := rfl
@[simp] theorem isNone_b (i : Bool) : isNone (.bool i) = false := rfl
@[simp] theorem isNone_s (i : Str) : isNone (.str i) = false := rfl
@[simp] theorem isNone_l (i : List Dt) : isNone (.list i) = false := rfl
@[simp] theorem isNone_t (i : List Dt) : isNone (.tuple i) = false := rfl
@[simp] theorem two2_i (g : Int → Int → Int) (i j : Int) : two2 g [.int i, .int j] = some (.d (.int (g i j))) := rfl
@[simp] theorem truth_b (i : Bool) : truth (.bool i) = some i := rfl
@[simp] theorem slotT_d (x : Dt) : slotT (some (some (.d x))) = truth x := rfl
@[simp] theorem isL_l (xs : List Dt) : isL (.list xs) = some () := rfl
/-! loops -/
@[simp] theorem slots_one (i : Nat) : (Tgt.one i).slots = [i] := rfl
@[simp] theorem slots_tup (is : List Nat) : (Tgt.tup is).slots = is := rfl
@[simp] theorem anyOwn_nil (ρ : Ev) : anyOwn ρ [] = false := rfl
@[simp] theorem anyOwn_cons (ρ : Ev) (i : Nat) (is : List Nat) : anyOwn ρ (i :: is) = (ownAt ρ[i]? || anyOwn ρ is) := by simp [anyOwn]
@[simp] theorem wipeE_nil (ρ : Ev) : wipeE ρ [] = ρ := rfl
@[simp] theorem wipeE_cons (ρ : Ev) (i : Nat) (is : List Nat) : wipeE ρ (i :: is) = (wipeE ρ is).set i none := rfl
@[simp] theorem backE_nil (ρ ρ' : Ev) : backE ρ ρ' [] = ρ' := rfl
@[simp] theorem backE_cons (ρ ρ' : Ev) (i : Nat) (is : List Nat) : backE ρ ρ' (i :: is) = (backE ρ ρ' is).set i ((ρ[i]?).getD none) := rfl
theorem stepL_ap (t : Tgt) (ft : M Bool) (fe : M Av) (d : Dt) (ρ : Ev) : stepL t ft fe d ρ = if anyOwn ρ t.slots then .bad else (match putT t d (wipeE ρ t.slots) with
  | .ok _ ρ1 => (match ft ρ1 with
    | .ok true ρ2 => (match fe ρ2 with
      | .ok a ρ3 => (match fzv ρ3 a with
        | some x => .ok (some x) (backE ρ ρ3 t.slots)
        | none => .bad)
      | _ => .bad)
    | .ok false ρ2 => .ok none (backE ρ ρ2 t.slots)
    | _ => .bad)
  | _ => .bad) := rfl
theorem compL_cons (t : Tgt) (ft : M Bool) (fe : M Av) (d : Dt) (ds acc : List Dt) (ρ : Ev) : compL t ft fe (d :: ds) acc ρ = (match stepL t ft fe d ρ with
  | .ok (some x) ρ' => if acc.length < 1000000 then compL t ft fe ds (acc ++ [x]) ρ' else .bad
  | .ok none ρ' => compL t ft fe ds acc ρ'
  | .err k ρ' => .err k ρ'
  | .bad => .bad) := by
  show bindM (stepL t ft fe d) _ ρ = _
  rw [bindM_ap]
  cases stepL t ft fe d ρ with
  | err k ρ' => rfl
  | bad => rfl
  | ok o ρ' =>
    cases o with
    | none => rfl
    | some x => dsimp only; split <;> rfl
/-- the items of a comprehension, one by one, with a state -/
def collect {α : Type} (step : α → Dt → Option Dt × α) : List Dt → α → List Dt × α
  | [], a => ([], a)
  | d :: ds, a => let r := collect step ds (step a d).2
    (match (step a d).1 with
      | some x => x :: r.1
      | none => r.1, r.2)
theorem compL_st {α : Type} {t : Tgt} {ft : M Bool} {fe : M Av} (E : α → Ev) (step : α → Dt → Option Dt × α) (I : α → Prop) : ∀ (ds acc : List Dt) (a : α), I a → acc.length + ds.length ≤ 1000000 →
    (∀ a d, I a → d ∈ ds → stepL t ft fe d (E a) = .ok (step a d).1 (E (step a d).2) ∧ I (step a d).2) → compL t ft fe ds acc (E a) = .ok (acc ++ (collect step ds a).1) (E (collect step ds a).2)
  | [], acc, a, _, _, _ => by simp [collect]
  | d :: ds, acc, a, hI, hl, h => by
    obtain ⟨h1, h2⟩ := h a d hI (List.mem_cons_self ..)
    rw [compL_cons, h1]
    cases e : (step a d).1 with
    | none =>
      dsimp only
      rw [compL_st E step I ds acc _ h2 (by simp at hl; omega) fun a' d' i m => h a' d' i (List.mem_cons_of_mem _ m)]
      simp [collect, e]
    | some x =>
      dsimp only
      rw [if_pos (by simp at hl; omega), compL_st E step I ds _ _ h2 (by simp at hl ⊢; omega) fun a' d' i m => h a' d' i (List.mem_cons_of_mem _ m)]
      simp [collect, e]
/-- with no state -/
theorem compL_fm {t : Tgt} {ft : M Bool} {fe : M Av} {ρ : Ev} (g : Dt → Option Dt) : ∀ (ds acc : List Dt), acc.length + ds.length ≤ 1000000 →
    (∀ d, d ∈ ds → stepL t ft fe d ρ = .ok (g d) ρ) → compL t ft fe ds acc ρ = .ok (acc ++ ds.filterMap g) ρ
  | [], acc, _, _ => by simp
  | d :: ds, acc, hl, h => by
    rw [compL_cons, h d (List.mem_cons_self ..)]
    cases e : g d with
    | none =>
      dsimp only
      rw [compL_fm g ds acc (by simp at hl; omega) fun d' m => h d' (List.mem_cons_of_mem _ m)]
      simp [e]
    | some x =>
      dsimp only
      rw [if_pos (by simp at hl; omega), compL_fm g ds _ (by simp at hl ⊢; omega) fun d' m => h d' (List.mem_cons_of_mem _ m)]
      simp [e]
theorem compL_map {α : Type} {t : Tgt} {ft : M Bool} {fe : M Av} {ρ : Ev} (c : α → Dt) (g : α → Dt) (xs : List α) (hl : xs.length ≤ 1000000)
    (h : ∀ x, x ∈ xs → stepL t ft fe (c x) ρ = .ok (some (g x)) ρ) : compL t ft fe (xs.map c) [] ρ = .ok (xs.map g) ρ := by
  have key : ∀ (xs : List α) (acc : List Dt), acc.length + xs.length ≤ 1000000 → (∀ x, x ∈ xs → stepL t ft fe (c x) ρ = .ok (some (g x)) ρ) → compL t ft fe (xs.map c) acc ρ = .ok (acc ++ xs.map g) ρ := by
    intro xs
    induction xs with
    | nil => intro acc _ _; simp
    | cons x xs ih =>
      intro acc hl h
      rw [List.map_cons, compL_cons, h x (List.mem_cons_self ..)]
      dsimp only
      rw [if_pos (by simp at hl; omega), ih _ (by simp at hl ⊢; omega) fun y m => h y (List.mem_cons_of_mem _ m)]
      simp
  simpa using key xs [] (by simpa using hl) h
/-- a part of the items, each by its own worth -/
theorem compL_fmap {α : Type} {t : Tgt} {ft : M Bool} {fe : M Av} {ρ : Ev} (c : α → Dt) (g : α → Option Dt) (xs : List α) (hl : xs.length ≤ 1000000)
    (h : ∀ x, x ∈ xs → stepL t ft fe (c x) ρ = .ok (g x) ρ) : compL t ft fe (xs.map c) [] ρ = .ok (xs.filterMap g) ρ := by
  have key : ∀ (xs : List α) (acc : List Dt), acc.length + xs.length ≤ 1000000 → (∀ x, x ∈ xs → stepL t ft fe (c x) ρ = .ok (g x) ρ) → compL t ft fe (xs.map c) acc ρ = .ok (acc ++ xs.filterMap g) ρ := by
    intro xs
    induction xs with
    | nil => intro acc _ _; simp
    | cons x xs ih =>
      intro acc hl h
      rw [List.map_cons, compL_cons, h x (List.mem_cons_self ..)]
      cases e : g x with
      | none =>
        dsimp only
        rw [ih _ (by simp at hl ⊢; omega) fun y m => h y (List.mem_cons_of_mem _ m)]
        simp [e]
      | some z =>
        dsimp only
        rw [if_pos (by simp at hl; omega), ih _ (by simp at hl ⊢; omega) fun y m => h y (List.mem_cons_of_mem _ m)]
        simp [e]
  simpa using key xs [] (by simpa using hl) h
theorem forL_cons (t : Tgt) (body : M Fl) (d : Dt) (ds : List Dt) (ρ : Ev) : forL t body (d :: ds) ρ = (match putT t d ρ with
    | .ok _ ρ1 => (match body ρ1 with
      | .ok .nx ρ2 => forL t body ds ρ2
      | .ok .ct ρ2 => forL t body ds ρ2
      | .ok .bk ρ2 => .ok .nx ρ2
      | o => o)
    | _ => .bad) := rfl
/-- one round of a loop -/
def roundM (t : Tgt) (body : M Fl) (d : Dt) : M Fl := fun ρ => match putT t d ρ with
    | .ok _ ρ1 => body ρ1
    | _ => .bad
theorem roundM_ap (t : Tgt) (body : M Fl) (d : Dt) (ρ : Ev) : roundM t body d ρ = (match putT t d ρ with
    | .ok _ ρ1 => body ρ1
    | _ => .bad) := rfl
theorem forL_round (t : Tgt) (body : M Fl) (d : Dt) (ds : List Dt) (ρ : Ev) : forL t body (d :: ds) ρ = (match roundM t body d ρ with
      | .ok .nx ρ2 => forL t body ds ρ2
      | .ok .ct ρ2 => forL t body ds ρ2
      | .ok .bk ρ2 => .ok .nx ρ2
      | o => o) := by
  rw [forL_cons, roundM_ap]
  cases putT t d ρ with
  | ok u ρ1 => rfl
  | err k ρ1 => rfl
  | bad => rfl
/-- a loop through, with a state -/
theorem forL_st {α β : Type} {t : Tgt} {body : M Fl} (c : β → Dt) (E : α → Ev) (step : α → β → α) (I : α → Prop) : ∀ (xs : List β) (a : α), I a →
    (∀ a x, I a → x ∈ xs → (roundM t body (c x) (E a) = .ok .nx (E (step a x)) ∨ roundM t body (c x) (E a) = .ok .ct (E (step a x))) ∧ I (step a x)) → forL t body (xs.map c) (E a) = .ok .nx (E (xs.foldl step a)) ∧ I (xs.foldl step a)
  | [], a, hI, _ => by simp [hI]
  | x :: xs, a, hI, h => by
    obtain ⟨h1, h2⟩ := h a x hI (List.mem_cons_self ..)
    have h3 := forL_st c E step I xs (step a x) h2 fun a' d' i m => h a' d' i (List.mem_cons_of_mem _ m)
    rcases h1 with h1 | h1 <;> (rw [List.map_cons, forL_round, h1]; exact h3)
/-- a loop through, with an invariant by the number of rounds -/
theorem forL_inv {β : Type} {t : Tgt} {body : M Fl} (c : β → Dt) (P : Nat → Ev → Prop) : ∀ (xs : List β) (n : Nat) (ρ : Ev), P n ρ →
    (∀ i x ρ, xs[i]? = some x → P (n + i) ρ → ∃ ρ', (roundM t body (c x) ρ = .ok .nx ρ' ∨ roundM t body (c x) ρ = .ok .ct ρ') ∧ P (n + i + 1) ρ') → ∃ ρ', forL t body (xs.map c) ρ = .ok .nx ρ' ∧ P (n + xs.length) ρ'
  | [], n, ρ, h, _ => ⟨ρ, rfl, h⟩
  | x :: xs, n, ρ, h, s => by
    obtain ⟨ρ1, h1, h2⟩ := s 0 x ρ rfl h
    obtain ⟨ρ2, h3, h4⟩ := forL_inv c P xs (n + 1) ρ1 h2 fun i y ρ e p => by
      have := s (i + 1) y ρ (by simpa using e) (by rw [show n + (i + 1) = n + 1 + i by omega]; exact p)
      rw [show n + (i + 1) + 1 = n + 1 + i + 1 by omega] at this
      exact this
    refine ⟨ρ2, ?_, by rw [List.length_cons, show n + (xs.length + 1) = n + 1 + xs.length by omega]; exact h4⟩
    rcases h1 with h1 | h1 <;> (rw [List.map_cons, forL_round, h1]; exact h3)
theorem rangeD_eq (lo : Int) (n : Nat) : rangeD lo n = (List.range n).map fun (i : Nat) => PyData.int (lo + (i : Int)) := rfl
theorem rangeD0 (n : Nat) : rangeD 0 n = (List.range n).map fun (i : Nat) => PyData.int (i : Int) := by
  rw [rangeD_eq]
  apply List.map_congr_left
  intro i _
  simp
theorem mid_nat {n : Nat} (h : n < 2 ^ 62) : mid (n : Int) = true := by
  unfold mid
  exact Nat.blt_eq.mpr (by omega)
theorem small_nat {n : Nat} (h : n < 2 ^ 64) : G8.small64 (n : Int) = true := by
  unfold G8.small64
  exact Nat.blt_eq.mpr (by omega)
theorem seqM_assoc (f g h : M Fl) : seqM (seqM f g) h = seqM f (seqM g h) := by
  funext ρ
  simp only [seqM_ap]
  cases f ρ with
  | ok a ρ' => cases a <;> rfl
  | err k ρ' => rfl
  | bad => rfl
theorem seqM_nx {f g : M Fl} {ρ ρ' : Ev} (h : f ρ = .ok .nx ρ') : seqM f g ρ = g ρ' := by
  rw [seqM_ap, h]
theorem bodyF_rt {n : Nat} {f : M Fl} {svs : List Sv} {r : Rv} {ρ : Ev} (h : f (svsE svs ++ List.replicate (n - svs.length) none) = .ok (.rt r) ρ) : bodyF n f svs = .ok r (finE svs ρ) := by
  rw [bodyF_ap, h]
end G8
namespace G8
open PySem L2
/-! data: equality, depth -/
@[simp] theorem eqv_ii (i j : Int) : PyData.eqv (.int i) (.int j) = decide (i = j) := by
  rw [PyData.eqv]
  by_cases h : i = j <;> simp [h]
@[simp] theorem eqv_bb (i j : Bool) : PyData.eqv (.bool i) (.bool j) = (i == j) := by rw [PyData.eqv]
@[simp] theorem eqv_ss (i j : Str) : PyData.eqv (.str i) (.str j) = (i == j) := by rw [PyData.eqv]
@[simp] theorem eqv_nn : PyData.eqv .none .none = true := by rw [PyData.eqv]
@[simp] theorem eqv_ll (i j : List Dt) : PyData.eqv (.list i) (.list j) = PyData.eqvAll i j := by rw [PyData.eqv]
@[simp] theorem eqv_tt (i j : List Dt) : PyData.eqv (.tuple i) (.tuple j) = PyData.eqvAll i j := by rw [PyData.eqv]
@[simp] theorem eqv_in (i : Int) : PyData.eqv (.int i) .none = false := by rw [PyData.eqv]
@[simp] theorem eqv_ni (i : Int) : PyData.eqv .none (.int i) = false := by rw [PyData.eqv]
@[simp] theorem eqv_it (i : Int) (x : List Dt) : PyData.eqv (.int i) (.tuple x) = false := by rw [PyData.eqv]
@[simp] theorem eqv_ti (i : Int) (x : List Dt) : PyData.eqv (.tuple x) (.int i) = false := by rw [PyData.eqv]
@[simp] theorem eqv_lt (i : List Dt) (x : List Dt) : PyData.eqv (.list i) (.tuple x) = false := by rw [PyData.eqv]
@[simp] theorem eqv_tl (i : List Dt) (x : List Dt) : PyData.eqv (.tuple x) (.list i) = false := by rw [PyData.eqv]
@[simp] theorem eqvA_nn : PyData.eqvAll [] [] = true := by rw [PyData.eqvAll]
@[simp] theorem eqvA_cc (x y : Dt) (xs ys : List Dt) : PyData.eqvAll (x :: xs) (y :: ys) = (PyData.eqv x y && PyData.eqvAll xs ys) := by rw [PyData.eqvAll]
@[simp] theorem eqvA_nc (y : Dt) (ys : List Dt) : PyData.eqvAll [] (y :: ys) = false := by rw [PyData.eqvAll]
@[simp] theorem eqvA_cn (y : Dt) (ys : List Dt) : PyData.eqvAll (y :: ys) [] = false := by rw [PyData.eqvAll]
/-- plain data, n deep at most -/
def nice (n : Nat) (x : Dt) : Prop := x.plain = true ∧ x.depth ≤ n
theorem nice_int (n : Nat) (i : Int) : nice n (.int i) := ⟨by rw [PyData.plain], by rw [PyData.depth]; omega⟩
theorem nice_bool (n : Nat) (i : Bool) : nice n (.bool i) := ⟨by rw [PyData.plain], by rw [PyData.depth]; omega⟩
theorem nice_str (n : Nat) (i : Str) : nice n (.str i) := ⟨by rw [PyData.plain], by rw [PyData.depth]; omega⟩
theorem nice_none (n : Nat) : nice n .none := ⟨by rw [PyData.plain], by rw [PyData.depth]; omega⟩
theorem nice_all {n : Nat} : ∀ {xs : List Dt}, (∀ x ∈ xs, nice n x) → PyData.plainAll xs = true ∧ PyData.depthAll xs ≤ n
  | [], _ => ⟨by rw [PyData.plainAll], by rw [PyData.depthAll]; omega⟩
  | x :: xs, h => by
    obtain ⟨h1, h2⟩ := h x (List.mem_cons_self ..)
    obtain ⟨h3, h4⟩ := nice_all fun y hy => h y (List.mem_cons_of_mem _ hy)
    rw [PyData.plainAll, PyData.depthAll, h1, h3]
    exact ⟨rfl, Nat.max_le.mpr ⟨h2, h4⟩⟩
theorem nice_list {n : Nat} {xs : List Dt} (h : ∀ x ∈ xs, nice n x) : nice (n + 1) (.list xs) := by
  obtain ⟨h1, h2⟩ := nice_all h
  exact ⟨by rw [PyData.plain]; exact h1, by rw [PyData.depth]; omega⟩
theorem nice_tuple {n : Nat} {xs : List Dt} (h : ∀ x ∈ xs, nice n x) : nice (n + 1) (.tuple xs) := by
  obtain ⟨h1, h2⟩ := nice_all h
  exact ⟨by rw [PyData.plain]; exact h1, by rw [PyData.depth]; omega⟩
theorem nice_up {n m : Nat} {x : Dt} (h : nice n x) (hm : n ≤ m) : nice m x := ⟨h.1, Nat.le_trans h.2 hm⟩
theorem nice_ints (n : Nat) (xs : List Int) : nice (n + 1) (.list (xs.map PyData.int)) := nice_list fun x hx => by
  obtain ⟨i, _, rfl⟩ := List.mem_map.mp hx
  exact nice_int n i
theorem shal_nice {x : Dt} (h : nice 60 x) : shal x = true := decide_eq_true h.2
theorem shalL_nice {xs : List Dt} (h : ∀ x ∈ xs, nice 60 x) : shalL xs = true := decide_eq_true (nice_all h).2
@[simp] theorem shal_i (i : Int) : shal (.int i) = true := shal_nice (nice_int _ _)
@[simp] theorem shal_b (i : Bool) : shal (.bool i) = true := shal_nice (nice_bool _ _)
@[simp] theorem shal_s (i : Str) : shal (.str i) = true := shal_nice (nice_str _ _)
@[simp] theorem shal_n : shal .none = true := shal_nice (nice_none _)
@[simp] theorem shalL_ints (xs : List Int) : shalL (xs.map PyData.int) = true := shalL_nice fun x hx => by
  obtain ⟨i, _, rfl⟩ := List.mem_map.mp hx
  exact nice_int _ i
theorem eqD_self {x : Dt} (h : nice 60 x) : eqD x x = some true := by
  unfold eqD
  rw [shal_nice h, PySem.SeqAt.eqv_refl_plain x h.1]
  rfl
theorem neD_self {x : Dt} (h : nice 60 x) : neD x x = some false := by
  unfold neD
  rw [shal_nice h, PySem.SeqAt.eqv_refl_plain x h.1]
  rfl
@[simp] theorem eqD_i (i j : Int) : eqD (.int i) (.int j) = some (decide (i = j)) := by simp [eqD]
@[simp] theorem neD_i (i j : Int) : neD (.int i) (.int j) = some (!decide (i = j)) := by simp [neD]
@[simp] theorem eqD_s (i j : Str) : eqD (.str i) (.str j) = some (i == j) := by simp [eqD]
@[simp] theorem neD_s (i j : Str) : neD (.str i) (.str j) = some (!(i == j)) := by simp [neD]
theorem eqvA_ints : ∀ (xs ys : List Int), PyData.eqvAll (xs.map PyData.int) (ys.map PyData.int) = decide (xs = ys)
  | [], [] => by simp
  | [], _ :: _ => by simp
  | _ :: _, [] => by simp
  | x :: xs, y :: ys => by simp [eqvA_ints xs ys, Bool.decide_and]
theorem inD_ints (i : Int) (xs : List Int) : inD (.int i) (.list (xs.map PyData.int)) = some (decide (i ∈ xs)) := by
  show (if shal (.int i) && shalL (xs.map PyData.int) then some ((xs.map PyData.int).any fun z => PyData.eqv z (.int i)) else none) = _
  rw [shal_i, shalL_ints, List.any_map]
  show some _ = some _
  congr 1
  induction xs with
  | nil => rfl
  | cons x xs ih =>
    rw [List.any_cons, ih]
    simp [Bool.decide_or, eq_comm]
theorem ninD_ints (i : Int) (xs : List Int) : ninD (.int i) (.list (xs.map PyData.int)) = some (decide (i ∉ xs)) := by
  unfold ninD
  rw [inD_ints]
  simp
end G8
namespace G8
open PySem L2
/-! sorted, over data -/
def leD : Dt → Dt → Bool := PySem.W.dataLe false id
def isTc : Dt → Bool
  | .tuple (_ :: _) => true
  | _ => false
def noTu : Dt → Bool
  | .tuple _ => false
  | .none => false
  | _ => true
def sortB (xs : List Dt) : Bool := xs.all isTc || xs.all noTu
theorem sortB_of {xs : List Dt} (h : sortB xs = true) : PySem.W.Sortable xs := by
  unfold sortB at h
  rw [Bool.or_eq_true, List.all_eq_true, List.all_eq_true] at h
  rcases h with h | h
  · refine .inl fun d hd => ?_
    have := h d hd
    unfold isTc at this
    split at this
    · exact ⟨_, _, rfl⟩
    · cases this
  · refine .inr fun d hd => ?_
    have := h d hd
    unfold noTu at this
    split at this
    · cases this
    · cases this
    · rename_i h1 h2
      exact ⟨fun e => h2 e, fun xs e => h1 xs e⟩
def alikeA (xs : List Dt) : Bool := xs.all fun x => xs.all fun y => PySem.W.alike x y
theorem alikeA_of {xs : List Dt} (h : alikeA xs = true) : PySem.W.AllAlike xs := by
  unfold alikeA at h
  rw [List.all_eq_true] at h
  exact fun x hx y hy => List.all_eq_true.mp (h x hx) y hy
def sortD : List Dt → Option Rv
  | [.list xs] => if shalL xs && alikeA xs && sortB xs then some (.l (xs.mergeSort leD)) else none
  | _ => none
def rSortD (K : Fg) : List V → Hp → VK → Prop := fun vs H Q => ∃ (a : Addr) (bs : List (V × Dt)), vs = [.ref a] ∧ SqL K H a (bs.map Prod.fst) ∧ DpAll K H (bs.map Prod.fst) (bs.map Prod.snd) ∧ PySem.W.AllAlike (bs.map Prod.snd) ∧ PySem.W.Sortable (bs.map Prod.snd) ∧ PyData.depthAll (bs.map Prod.snd) ≤ 60 ∧
  ∀ p, H p = none → Q (.ref p) (upd H p (.lst ((bs.mergeSort (PySem.W.dataLe false Prod.snd)).map Prod.fst)))
theorem depthAll_mem : ∀ {xs : List Dt} {d : Dt}, d ∈ xs → d.depth ≤ PyData.depthAll xs
  | x :: xs, d, h => by
    rw [PyData.depthAll]
    rcases List.mem_cons.mp h with e | e
    · rw [e]; exact Nat.le_max_left _ _
    · exact Nat.le_trans (depthAll_mem e) (Nat.le_max_right _ _)
theorem vals_each : ∀ {bs : List (V × Dt)} {us : List Value}, Vals (bs.map Prod.fst) us → PySem.W.EachIs (fun v (b : V × Dt) => RelV b.1 v) us bs
  | [], _, h => by cases h; exact .nil
  | b :: bs, _, h => by
    cases h with
    | cons h1 h2 => exact .cons h1 (vals_each h2)
theorem each_vals : ∀ {bs : List (V × Dt)} {us : List Value}, PySem.W.EachIs (fun v (b : V × Dt) => RelV b.1 v) us bs → Vals (bs.map Prod.fst) us
  | [], _, h => by cases h; exact .nil
  | b :: bs, _, h => by
    cases h with
    | cons h1 h2 => exact .cons h1 (each_vals h2)
section
variable {X : Cx}
theorem c_sortD (hu : X.A.units + 64 < cLine) : CallR X (.builtin "sorted") (rSortD X.K) := by
  intro pins s σ H vs us Q I r h
  obtain ⟨a, bs, rfl, h1, h2, h3, h4, h5, q⟩ := h
  obtain ⟨its, rv, hl, hz⟩ := I.list h1
  rw [Vals.ref1 r]
  obtain ⟨as, rs⟩ := Dp.readsAll I _ _ its h2 rv
  refine PySem.W.sorted_data (R := fun v (b : V × Dt) => RelV b.1 v) (enc := Prod.snd) (bs := bs) hl.isList (vals_each rv) (PySem.W.readsAll_each Prod.snd rs) h3 h4 (by rw [List.length_map] at hz; exact hz) (fun b hb => by
    have := depthAll_mem (List.mem_map_of_mem (f := Prod.snd) hb)
    omega) fun out h6 h7 => ?_
  obtain ⟨ep, he'⟩ := PyProof.Rows.sortedAll_at s.heap its out.toArray
  have hlen : ((bs.mergeSort (PySem.W.dataLe false Prod.snd)).map Prod.fst).length ≤ sizeLine := by
    rw [List.length_map, List.length_mergeSort]
    rw [List.length_map] at hz
    exact hz
  exact ⟨.ref _, upd H (s.heap.objs.size + 1) (.lst ((bs.mergeSort (PySem.W.dataLe false Prod.snd)).map Prod.fst)), I.laid (t' := s.toks) (fun _ _ => PyProof.Rows.sortedAll_old) (Nat.le_succ _) ⟨hlen, out, ep, each_vals h7, he'⟩, rfl, q _ (I.hok.fresh (Nat.le_succ _))⟩
end
theorem Rps.zip {K : Fg} {G : Hp} : ∀ {vs : List V} {ds : List Dt}, Rps K G vs ds → ∃ bs : List (V × Dt), bs.map Prod.fst = vs ∧ bs.map Prod.snd = ds ∧ ∀ b ∈ bs, Rp K G b.1 b.2
  | [], _, h => by cases h; exact ⟨[], rfl, rfl, fun b hb => by cases hb⟩
  | v :: vs, _, h => by
    cases h with
    | cons h1 h2 =>
      obtain ⟨bs, e1, e2, e3⟩ := Rps.zip h2
      refine ⟨(v, _) :: bs, by rw [List.map_cons, e1], by rw [List.map_cons, e2], fun b hb => ?_⟩
      rcases List.mem_cons.mp hb with e | e
      · rw [e]; exact h1
      · exact e3 b e
theorem Rps.unzip {K : Fg} {G : Hp} : ∀ {bs : List (V × Dt)}, (∀ b ∈ bs, Rp K G b.1 b.2) → Rps K G (bs.map Prod.fst) (bs.map Prod.snd)
  | [], _ => .nil
  | b :: bs, h => .cons (h b (List.mem_cons_self ..)) (Rps.unzip fun c hc => h c (List.mem_cons_of_mem _ hc))
theorem d_sort {b : Bs} : DoesN b (rSortD b.K) sortD := fun {c G H ρ σ xs ds z Q} S hx e q => by
  unfold sortD at e
  split at e
  · rename_i xs'
    split at e
    · rename_i hs
      cases e
      rw [Bool.and_eq_true, Bool.and_eq_true] at hs
      obtain ⟨v, rfl, h1⟩ := ros1 hx
      obtain ⟨p, vs, rfl, r1, r2⟩ := h1.list S.gh
      obtain ⟨bs, rfl, rfl, h3⟩ := r2.zip
      refine ⟨p, bs, rfl, SqL.of r1, Rps.dp _ _ (Rps.monoG S.gh _ _ r2), alikeA_of hs.1.2, sortB_of hs.2, shL_of hs.1.1, fun l hl => ?_⟩
      have em : ((bs.mergeSort (PySem.W.dataLe false Prod.snd)).map Prod.snd) = (bs.map Prod.snd).mergeSort leD := List.map_mergeSort fun a _ b _ => rfl
      have r3 : Rps b.K G ((bs.mergeSort (PySem.W.dataLe false Prod.snd)).map Prod.fst) ((bs.map Prod.snd).mergeSort leD) := by
        rw [← em]
        exact Rps.unzip fun c hc => h3 c (List.mem_mergeSort.mp hc)
      exact fin_l S q hl r3
    · cases e
  · cases e
section
variable {X : Cx} {b : Bs} {W : WX} {e : Expr} {fl : M (List Av)} {p pos : Pos}
theorem m_sorted (hK : X.K = b.K) (hu : X.A.units + 64 < cLine) (hg : Gl X "sorted") (hm : X.mg "sorted" = none) (ha : PA X [e] (tL b W fl)) (hs : starEach [e] X.env = (false, eval e X.env) :: starEach [] X.env := by rfl) : PE X (.Call (.Name "sorted" p) [e] [] pos) (tV b W (biM sortD fl)) :=
  m_bi (c_sortD hu) (by rw [hK]; exact d_sort) hg hm (by decide +kernel) ha (by decide) (by decide) hs
end
/-! tuples of ints, one before the other -/
def ltT (x y : Dt) : Option Bool := match x, y with
  | .tuple xs, .tuple ys => (intsOf xs).bind fun ns => (intsOf ys).map fun ms => HT.lexLt ns ms
  | _, _ => none
theorem rps_ints {K : Fg} {G : Hp} : ∀ {vs : List V} {ns : List Int}, Rps K G vs (ns.map PyData.int) → vs = ns.map V.int
  | _, [], h => by cases h; rfl
  | _, n :: ns, h => by
    cases h with
    | cons h1 h2 =>
      cases h1
      rw [rps_ints h2]
      rfl
theorem t_ltT {b : Bs} : Tells b (rLtT b.K) ltT := fun {c G H ρ σ x y dx dy z Q} S hx hy e q => by
  unfold ltT at e
  split at e
  · rename_i xs ys
    cases h1 : intsOf xs with
    | none => rw [h1] at e; cases e
    | some ns =>
      cases h2 : intsOf ys with
      | none => rw [h1, h2] at e; cases e
      | some ms =>
        rw [h1, h2] at e
        cases e
        rw [intsOf_of h1] at hx
        rw [intsOf_of h2] at hy
        obtain ⟨p, vs, rfl, r1, r2⟩ := hx.tup
        obtain ⟨p', vs', rfl, r1', r2'⟩ := hy.tup
        rw [rps_ints r2] at r1
        rw [rps_ints r2'] at r1'
        exact ⟨p, p', ns, ms, rfl, rfl, same_sqT S.gh r1, same_sqT S.gh r1', q⟩
  · cases e
theorem units0 {u : Nat} (h : u + 64 < cLine) : u < cLine := by omega
/-! list(range(..)) -/
def lrg1 (f : M Av) : M Rv := bindM f fun a => optM fun ρ => match res ρ a with
  | some (.int j) => if mid j && Nat.ble j.toNat 1000000 then some (.l (rangeD 0 j.toNat)) else none
  | _ => none
def lrg2 (f g : M Av) : M Rv := bindM f fun a => bindM g fun b => optM fun ρ => match res ρ a, res ρ b with
  | some (.int i), some (.int j) => if mid i && mid j && Nat.ble (j - i).toNat 1000000 then some (.l (rangeD i (j - i).toNat)) else none
  | _, _ => none
theorem rps_range {K : Fg} {G : Hp} (f : Nat → Int) : ∀ l : List Nat, Rps K G (l.map fun i => V.int (f i)) (l.map fun i => PyData.int (f i))
  | [] => .nil
  | x :: l => .cons (.int _) (rps_range f l)
section
variable {X : Cx} {b : Bs} {W : WX} {e e2 : Expr} {fa fb : M Av} {p pos p2 pos2 : Pos}
theorem m_listRange1 (hc : X.calm = true) (hg : Gl X "list") (hm : X.mg "list" = none) (hg2 : Gl X "range") (hm2 : X.mg "range" = none) (ha : PE X e (tE b W fa)) (na : starEach [e] X.env = (false, eval e X.env) :: starEach [] X.env := by rfl)
    (na2 : starEach [.Call (.Name "range" p2) [e] [] pos2] X.env = (false, eval (.Call (.Name "range" p2) [e] [] pos2) X.env) :: starEach [] X.env := by rfl) : PE X (.Call (.Name "list" p) [.Call (.Name "range" p2) [e] [] pos2] [] pos) (tV b W (lrg1 fa)) :=
  weakE (pe_listRg hc hg hm (prg_1 hg2 hm2 ha na) na2) fun σ H Q ⟨c, G, ρ, S, q⟩ => ⟨c, G, ρ, S, (Post.bind q).imp fun a ρ1 G1 H1 e1 S1 q1 v hv => by
    unfold optM at q1
    split at q1
    · rename_i z hz
      dsimp only at hz
      split at hz
      · rename_i j hj
        split at hz
        · rename_i hl
          cases hz
          rw [Bool.and_eq_true] at hl
          obtain ⟨l1, l2⟩ := hl
          have l1 := mid_of l1
          have l2 := Nat.le_of_ble_eq_true l2
          refine ⟨j, (hv.res S1 hj).int, ⟨by omega, by omega, l1.1, l1.2, by rw [Int.sub_zero]; omega⟩, fun l hl => ?_⟩
          unfold rgV
          rw [Int.sub_zero]
          exact fin_l S1 (fun v H' G' e2 S2 rn ap => q1 H' G' e2 S2 v rn ap) hl (rps_range (fun i : Nat => (0 : Int) + (i : Int)) _)
        · cases hz
      · cases hz
    · exact q1.elim⟩
theorem m_listRange2 (hc : X.calm = true) (hg : Gl X "list") (hm : X.mg "list" = none) (hg2 : Gl X "range") (hm2 : X.mg "range" = none) (ha : PE X e (tE b W fa)) (hb : PE X e2 (tE b W fb)) (na : starEach [e, e2] X.env = (false, eval e X.env) :: starEach [e2] X.env := by rfl)
    (nb : starEach [e2] X.env = (false, eval e2 X.env) :: starEach [] X.env := by rfl) (hp : (backTo pos2 (starEach [e2] X.env)).any (·.1) = false := by rfl)
    (na2 : starEach [.Call (.Name "range" p2) [e, e2] [] pos2] X.env = (false, eval (.Call (.Name "range" p2) [e, e2] [] pos2) X.env) :: starEach [] X.env := by rfl) : PE X (.Call (.Name "list" p) [.Call (.Name "range" p2) [e, e2] [] pos2] [] pos) (tV b W (lrg2 fa fb)) :=
  weakE (pe_listRg hc hg hm (prg_2 hg2 hm2 ha hb na nb hp) na2) fun σ H Q ⟨c, G, ρ, S, q⟩ => ⟨c, G, ρ, S, (Post.bind q).imp fun a ρ1 G1 H1 e1 S1 q1 v hv => ⟨c, G1, ρ1, S1, (Post.bind q1).imp fun a2 ρ2 G2 H2 e2 S2 q2 u hu => by
    unfold optM at q2
    split at q2
    · rename_i z hz
      dsimp only at hz
      split at hz
      · rename_i i j hi hj
        split at hz
        · rename_i hl
          cases hz
          rw [Bool.and_eq_true, Bool.and_eq_true] at hl
          obtain ⟨⟨l0, l1⟩, l2⟩ := hl
          have l0 := mid_of l0
          have l1 := mid_of l1
          have l2 := Nat.le_of_ble_eq_true l2
          refine ⟨i, j, ((hv.mono e2).res S2 hi).int, (hu.res S2 hj).int, ⟨l0.1, l0.2, l1.1, l1.2, by omega⟩, fun l hl => ?_⟩
          unfold rgV
          exact fin_l S2 (fun v H' G' e2 S2 rn ap => q2 H' G' e2 S2 v rn ap) hl (rps_range (fun k : Nat => i + (k : Int)) _)
        · cases hz
      · cases hz
    · exact q2.elim⟩⟩
end
/-! xs[::-1] -/
def revD : Dt → Option Rv
  | .list xs => some (.l xs.reverse)
  | _ => none
def revM (f : M Av) : M Rv := un1 revD f
theorem Rps.reverse {K : Fg} {G : Hp} {vs : List V} {ds : List Dt} (h : Rps K G vs ds) : Rps K G vs.reverse ds.reverse := by
  obtain ⟨bs, rfl, rfl, h3⟩ := h.zip
  rw [← List.map_reverse, ← List.map_reverse]
  exact Rps.unzip fun c hc => h3 c (List.mem_reverse.mp hc)
section
variable {X : Cx} {b : Bs} {W : WX} {e : Expr} {fa : M Av} {k : Nat} {p1 p2 p3 pos : Pos}
theorem m_rev (hK : X.K = b.K) (ha : PE X e (tE b W fa)) : PE X (.Subscript e (.Slice none none (some (.UnaryOp .USub (.Constant (.int 1) k p1) p2)) p3) pos) (tV b W (revM fa)) :=
  weakE (pe_revL ha) fun σ H Q ⟨c, G, ρ, S, q⟩ => ⟨c, G, ρ, S, (Post.bind q).imp fun a ρ1 G1 H1 e1 S1 q1 v hv => by
    unfold optM at q1
    split at q1
    · rename_i z hz
      dsimp only at hz
      cases hx : res ρ1 a with
      | none => rw [hx] at hz; cases hz
      | some x =>
        rw [hx] at hz
        cases x with
        | list xs =>
          cases hz
          obtain ⟨p, vs, rfl, r1, r2⟩ := (hv.res S1 hx).list S1.gh
          exact ⟨p, vs, rfl, by rw [hK]; exact SqL.of r1, fun l hl => fin_l S1 (fun v H' G' e2 S2 rn ap => q1 H' G' e2 S2 v rn ap) hl r2.reverse⟩
        | _ => cases hz
    · exact q1.elim⟩
end
theorem sl_any {X : Cx} : SlR X (rSlD X.K) := SlR.or sl_list sl_str
/-! what these do -/
@[simp] theorem ltT_t (xs ys : List Dt) : ltT (.tuple xs) (.tuple ys) = (intsOf xs).bind fun ns => (intsOf ys).map fun ms => HT.lexLt ns ms := rfl
@[simp] theorem revM_ap (f : M Av) (ρ : Ev) : revM f ρ = un1 revD f ρ := rfl
@[simp] theorem revD_l (xs : List Dt) : revD (.list xs) = some (.l xs.reverse) := rfl
@[simp] theorem lrg1_ap (f : M Av) (ρ : Ev) : lrg1 f ρ = bindM f (fun a => optM fun ρ => match res ρ a with
  | some (.int j) => if mid j && Nat.ble j.toNat 1000000 then some (.l (rangeD 0 j.toNat)) else none
  | _ => none) ρ := rfl
@[simp] theorem lrg2_ap (f g : M Av) (ρ : Ev) : lrg2 f g ρ = bindM f (fun a => bindM g fun b => optM fun ρ => match res ρ a, res ρ b with
  | some (.int i), some (.int j) => if mid i && mid j && Nat.ble (j - i).toNat 1000000 then some (.l (rangeD i (j - i).toNat)) else none
  | _, _ => none) ρ := rfl
end G8
namespace G8
open PySem L2
/-! dicts: a slot's own, or locked -/
def keyD : Key → Dt
  | .inl i => .int i
  | .inr x => .str x
theorem rp_key {K : Fg} {G : Hp} (k : Key) : Rp K G (kV k) (keyD k) := by
  cases k with
  | inl i => exact .int i
  | inr x => exact .str x
def dkey : Dt → Option Key
  | .int i => some (.inl i)
  | .str x => some (.inr x)
  | _ => none
theorem dkey_of {x : Dt} {k : Key} (h : dkey x = some k) : x = keyD k := by
  cases x <;> first | (cases h; rfl) | cases h
theorem rp_kV {K : Fg} {G : Hp} {v : V} {k : Key} (h : Rp K G v (keyD k)) : v = kV k := by
  cases k with
  | inl i => cases h; rfl
  | inr x => cases h; rfl
/-- the dict in a slot -/
def slotK : Option (Option Sv) → Option (List (Key × Dt))
  | some (some (.dk _ kvs)) => some kvs
  | some (some (.fk kvs)) => some kvs
  | _ => none
theorem slot_rd {b : Bs} {c : Fc} {G H : Hp} {ρ : Ev} {σ : St} {i : Nat} {kvs : List (Key × Dt)} {v : V} (S : SIG b c G ρ σ H) (h : σ[i]? = some (some v)) (e : slotK ρ[i]? = some kvs) : ∃ p vs, v = .ref p ∧ Rd H p (.dK vs) ∧ RpK b.K G vs kvs := by
  unfold slotK at e
  split at e
  · rename_i r ks q
    cases e
    obtain ⟨u, hu, p, vs, e1, e2, e3, e4⟩ := S.sl i _ q
    rw [h] at hu
    cases hu
    exact ⟨p, vs, e1, .inl e2, e4⟩
  · rename_i ks q
    cases e
    obtain ⟨u, hu, p, od, vs, e1, e2, e3⟩ := S.sl i _ q
    rw [h] at hu
    cases hu
    exact ⟨p, vs, e1, .inr ⟨od, S.gh _ _ e2 rfl⟩, e3⟩
  · cases e
theorem ro_key {K : Fg} {G H : Hp} {v : V} {x : Dt} {k : Key} (h : RO K G H v x) (e : dkey x = some k) : v = kV k := by
  have := dkey_of e
  subst this
  cases k with
  | inl i => exact RO.int h
  | inr s => exact RO.str h
def kGet (kvs : List (Key × Dt)) (k : Key) : Option Dt := (kvs.find? fun kv => decide (kv.1 = k)).map (·.2)
def kPut (kvs : List (Key × Dt)) (k : Key) (d : Dt) : List (Key × Dt) := if (kvs.any fun kv => decide (kv.1 = k)) = true then kvs.map (fun kv => if kv.1 = k then (kv.1, d) else kv) else kvs ++ [(k, d)]
def kDrop (kvs : List (Key × Dt)) (k : Key) : List (Key × Dt) := kvs.filter fun kv => decide (kv.1 ≠ k)
section
variable {K : Fg} {G : Hp} {vs : List (Key × V)} {kvs : List (Key × Dt)} {k : Key}
theorem rk_get (h : RpK K G vs kvs) (k : Key) : (valV vs k = none ∧ kGet kvs k = none) ∨ ∃ v d, valV vs k = some v ∧ kGet kvs k = some d ∧ Rp K G v d := by
  unfold RpK at h
  induction h with
  | nil => exact .inl ⟨rfl, rfl⟩
  | @cons p q ps qs r t ih =>
    by_cases e : p.1 = k
    · have e2 : q.1 = k := by rw [← r.1]; exact e
      exact .inr ⟨p.2, q.2, valV_pos e, by simp [kGet, e2], r.2⟩
    · have e2 : ¬ q.1 = k := by rw [← r.1]; exact e
      rw [valV_neg e, show kGet (q :: qs) k = kGet qs k by simp [kGet, e2]]
      exact ih
theorem rk_any (h : RpK K G vs kvs) (k : Key) : (vs.any fun kv => decide (kv.1 = k)) = (kvs.any fun kv => decide (kv.1 = k)) := by
  unfold RpK at h
  induction h with
  | nil => rfl
  | @cons p q ps qs r t ih => rw [List.any_cons, List.any_cons, ih, r.1]
theorem rk_append {vs2 : List (Key × V)} {kvs2 : List (Key × Dt)} (h : RpK K G vs kvs) (h2 : RpK K G vs2 kvs2) : RpK K G (vs ++ vs2) (kvs ++ kvs2) := by
  unfold RpK at *
  induction h with
  | nil => exact h2
  | @cons p q ps qs r t ih => exact .cons r ih
theorem rk_map (h : RpK K G vs kvs) (k : Key) {v : V} {d : Dt} (r : Rp K G v d) : RpK K G (vs.map fun kv => if kv.1 = k then (kv.1, v) else kv) (kvs.map fun kv => if kv.1 = k then (kv.1, d) else kv) := by
  unfold RpK at *
  induction h with
  | nil => exact .nil
  | @cons p q ps qs rr t ih =>
    refine .cons ?_ ih
    by_cases e : p.1 = k
    · have e2 : q.1 = k := by rw [← rr.1]; exact e
      dsimp only
      rw [if_pos e, if_pos e2]
      exact ⟨rr.1, r⟩
    · have e2 : ¬ q.1 = k := by rw [← rr.1]; exact e
      dsimp only
      rw [if_neg e, if_neg e2]
      exact rr
theorem rk_put (h : RpK K G vs kvs) (k : Key) {v : V} {d : Dt} (r : Rp K G v d) : RpK K G (L2.putK vs k v) (kPut kvs k d) := by
  unfold L2.putK kPut
  rw [rk_any h k]
  split
  · exact rk_map h k r
  · exact rk_append h (.cons ⟨rfl, r⟩ .nil)
theorem rk_drop (h : RpK K G vs kvs) (k : Key) : RpK K G (dropK vs k) (kDrop kvs k) := by
  unfold RpK at *
  induction h with
  | nil => exact .nil
  | @cons p q ps qs rr t ih =>
    unfold dropK kDrop at *
    by_cases e : p.1 = k
    · have e2 : q.1 = k := by rw [← rr.1]; exact e
      rw [List.filter_cons_of_neg (by simp [e]), List.filter_cons_of_neg (by simp [e2])]
      exact ih
    · have e2 : ¬ q.1 = k := by rw [← rr.1]; exact e
      rw [List.filter_cons_of_pos (by simp [e]), List.filter_cons_of_pos (by simp [e2])]
      exact .cons rr ih
theorem rk_len (h : RpK K G vs kvs) : vs.length = kvs.length := Paired.length h
theorem rk_keys (h : RpK K G vs kvs) : vs.map (·.1) = kvs.map (·.1) := by
  unfold RpK at h
  induction h with
  | nil => rfl
  | @cons p q ps qs rr t ih => rw [List.map_cons, List.map_cons, ih, rr.1]
end
def inK (n : Bool) (i : Nat) (fa : M Av) : M Av := bindM fa fun a => optM fun ρ => (slotK ρ[i]?).bind fun kvs => ((res ρ a).bind dkey).map fun k => .d (.bool (if n then !(kGet kvs k).isSome else (kGet kvs k).isSome))
def getK (i : Nat) (fb : M Av) : M Av := bindM (varM i) fun _ => bindM fb fun a => optM fun ρ => (slotK ρ[i]?).bind fun kvs => ((res ρ a).bind dkey).bind fun k => (kGet kvs k).map Av.d
section
variable {X : Cx} {b : Bs} {W : WX} {a : Expr} {fa : M Av} {x : Str} {pn pos : Pos}
theorem get_core {c : Fc} {G H : Hp} {ρ : Ev} {σ : St} {i : Nat} {z : Av} {v u : V} {kvs : List (Key × Dt)} {k : Key} (S : SIG b c G ρ σ H) (hz : RA b.K G σ v z) (hi : σ[i]? = some (some u)) (e1 : slotK ρ[i]? = some kvs) (e2 : (res ρ z).bind dkey = some k) :
    ∃ p o, u = .ref p ∧ DGet H p v o ∧ o.isSome = (kGet kvs k).isSome ∧ ∀ d, kGet kvs k = some d → ∃ w, o = some w ∧ Rp b.K G w d := by
  obtain ⟨p, vs, rfl, rd, rk⟩ := slot_rd S hi e1
  cases hr : res ρ z with
  | none => rw [hr] at e2; cases e2
  | some y =>
    rw [hr] at e2
    have hv : v = kV k := ro_key (hz.res S hr) e2
    subst hv
    refine ⟨p, valV vs k, rfl, .inl ⟨vs, k, rd, rfl, rfl⟩, ?_, fun d hd => ?_⟩
    · rcases rk_get rk k with ⟨q1, q2⟩ | ⟨w, d, q1, q2, _⟩ <;> rw [q1, q2] <;> rfl
    · rcases rk_get rk k with ⟨q1, q2⟩ | ⟨w, d', q1, q2, q3⟩
      · rw [q2] at hd; cases hd
      · rw [q2] at hd
        cases hd
        exact ⟨w, q1, q3⟩
theorem var_at {c : Fc} {G H : Hp} {ρ : Ev} {σ : St} {i : Nat} {kvs : List (Key × Dt)} (S : SIG b c G ρ σ H) (e : slotK ρ[i]? = some kvs) : ∃ u, σ[i]? = some (some u) := by
  unfold slotK at e
  split at e
  · rename_i r ks q
    obtain ⟨u, hu, _⟩ := S.sl i _ q
    exact ⟨u, hu⟩
  · rename_i ks q
    obtain ⟨u, hu, _⟩ := S.sl i _ q
    exact ⟨u, hu⟩
  · cases e
theorem m_inK (hu : X.A.units + 1 < cLine) (i : Nat) (ha : PE X a (tE b W fa)) (hv : PE X (.Name x pn) (tVar i)) : PE X (.Compare a [.In] [.Name x pn] pos) (tE b W (inK false i fa)) := weakE (pe_cmp (pc_din hu ha hv)) fun σ H Q ⟨c, G, ρ, S, q⟩ => ⟨c, G, ρ, S, (Post.bind q).imp fun z ρ1 G1 H1 e1 S1 q1 v hv => by
  obtain ⟨k, h1, h2⟩ := q1.opt S1
  cases e1 : slotK ρ1[i]? with
  | none => rw [e1] at h1; cases h1
  | some kvs =>
    cases e2 : (res ρ1 z).bind dkey with
    | none => rw [e1, e2] at h1; cases h1
    | some kk =>
      rw [e1, e2] at h1
      cases h1
      obtain ⟨u, hu⟩ := var_at S1 e1
      obtain ⟨p, o, rfl, g, is, _⟩ := get_core S1 hv hu e1 e2
      refine ⟨.ref p, hu, p, o, rfl, g, ?_⟩
      rw [is]
      exact h2 _ (.bl _)⟩
theorem m_ninK (hu : X.A.units + 1 < cLine) (i : Nat) (ha : PE X a (tE b W fa)) (hv : PE X (.Name x pn) (tVar i)) : PE X (.Compare a [.NotIn] [.Name x pn] pos) (tE b W (inK true i fa)) := weakE (pe_cmp (pc_dnotin hu ha hv)) fun σ H Q ⟨c, G, ρ, S, q⟩ => ⟨c, G, ρ, S, (Post.bind q).imp fun z ρ1 G1 H1 e1 S1 q1 v hv => by
  obtain ⟨k, h1, h2⟩ := q1.opt S1
  cases e1 : slotK ρ1[i]? with
  | none => rw [e1] at h1; cases h1
  | some kvs =>
    cases e2 : (res ρ1 z).bind dkey with
    | none => rw [e1, e2] at h1; cases h1
    | some kk =>
      rw [e1, e2] at h1
      cases h1
      obtain ⟨u, hu⟩ := var_at S1 e1
      obtain ⟨p, o, rfl, g, is, _⟩ := get_core S1 hv hu e1 e2
      refine ⟨.ref p, hu, p, o, rfl, g, ?_⟩
      rw [is]
      exact h2 _ (.bl _)⟩
theorem m_getK (hu : X.A.units + 1 < cLine) (hs : NoSl a) (i : Nat) (hv : PE X (.Name x pn) (tVar i)) (ha : PE X a (tE b W fa)) : PE X (.Subscript (.Name x pn) a pos) (tE b W (getK i fa)) := weakE (pe_dget hu hv ha hs) fun σ H Q ⟨c, G, ρ, S, q⟩ => by
  have q' := Post.bind q
  unfold varM at q'
  split at q'
  · rename_i sv hs
    obtain ⟨v0, hv0, _⟩ := S.sl i sv hs
    have q2 := q' H G (Same.refl G) S
    refine ⟨v0, hv0, c, G, ρ, S, (Post.bind q2).imp fun z ρ1 G1 H1 e1 S1 q1 v hv => ?_⟩
    obtain ⟨k, h1, h2⟩ := q1.opt S1
    cases e1 : slotK ρ1[i]? with
    | none => rw [e1] at h1; cases h1
    | some kvs =>
      cases e2 : (res ρ1 z).bind dkey with
      | none => rw [e1, e2] at h1; cases h1
      | some kk =>
        cases e3 : kGet kvs kk with
        | none => rw [e1, e2] at h1; simp [e3] at h1
        | some d =>
          rw [e1, e2] at h1
          simp [e3] at h1
          subst h1
          obtain ⟨p, o, rfl, g, is, gt⟩ := get_core S1 hv hv0 e1 e2
          obtain ⟨w, rfl, rw'⟩ := gt d e3
          exact ⟨p, w, rfl, g, h2 w rw'⟩
  · exact q'.elim
/-! a new dict, stores, pops -/
theorem m_newK : PE X (.Dict [] [] pos) (tV b W (retM (.k []))) := weakE pe_dnewK fun σ H Q ⟨c, G, ρ, S, q⟩ p hp =>
  q (upd H p (.dK [])) G (Same.refl G) (S.alloc hp) (.ref p) ⟨p, [], rfl, upd_same, S.free hp, .nil, S.fresh0 hp⟩ fun p' e _ => by cases e; exact S.noOwn hp
def putKM (i : Nat) (fe fk : M Av) : M Fl := bindM fe fun a => bindM (varM i) fun _ => bindM fk fun k ρ => match ρ[i]?, fzv ρ a, (res ρ k).bind dkey with
  | some (some (.dk r kvs)), some d, some kk => if kvs.length < 1000000 then .ok .nx (ρ.set i (some (.dk r (kPut kvs kk d)))) else .bad
  | _, _, _ => .bad
theorem s_putK {e k : Expr} {fe fk : M Av} {tp : Pos} (hu : X.A.units + 1 < cLine) (i : Nat) (hv : PE X (.Name x pn) (tVar i)) (he : PE X e (tE b W fe)) (hk : PE X k (tE b W fk)) (hs : swapsWith e (some (.Subscript (.Name x pn) k tp)) pos.line X.env = pure false := by rfl) :
    PS X (.Assign [.Subscript (.Name x pn) k tp] e pos) (tS b W (putKM i fe fk)) := weakS (ps_dput hu hv hk he hs) fun D σ H ⟨c, G, ρ, hb, S, q⟩ =>
  ⟨c, G, ρ, S, (PostS.bind σ q).imp fun a ρ1 G1 H1 e1 S1 q1 v hv => by
    have q1' := PostS.bind σ q1
    unfold varM at q1'
    split at q1'
    · rename_i sv hs0
      obtain ⟨w, hw, _⟩ := S1.sl i sv hs0
      have q1'' := q1' H1 G1 (Same.refl G1) S1
      refine ⟨w, hw, c, G1, ρ1, S1, (PostS.bind σ q1'').imp fun kk ρ2 G2 H2 e2 S2 q2 u hu => ?_⟩
      split at q2
      · rename_i r kvs d key hsl hf hkk
        split at q2
        · rename_i hlen
          obtain ⟨v', hv', p', vs', e', b2, b3, b4⟩ := S2.sl i _ hsl
          rw [hw] at hv'
          cases hv'
          subst e'
          cases hr : res ρ2 kk with
          | none => rw [hr] at hkk; cases hkk
          | some y =>
            rw [hr] at hkk
            have hy : u = kV key := ro_key (hu.res S2 hr) hkk
            subst hy
            have S3 := S2.mut (o := .dK (L2.putK vs' key v)) (sv' := .dk r (kPut kvs key d)) hsl rfl hw rfl rfl ⟨p', _, rfl, upd_same, b3, rk_put b4 key ((hv.mono e2).fz S2 hf)⟩
            exact ⟨p', _, rfl, .inl ⟨vs', key, b2, rfl, by rw [rk_len b4, sizeLine_eq]; omega, rfl⟩, q2 σ _ G2 (Same.refl G2) S3⟩
        · exact q2.elim
      · exact q2.elim
    · exact q1'.elim⟩
def popKM (i : Nat) (fe : M Av) : M Rv := bindM (optM fun ρ => slotK ρ[i]?) fun _ => bindM fe fun a ρ => match ρ[i]?, (res ρ a).bind dkey with
  | some (some (.dk r kvs)), some k => (match kGet kvs k with
    | some d => .ok (.d d) (ρ.set i (some (.dk r (kDrop kvs k))))
    | none => .bad)
  | _, _ => .bad
theorem m_popK {e : Expr} {fe : M Av} {apos cpos : Pos} (i : Nat) (hv : PE X (.Name x pn) (tVar i)) (he : PE X e (tE b W fe)) (m : M1 X (.Name x pn) "pop" apos e cpos) : PE X (.Call (.Attribute (.Name x pn) "pop" apos) [e] [] cpos) (tV b W (popKM i fe)) := weakE (pe_dpop1 hv he m) fun σ H Q ⟨c, G, ρ, S, q⟩ => by
  obtain ⟨kvs0, h1, h2⟩ := (Post.bind q).opt S
  obtain ⟨w, hw⟩ := var_at S h1
  obtain ⟨p, vs, rfl, rd, rk⟩ := slot_rd S hw h1
  refine ⟨.ref p, hw, p, rfl, .inl ⟨vs, rd⟩, c, G, ρ, S, (Post.bind h2).imp fun kk ρ2 G2 H2 e2 S2 q2 u hu => ?_⟩
  split at q2
  · rename_i r kvs key hsl hkk
    split at q2
    · rename_i d hd
      obtain ⟨v', hv', p', vs', e', b2, b3, b4⟩ := S2.sl i _ hsl
      rw [hw] at hv'
      cases hv'
      cases e'
      cases hr : res ρ2 kk with
      | none => rw [hr] at hkk; cases hkk
      | some y =>
        rw [hr] at hkk
        have hy : u = kV key := ro_key (hu.res S2 hr) hkk
        subst hy
        rcases rk_get b4 key with ⟨z1, z2⟩ | ⟨v, d', z1, z2, z3⟩
        · rw [hd] at z2; cases z2
        · rw [hd] at z2
          cases z2
          have S3 := S2.mut (o := .dK (dropK vs' key)) (sv' := .dk r (kDrop kvs key)) hsl rfl hw rfl rfl ⟨p, _, rfl, upd_same, b3, rk_drop b4 key⟩
          exact ⟨vs', key, v, b2, rfl, z1, q2 _ G2 (Same.refl G2) S3 v z3 fun _ _ z => by cases z⟩
    · exact q2.elim
  · exact q2.elim
def keysM (i : Nat) : M (List Dt) := optM fun ρ => match ρ[i]? with
  | some (some (.fk kvs)) => some (kvs.map fun kv => keyD kv.1)
  | _ => none
theorem yl_keys {K : Fg} {G : Hp} {d : Addr} {o : Obj} {vs : List (Key × V)} {kvs : List (Key × Dt)} (h : G d = some (.frz o (.dK vs))) (r : RpK K G vs kvs) : Yl K G (Itk d o vs) (kvs.map fun kv => keyD kv.1) := by
  have hk := rk_keys r
  have hl := rk_len r
  refine ⟨fun i H e hi => ⟨e _ _ h rfl, by simp at hi; omega⟩, fun i H x H' e hi hy => ?_, fun H e => ⟨e _ _ h rfl, by simp; omega⟩⟩
  obtain ⟨rfl, k, v, e1, rfl⟩ := hy
  refine ⟨rfl, keyD k, ?_, rp_key k⟩
  have : (vs.map (·.1))[i]? = some k := by rw [List.getElem?_map, e1]; rfl
  rw [hk, List.getElem?_map] at this
  rw [List.getElem?_map]
  cases q : kvs[i]? with
  | none => rw [q] at this; cases this
  | some kv =>
    rw [q] at this
    have this : kv.1 = k := Option.some.inj this
    rw [Option.map_some, this]
theorem i_keys {tg : Expr} {apos cpos : Pos} (hK : X.K = b.K) (i : Nat) (hv : PE X (.Name x pn) (tVar i)) (hbase : attributeBase (.Name x pn) "keys" X.env (eval (.Name x pn) X.env) = eval (.Name x pn) X.env := by rfl) (hline : (apos.endLine == cpos.line) = true := by rfl) :
    PI X tg (.Call (.Attribute (.Name x pn) "keys" apos) [] [] cpos) (tI b W (keysM i)) := weakI (pi_keysM hv hbase hline) fun σ H R ⟨c, G, ρ, S, q⟩ => by
  obtain ⟨ds, h1, h2⟩ := q.opt S
  split at h1
  · rename_i kvs hs
    cases h1
    obtain ⟨u, hu, p, od, vs, e1, e2, e3⟩ := S.sl i _ hs
    subst e1
    exact ⟨.ref p, hu, p, od, vs, rfl, S.gh _ _ e2 rfl, h2 _ (yl_keys e2 e3)⟩
  · cases h1
/-! a dict is locked while a statement runs -/
def isFk : Option Sv → Bool
  | some (.fk _) => true
  | _ => false
def noFk (ρ : Ev) (i : Nat) : Bool := (List.range ρ.length).all fun j => decide (j = i) || !isFk (ρ.getD j none)
def lockE (i : Nat) (f : M Rv) : M Rv := fun ρ => match ρ[i]? with
  | some (some (.dk false kvs)) => (match f (ρ.set i (some (.fk kvs))) with
    | .ok r ρ' => (match ρ'[i]? with
      | some (some (.fk kvs')) => if noFk ρ' i then .ok r (ρ'.set i (some (.dk false kvs'))) else .bad
      | _ => .bad)
    | _ => .bad)
  | _ => .bad
/-- the ground without the locked thing -/
def offG (G : Hp) (p : Addr) : Hp := fun a => if a = p then none else G a
theorem offG_ne {G : Hp} {p a : Addr} (h : a ≠ p) : offG G p a = G a := by unfold offG; rw [if_neg h]
theorem offG_eq {G : Hp} {p : Addr} : offG G p p = none := by unfold offG; rw [if_pos rfl]
section
variable {K : Fg} {G : Hp} {p : Addr} {od : Obj} {vs : List (Key × V)} (hp : G p = some (.frz od (.dK vs)))
include hp
theorem sqT_off {a : Addr} {xs : List V} (h : TupK K G a xs) : TupK K (offG G p) a xs := by
  rcases h with h | h
  · refine .inl ?_
    rw [offG_ne (fun z => by subst z; rw [hp] at h; cases h)]
    exact h
  · exact .inr h
mutual
theorem Rp.off : ∀ (d : Dt) (v : V), Rp K G v d → Rp K (offG G p) v d
  | .none, _, h => by cases h; exact .non
  | .bool b, _, h => by cases h; exact .bl b
  | .int i, _, h => by cases h; exact .int i
  | .str x, _, h => by cases h; exact .str x
  | .list ds, _, h => by
    cases h with
    | @lst a xs _ h1 h2 =>
      refine .lst ?_ (Rps.off ds _ h2)
      rw [offG_ne (fun z => by subst z; rw [hp] at h1; cases h1)]
      exact h1
  | .tuple ds, _, h => by
    cases h with
    | tup h1 h2 => exact .tup (sqT_off hp h1) (Rps.off ds _ h2)
  | .dict _, _, h => by cases h
theorem Rps.off : ∀ (ds : List Dt) (vs : List V), Rps K G vs ds → Rps K (offG G p) vs ds
  | [], _, h => by cases h; exact .nil
  | d :: ds, _, h => by
    cases h with
    | cons h1 h2 => exact .cons (Rp.off d _ h1) (Rps.off ds _ h2)
end
theorem RpK.off {ws : List (Key × V)} {kvs : List (Key × Dt)} (h : RpK K G ws kvs) : RpK K (offG G p) ws kvs := Paired.mapP h fun _ _ z => ⟨z.1, Rp.off hp _ _ z.2⟩
end
theorem SIG.lock {c : Fc} {G H : Hp} {ρ : Ev} {σ : St} {i : Nat} {kvs : List (Key × Dt)} (S : SIG b c G ρ σ H) (hb : c.Fn) (e : ρ[i]? = some (some (.dk false kvs))) :
    ∃ p vs, σ[i]? = some (some (.ref p)) ∧ H p = some (.dK vs) ∧ G p = none ∧ c.H0 p = none ∧ RpK b.K G vs kvs ∧ ∀ od, Same G (upd G p (.frz od (.dK vs))) ∧ SIG b c (upd G p (.frz od (.dK vs))) (ρ.set i (some (.fk kvs))) σ (upd H p (.frz od (.dK vs))) := by
  obtain ⟨v, hv, p, vs, rfl, hp, gp, rk⟩ := S.sl i _ e
  have op : Open c ρ i := fun s q => by rw [e] at q; cases q; exact .inr ⟨hb, rfl⟩
  have h0 : c.H0 p = none := by
    rcases S.nw i _ p e rfl hv with z | ⟨f, z⟩
    · exact z
    · exact absurd z (S.noRef op p f)
  refine ⟨p, vs, hv, hp, gp, h0, rk, fun od => ?_⟩
  have s1 : Same G (upd G p (.frz od (.dK vs))) := fun a u q => by rw [upd_ne (ne_of_none q gp)]; exact q
  have hil : i < ρ.length := (List.getElem?_eq_some_iff.mp e).1
  have get : ∀ {j s}, (ρ.set i (some (.fk kvs)))[j]? = some (some s) → (j = i ∧ s = .fk kvs) ∨ (i ≠ j ∧ ρ[j]? = some (some s)) := fun {j s} q => by
    by_cases hj : i = j
    · subst hj
      rw [getElem?_set_eq', if_pos rfl, if_pos hil] at q
      cases q
      exact .inl ⟨rfl, rfl⟩
    · rw [List.getElem?_set_ne hj] at q
      exact .inr ⟨hj, q⟩
  have gmt : ∀ {j : Nat} {s : Sv}, (ρ.set i (some (.fk kvs)))[j]? = some (some s) → s.isMt = true → ρ[j]? = some (some s) := fun {j s} q hs => by
    rcases get q with ⟨_, rfl⟩ | ⟨_, q⟩
    · cases hs
    · exact q
  refine ⟨s1, by rw [List.length_set]; exact S.len, S.g0.trans s1, fun a u q hm => ?_, fun a hm => ?_, fun a u q m n zz => ?_, fun a u q => ?_, fun j s q => ?_, fun j k sj sk a q1 q2 o1 o2 a1 a2 => ?_, fun j s a q o1 a1 => ?_, fun j a f hj => ?_, tabs_mut S.tb hp (fun _ z => by cases z) (fun _ z => by cases z), S.ct, S.mzk s1 (fun a u ha q => ?_) (fun j r m a h1 h2 => ⟨j, r, gmt h1 rfl, h2⟩), fun j k sj sk h1 h2 g1 g2 => S.m1 j k sj sk (gmt h1 g1) (gmt h2 g2) g1 g2, S.zz, fun j a f s h1 h2 h3 => S.rk j a f s h1 (gmt h2 h3) h3⟩
  case refine_9 =>
    rw [upd_ne ?_]
    · exact q
    intro z
    rcases ha with ha | ⟨ys, ha⟩ | ⟨j, s, h1, h2, h3⟩
    · exact ha.ne gp z
    · subst ha
      rw [z, hp] at q
      cases q
    · obtain ⟨r, m, rfl⟩ := isMt_of h2
      have ei := S.sp i j _ _ p e h1 rfl rfl hv (by rw [h3, z])
      subst ei
      rw [e] at h1
      cases h1
  · by_cases ha : a = p
    · subst ha
      rw [upd_same] at q ⊢
      exact q
    · rw [upd_ne ha] at q ⊢
      exact S.gh a u q hm
  · obtain ⟨u, h1, h2⟩ := hm
    have ha : a ≠ p := fun z => by
      subst z
      rw [upd_same] at h1
      cases h1
      cases h2
    rw [upd_ne ha] at h1 ⊢
    exact S.gm a ⟨u, h1, h2⟩
  · have ha : a ≠ p := fun z => by subst z; rw [h0] at q; cases q
    rw [upd_ne ha]
    exact S.fr a u q m n zz
  · by_cases ha : a = p
    · subst ha
      exact .inr (.inl h0)
    · rw [upd_ne ha] at q
      exact S.gn a u q
  · rcases get q with ⟨rfl, rfl⟩ | ⟨hj, q⟩
    · exact ⟨.ref p, hv, p, od, vs, rfl, upd_same, rk.mono s1⟩
    · obtain ⟨w, hw, z⟩ := S.sl j s q
      refine ⟨w, hw, z.keep s1 fun a u oo ev ha => ?_⟩
      have hne : a ≠ p := fun y => hj (S.sp i j _ s p e q rfl oo hv (by rw [hw, ev, y]))
      obtain ⟨q', _, e', _, g'⟩ := z.at oo
      rw [ev] at e'
      cases e'
      exact ⟨by rw [upd_ne hne]; exact ha, by rw [upd_ne hne]; exact g'⟩
  · rcases get q1 with ⟨_, w1⟩ | ⟨_, y1⟩
    · rw [w1] at o1; cases o1
    · rcases get q2 with ⟨_, w2⟩ | ⟨_, y2⟩
      · rw [w2] at o2; cases o2
      · exact S.sp j k sj sk a y1 y2 o1 o2 a1 a2
  · rcases get q with ⟨_, w1⟩ | ⟨_, y1⟩
    · rw [w1] at o1; cases o1
    · exact S.nw j s a y1 o1 a1
  · obtain ⟨h1, s, h2, h3⟩ := S.rf j a f hj
    have hne : i ≠ j := fun z => by subst z; exact S.noRef op a f hj
    exact ⟨h1, s, by rw [List.getElem?_set_ne hne]; exact h2, h3⟩
theorem SIG.unlock {c : Fc} {G H : Hp} {ρ : Ev} {σ : St} {i : Nat} {p : Addr} {od : Obj} {vs : List (Key × V)} {kvs : List (Key × Dt)} {G0 : Hp} (S : SIG b c G ρ σ H) (hG : G p = some (.frz od (.dK vs))) (h0 : c.H0 p = none) (hs : σ[i]? = some (some (.ref p))) (e : ρ[i]? = some (some (.fk kvs)))
    (hf : ∀ j, j < ρ.length → j ≠ i → isFk (ρ.getD j none) = false) (s0 : Same G0 G) (g0 : G0 p = none) (c0 : Same c.G0 G0) (rk : RpK b.K G vs kvs) : Same G0 (offG G p) ∧ SIG b c (offG G p) (ρ.set i (some (.dk false kvs))) σ (upd H p (.dK vs)) := by
  have hil : i < ρ.length := (List.getElem?_eq_some_iff.mp e).1
  have hH : H p = some (.frz od (.dK vs)) := S.gh _ _ hG rfl
  have s1 : Same G0 (offG G p) := fun a u q => by
    rw [offG_ne (fun z => by subst z; rw [g0] at q; cases q)]
    exact s0 a u q
  have get : ∀ {j s}, (ρ.set i (some (.dk false kvs)))[j]? = some (some s) → (j = i ∧ s = .dk false kvs) ∨ (i ≠ j ∧ ρ[j]? = some (some s)) := fun {j s} q => by
    by_cases hj : i = j
    · subst hj
      rw [getElem?_set_eq', if_pos rfl, if_pos hil] at q
      cases q
      exact .inl ⟨rfl, rfl⟩
    · rw [List.getElem?_set_ne hj] at q
      exact .inr ⟨hj, q⟩
  have own_ne : ∀ {j : Nat} {s : Sv}, ρ[j]? = some (some s) → s.own = true → σ[j]? ≠ some (some (V.ref p)) := fun {j s} q o1 z => by
    obtain ⟨w, hw, r⟩ := S.sl j s q
    obtain ⟨q', _, e', h', g'⟩ := r.at o1
    rw [hw, e'] at z
    cases z
    rw [hG] at g'
    cases g'
  have gmt : ∀ {j : Nat} {s : Sv}, (ρ.set i (some (.dk false kvs)))[j]? = some (some s) → s.isMt = true → ρ[j]? = some (some s) := fun {j s} q hs => by
    rcases get q with ⟨_, rfl⟩ | ⟨_, q⟩
    · cases hs
    · exact q
  have mko : ∀ q, Mk G q → Mk (offG G p) q := fun q h => by
    obtain ⟨u, h1, h2⟩ := h
    have ha : q ≠ p := fun z => by
      subst z
      rw [hG] at h1
      cases h1
      cases h2
    exact ⟨u, by rw [offG_ne ha]; exact h1, h2⟩
  refine ⟨s1, by rw [List.length_set]; exact S.len, c0.trans s1, fun a u q hm => ?_, fun a hm => ?_, fun a u q m n zz => ?_, fun a u q => ?_, fun j s q => ?_, fun j k sj sk a q1 q2 o1 o2 a1 a2 => ?_, fun j s a q o1 a1 => ?_, fun j a f hj => ?_, tabs_mut S.tb hH (fun _ z => by cases z) (fun _ z => by cases z), S.ct, S.mzk' mko (fun a u ha q => ?_) (fun j r m a h1 h2 => ⟨j, r, gmt h1 rfl, h2⟩), fun j k sj sk h1 h2 g1 g2 => S.m1 j k sj sk (gmt h1 g1) (gmt h2 g2) g1 g2, S.zz, fun j a f s h1 h2 h3 => S.rk j a f s h1 (gmt h2 h3) h3⟩
  case refine_9 =>
    rw [upd_ne ?_]
    · exact q
    intro z
    rcases ha with ha | ⟨ys, ha⟩ | ⟨j, s, h1, h2, h3⟩
    · obtain ⟨u2, w1, w2⟩ := ha
      rw [z, hG] at w1
      cases w1
      cases w2
    · subst ha
      rw [z, hH] at q
      cases q
    · obtain ⟨r, m, rfl⟩ := isMt_of h2
      exact own_ne h1 rfl (by rw [h3, z])
  · have ha : a ≠ p := fun z => by subst z; rw [offG_eq] at q; cases q
    rw [offG_ne ha] at q
    rw [upd_ne ha]
    exact S.gh a u q hm
  · obtain ⟨u, h1, h2⟩ := hm
    have ha : a ≠ p := fun z => by subst z; rw [offG_eq] at h1; cases h1
    rw [offG_ne ha] at h1
    rw [upd_ne ha]
    exact S.gm a ⟨u, h1, h2⟩
  · have ha : a ≠ p := fun z => by subst z; rw [h0] at q; cases q
    rw [upd_ne ha]
    exact S.fr a u q m n zz
  · have ha : a ≠ p := fun z => by subst z; rw [offG_eq] at q; cases q
    rw [offG_ne ha] at q
    exact S.gn a u q
  · rcases get q with ⟨rfl, rfl⟩ | ⟨hj, q⟩
    · exact ⟨.ref p, hs, p, vs, rfl, upd_same, offG_eq, rk.off hG⟩
    · obtain ⟨w, hw, z⟩ := S.sl j s q
      refine ⟨w, hw, ?_⟩
      cases s with
      | d x => exact Rp.off hG _ _ z
      | ls r xs =>
        obtain ⟨a, ws, q1, h1, h2, h3⟩ := z
        have ha : a ≠ p := fun y => by subst y; rw [hG] at h2; cases h2
        exact ⟨a, ws, q1, by rw [upd_ne ha]; exact h1, by rw [offG_ne ha]; exact h2, Rps.off hG _ _ h3⟩
      | dk r xs =>
        obtain ⟨a, ws, q1, h1, h2, h3⟩ := z
        have ha : a ≠ p := fun y => by subst y; rw [hG] at h2; cases h2
        exact ⟨a, ws, q1, by rw [upd_ne ha]; exact h1, by rw [offG_ne ha]; exact h2, h3.off hG⟩
      | dt r xs =>
        obtain ⟨a, ws, q1, h1, h2, h3⟩ := z
        have ha : a ≠ p := fun y => by subst y; rw [hG] at h2; cases h2
        exact ⟨a, ws, q1, by rw [upd_ne ha]; exact h1, by rw [offG_ne ha]; exact h2, Paired.mapP h3 fun _ _ z => ⟨z.1, Rp.off hG _ _ z.2⟩⟩
      | ex k =>
        obtain ⟨a, q1, h1⟩ := z
        have ha : a ≠ p := fun y => by subst y; rw [hG] at h1; cases h1
        exact ⟨a, q1, by rw [offG_ne ha]; exact h1⟩
      | scr ns =>
        obtain ⟨a, q1, h1⟩ := z
        refine ⟨a, q1, ?_⟩
        rcases h1 with (h | ⟨o, h⟩) | h
        · refine .inl (.inl ?_)
          rw [offG_ne (fun y => by subst y; rw [hG] at h; cases h)]
          exact h
        · refine .inl (.inr ⟨o, ?_⟩)
          rw [offG_ne (fun y => by subst y; rw [hG] at h; cases h)]
          exact h
        · exact .inr h
      | mt r m =>
        obtain ⟨a, dx, fs, q1, h1, h2⟩ := z
        have ha : a ≠ p := fun y => by subst y; rw [hG] at h2; cases h2
        exact ⟨a, dx, fs, q1, by rw [upd_ne ha]; exact h1, by rw [offG_ne ha]; exact h2⟩
      | fk ks =>
        have hj2 : j < ρ.length := (List.getElem?_eq_some_iff.mp q).1
        have := hf j hj2 (fun y => hj y.symm)
        rw [List.getD_eq_getElem?_getD, q] at this
        cases this
      | ft ks =>
        obtain ⟨a, od', ws, q1, h1, h2⟩ := z
        have ha : a ≠ p := fun y => by subst y; rw [hG] at h1; cases h1
        exact ⟨a, od', ws, q1, by rw [offG_ne ha]; exact h1, Paired.mapP h2 fun _ _ z => ⟨z.1, Rp.off hG _ _ z.2⟩⟩
  · rcases get q1 with ⟨z1, w1⟩ | ⟨hj, y1⟩
    · rcases get q2 with ⟨z2, w2⟩ | ⟨hk, y2⟩
      · rw [z1, z2]
      · subst z1
        rw [hs] at a1
        cases a1
        exact absurd a2 (own_ne y2 o2)
    · rcases get q2 with ⟨z2, w2⟩ | ⟨hk, y2⟩
      · subst z2
        rw [hs] at a2
        cases a2
        exact absurd a1 (own_ne y1 o1)
      · exact S.sp j k sj sk a y1 y2 o1 o2 a1 a2
  · rcases get q with ⟨z1, w1⟩ | ⟨hj, y1⟩
    · subst z1
      rw [hs] at a1
      cases a1
      exact .inl h0
    · exact S.nw j s a y1 o1 a1
  · obtain ⟨h1, s, h2, h3, h4⟩ := S.rf j a f hj
    by_cases z : i = j
    · subst z
      rw [e] at h2
      cases h2
      cases h3
    · exact ⟨h1, s, by rw [List.getElem?_set_ne z]; exact h2, h3, h4⟩
theorem RN.off {c : Fc} {G H : Hp} {p : Addr} {od : Obj} {vs : List (Key × V)} {v : V} {r : Rv} (hG : G p = some (.frz od (.dK vs))) (h : RN b c G H v r) : RN b c (offG G p) (upd H p (.dK vs)) v r := by
  cases r with
  | d x => exact Rp.off hG _ _ h
  | l xs =>
    obtain ⟨a, ws, e, h1, h2, h3, h4⟩ := h
    have ha : a ≠ p := fun y => by subst y; rw [hG] at h2; cases h2
    exact ⟨a, ws, e, by rw [upd_ne ha]; exact h1, by rw [offG_ne ha]; exact h2, Rps.off hG _ _ h3, h4⟩
  | k xs =>
    obtain ⟨a, ws, e, h1, h2, h3, h4⟩ := h
    have ha : a ≠ p := fun y => by subst y; rw [hG] at h2; cases h2
    exact ⟨a, ws, e, by rw [upd_ne ha]; exact h1, by rw [offG_ne ha]; exact h2, h3.off hG, h4⟩
  | t xs =>
    obtain ⟨a, ws, e, h1, h2, h3, h4⟩ := h
    have ha : a ≠ p := fun y => by subst y; rw [hG] at h2; cases h2
    exact ⟨a, ws, e, by rw [upd_ne ha]; exact h1, by rw [offG_ne ha]; exact h2, Paired.mapP h3 fun _ _ z => ⟨z.1, Rp.off hG _ _ z.2⟩, h4⟩
theorem s_setLk {f : M Rv} {e : Expr} {y : Str} {pos' : Pos} {j : Nat} (i : Nat) (hN : X.N.Nodup) (hi : X.N[j]? = some y) (hx : Loc X.env.scope y) (he : PE X e (tV b W f)) (hs : swapsWith e (some (.Name y pos')) pos.line X.env = pure false := by rfl)
    (hf : X.fn y = true ∨ X.env.scope.names.lookup y = some .local := by first | exact .inl rfl | exact .inr rfl | assumption) : PS X (.Assign [.Name y pos'] e pos) (tS b W (setM j (lockE i f))) :=
  weakS (ps_set hN hi hx (pe_lock he) hs hf) fun D σ H ⟨c, G, ρ, hb, S, q⟩ => by
    rw [setM_ap, bindM_ap] at q
    unfold lockE at q
    cases e0 : ρ[i]? with
    | none => rw [e0] at q; exact q.elim
    | some o =>
      rw [e0] at q
      cases o with
      | none => exact q.elim
      | some sv =>
        cases sv with
        | dk r0 kvs =>
          cases r0 with
          | true => exact q.elim
          | false =>
            obtain ⟨p, vs, hσ, hp, gp, h0, rk, lk⟩ := S.lock hb e0
            refine ⟨p, .dK vs, hp, trivial, fun od => ?_⟩
            obtain ⟨s1, S1⟩ := lk od
            refine ⟨c, _, _, S1, ?_⟩
            dsimp only at q
            cases ef : f (ρ.set i (some (.fk kvs))) with
            | bad => rw [ef] at q; exact q.elim
            | err k ρ' => rw [ef] at q; exact q.elim
            | ok r ρ' =>
              rw [ef] at q
              dsimp only at q
              intro H' G' e' S' v hv ap
              have hG : G' p = some (.frz od (.dK vs)) := e' _ _ upd_same
              refine ⟨S'.gh _ _ hG rfl, ?_⟩
              cases e1 : ρ'[i]? with
              | none => rw [e1] at q; exact q.elim
              | some o1 =>
                rw [e1] at q
                cases o1 with
                | none => exact q.elim
                | some sv1 =>
                  cases sv1 with
                  | fk kvs' =>
                    dsimp only at q
                    cases en : noFk ρ' i with
                    | false => rw [en] at q; exact q.elim
                    | true =>
                      rw [en, if_pos rfl] at q
                      obtain ⟨w, hw, p', od', vs', ew, hg', rk'⟩ := S'.sl i _ e1
                      rw [hσ] at hw
                      cases hw
                      cases ew
                      rw [hG] at hg'
                      cases hg'
                      have hno : ∀ l, l < ρ'.length → l ≠ i → isFk (ρ'.getD l none) = false := fun l hl hne => by
                        unfold noFk at en
                        rw [List.all_eq_true] at en
                        have := en l (List.mem_range.mpr hl)
                        simpa [hne] using this
                      obtain ⟨s2, S2⟩ := S'.unlock hG h0 hσ e1 hno (s1.trans e') gp S.g0 rk'
                      have ap2 : Apart (ρ'.set i (some (.dk false kvs'))) σ v r := fun a ea hn l s hl ho => by
                        by_cases hli : i = l
                        · subst hli
                          rw [hσ]
                          intro z
                          cases z
                          subst ea
                          have hv2 := hv
                          cases r with
                          | d x => cases hn
                          | l xs => obtain ⟨a', _, e3, _, e4, _⟩ := hv2; cases e3; rw [hG] at e4; cases e4
                          | k xs => obtain ⟨a', _, e3, _, e4, _⟩ := hv2; cases e3; rw [hG] at e4; cases e4
                          | t xs => obtain ⟨a', _, e3, _, e4, _⟩ := hv2; cases e3; rw [hG] at e4; cases e4
                        · rw [List.getElem?_set_ne hli] at hl
                          exact ap a ea hn l s hl ho
                      dsimp only at q
                      rw [bindM_ap, putM_ap] at q
                      split at q
                      · rename_i u ρ3 hq
                        split at hq
                        · cases hq
                        · rename_i hr
                          cases hq
                          exact q _ _ _ s2 (set_rn S2 (hv.off hG) ap2 (refAt_of hb hr))
                      · rename_i k ρ3 hq
                        split at hq <;> cases hq
                      · exact q.elim
                  | _ => exact q.elim
        | _ => exact q.elim
end
end G8
namespace L2
open PySem PySem.Spec PyProof.Rows
/-! sorted(d.keys()) -/
def viewO (d v : Addr) : HO := .ext fun h => PySem.W.KdlKeysView h v d
def tKeysV (td : TE) : TE := fun σ H Q => td σ H fun x H1 => ∃ d kvs, x = .ref d ∧ Rd H1 d (.dK kvs) ∧ ∀ v, H1 v = none → Q (.ref v) (upd H1 v (viewO d v))
section
variable {X : Cx} {e : Expr} {td : TE} {apos cpos : Pos}
theorem pe_keysV (he : PE X e td) (hbase : attributeBase e "keys" X.env (eval e X.env) = eval e X.env := by rfl) (hline : (apos.endLine == cpos.line) = true := by rfl) : PE X (.Call (.Attribute e "keys" apos) [] [] cpos) (tKeysV td) := by
  refine ⟨fun pins s σ H R I h => ?_⟩
  refine wpAny_Call_method (T := "dict") (id := "dict.keys") hbase rfl hline F.plainAttrs_dict F.slot_dict_keys F.type_dict_keys (thn (he.run pins s σ H _ I h) fun u s1 ⟨x, H1, I1, rx, d, kvs, ex, hd, q⟩ => ?_)
  subst ex
  obtain rfl : u = Value.ref d := rx
  obtain ⟨z, hs, vs, rel, dd⟩ := dk_rd I1.hok hd
  refine ⟨dd.typeIs, dd.mapOf.noDict, ?_⟩
  have I2 : Inv X pins σ (upd H1 s1.heap.objs.size (viewO d s1.heap.objs.size)) { s1 with heap := s1.heap.push { cls := .type "dict_keys", data := .fields #[.ref d] } } :=
    I1.laid (a := s1.heap.objs.size) (o := viewO d s1.heap.objs.size) (t' := s1.toks) (fun _ _ q => Heap.get?_push_of_some _ q) (Nat.le_refl _) ⟨⟨_, Heap.get?_push_size _ rfl, rfl, rfl⟩, ⟨_, Heap.get?_push_size _ rfl⟩, fun h1 h2 ⟨o, e1, e2, e3⟩ k => ⟨o, k o e1, e2, e3⟩⟩
  show wpAny _ _ (callWith cpos (.builtin "dict.keys") [.ref d] [] []) _ X.xe s1
  exact method_meetsIn F.slot_dict_keys F.entry_dict_keys rfl (PySem.evalArgs_none ⟨rfl, dd.typeIs, F.args_dict_keys_1 _, _, PySem.W.kdl_meets_keys (mixKind X.prog X.w) d hs, ⟨vs, dd⟩, ⟨.ref s1.heap.objs.size, _, I2, rfl, q _ (I1.hok.fresh (Nat.le_refl _))⟩⟩)
/-- what is collected of int keys -/
theorem ints_of_keys {ps : List (Key × Value)} {ks : List Int} {acc : List Value} (hk : ps.map (·.1) = ks.map Sum.inl) (hl : acc.length = ks.length)
    (h : ∀ (n : Nat) (v : Value), acc[n]? = some v → ∃ (k : Key) (x : Value), ps[n]? = some (k, x) ∧ keyIs k v = true) : IntsAre acc ks := ints_each hl fun n v hv => by
  obtain ⟨k, x, h1, h2⟩ := h n v hv
  have h3 := congrArg (fun l => l[n]?) hk
  simp only [List.getElem?_map, h1, Option.map_some] at h3
  cases h4 : ks[n]? with
  | none => simp [h4] at h3
  | some y =>
    simp [h4] at h3
    subst h3
    rcases keyIs_shape h2 with ⟨i, t, a, b⟩ | ⟨z, t, a, b⟩ <;> cases a
    exact ⟨y, t, rfl, b⟩
def rSortV : List V → Hp → VK → Prop := fun xs H Q => ∃ (a w : Addr) (kvs : List (Key × V)) (ks : List Int), xs = [.ref w] ∧ H w = some (viewO a w) ∧ Rd H a (.dK kvs) ∧ kvs.map (·.1) = ks.map Sum.inl ∧ ks.length ≤ 1000 ∧
  ∀ (ys : List Int) (p : Addr), ys.Perm ks → ys.Pairwise (· ≤ ·) → H p = none → Q (.ref p) (upd H p (.lst (ys.map V.int)))
theorem cr_sortV (calm : X.calm = true) : CallR X (.builtin "sorted") rSortV := fun pins s σ H xs us Q I r q => by
  obtain ⟨a, w, kvs, ks, rfl, hw, hd, hks, hz, q⟩ := q
  rw [Vals.ref1 r]
  obtain ⟨_, lo, ps, rel, dd⟩ := dk_rd I.hok hd
  obtain ⟨ep, hat⟩ := dd.dictAt
  have hpk : ps.map (·.1) = ks.map Sum.inl := rel.keys.symm.trans hks
  have hpl : ps.length = ks.length := by simpa using congrArg List.length hpk
  have hsz : ps.length ≤ sizeLine := by rw [hpl, sizeLine_eq]; omega
  refine Calls.call_function_entry kind_sorted plain_sorted entry_sorted (args_sorted1 _) ?_
  show wpAny _ _ (Builtin.«sorted» _) _ _ _
  unfold Builtin.«sorted»
  refine wpAny_bind (m := checkCount "sorted" 1 1 _) (wpAny_pure (wpAny_bind ?_))
  refine PySem.W.kdu_collect (A := X.A.in1) (PySem.W.kdl_keys (knd := mixKind X.prog X.w) (r := w) (d := a) (kvs := ps) (ep := ep)) (I.ok.hd calm) ⟨(I.hok w _ hw).1, hat⟩ hsz fun hp tk acc keep got => ?_
  have al : acc.toList.length = ks.length := by rw [Array.length_toList, got.1, hpl]
  have iv : IntsAre acc.toList ks := ints_of_keys hpk al fun n v hv => got.2 n v (by rw [← Array.getElem?_toList]; exact hv)
  have I1 : Inv X pins σ H { s with heap := hp, toks := tk } := I.kept keep
  refine wpAny_bind (wpAny_newList ?_ (by rw [al, sizeLine_eq]; omega))
  have ho : (hp.push (seqObj "list" acc.toList.toArray 0)).get? hp.objs.size = some (seqObj "list" acc.toList.toArray 0) := Heap.get?_push_size _ rfl
  refine wpAny_bind (wpAny_holding (wpAny_call_entry slot_list_sort ⟨_, ho, rfl⟩ entry_list_sort (SrtO.list_sort_ord SrtO.swo_int ho (by rw [al, sizeLine_eq]; omega) (fun two => SrtO.ints_sortable iv two) fun out h1 h2 => ⟨_, rfl, ?_⟩) (args_list_sort _)))
  obtain ⟨k1, k2, k3⟩ := SrtO.ints_out iv h1 h2
  obtain ⟨n', at'⟩ := sortedHeap_at (vs := acc.toList) (out := out.toArray) ho
  have ol : ((out.map SrtO.iv).map V.int).length ≤ sizeLine := by rw [List.length_map, k2.length_eq, sizeLine_eq]; omega
  refine wpAny_pure ⟨_, rfl, .ref hp.objs.size, upd H hp.objs.size (.lst ((out.map SrtO.iv).map V.int)), I1.laid (t' := tk) (fun c u hc => ?_) (Nat.le_refl _) ⟨ol, out, n', vals_of_ints k1, at'⟩, rfl, q _ _ k2 k3 (I1.hok.fresh (Nat.le_refl _))⟩
  have lt := Heap.lt_size hc
  rw [sortedHeap_old (Nat.ne_of_lt lt) (by rw [size_push']; exact Nat.lt_succ_of_lt lt)]
  exact Heap.get?_push_of_some _ hc
end
end L2
namespace G8
open PySem L2
def ksOf : List (Key × Dt) → Option (List Int)
  | [] => some []
  | (.inl i, _) :: r => (ksOf r).map fun s => i :: s
  | _ => none
theorem ksOf_eq : ∀ {kvs : List (Key × Dt)} {ks : List Int}, ksOf kvs = some ks → kvs.map (·.1) = ks.map Sum.inl
  | [], ks, h => by cases h; rfl
  | (.inl i, d) :: r, ks, h => by
    rw [ksOf] at h
    cases e : ksOf r with
    | none => rw [e] at h; cases h
    | some s =>
      rw [e] at h
      cases h
      rw [List.map_cons, List.map_cons, ksOf_eq e]
  | (.inr x, d) :: r, ks, h => by cases h
def sortK (i : Nat) : M Rv := optM fun ρ => (slotK ρ[i]?).bind fun kvs => (ksOf kvs).bind fun ks => if ks.length ≤ 1000 then some (.l ((ks.mergeSort fun a b => decide (a ≤ b)).map PyData.int)) else none
theorem sorted_unique {a b : List Int} (hp : a.Perm b) (ha : a.Pairwise (· ≤ ·)) (hb : b.Pairwise (· ≤ ·)) : a = b := List.Perm.eq_of_pairwise (fun x y _ _ h1 h2 => Int.le_antisymm h1 h2) ha hb hp
theorem srt_sorted' (ks : List Int) : (ks.mergeSort fun a b => decide (a ≤ b)).Pairwise (· ≤ ·) := by
  have := List.pairwise_mergeSort (le := fun (a b : Int) => decide (a ≤ b)) (fun a b c h1 h2 => by simp at *; omega) (fun a b => by simp; omega) ks
  exact this.imp fun h => by simpa using h
theorem m_sortK {X : Cx} {b : Bs} {W : WX} {x : Str} {pn p apos cpos pos : Pos} (calm : X.calm = true) (i : Nat) (hv : PE X (.Name x pn) (tVar i)) (hg : Gl X "sorted") (hm : X.mg "sorted" = none)
    (hbase : attributeBase (.Name x pn) "keys" X.env (eval (.Name x pn) X.env) = eval (.Name x pn) X.env := by rfl) (hline : (apos.endLine == cpos.line) = true := by rfl)
    (hs : starEach [.Call (.Attribute (.Name x pn) "keys" apos) [] [] cpos] X.env = (false, eval (.Call (.Attribute (.Name x pn) "keys" apos) [] [] cpos) X.env) :: starEach [] X.env := by rfl) :
    PE X (.Call (.Name "sorted" p) [.Call (.Attribute (.Name x pn) "keys" apos) [] [] cpos] [] pos) (tV b W (sortK i)) :=
  weakE (pe_callB (cr_sortV calm) hg hm (by decide +kernel) (pa_cons (pe_keysV hv hbase hline) pa_nil) (by decide) (by decide) hs) fun σ H Q ⟨c, G, ρ, S, q⟩ => by
    obtain ⟨r, h1, _⟩ := q.opt S
    have q0 : sortK i ρ = .ok r ρ := by
      unfold sortK
      rw [optM_ap, h1]
    rw [q0] at q
    cases e1 : slotK ρ[i]? with
    | none => rw [e1] at h1; cases h1
    | some kvs =>
      cases e2 : ksOf kvs with
      | none => rw [e1] at h1; simp [e2] at h1
      | some ks =>
        rw [e1] at h1
        simp only [Option.bind_some, e2] at h1
        split at h1
        · rename_i hl
          cases h1
          obtain ⟨u, hu⟩ := var_at S e1
          obtain ⟨a, vs, rfl, rd, rk⟩ := slot_rd S hu e1
          refine ⟨.ref a, hu, a, vs, rfl, rd, fun w hw => ?_⟩
          have ne : a ≠ w := fun z => by
            subst z
            rcases rd with z | ⟨o, z⟩ <;> rw [hw] at z <;> cases z
          have rd2 : Rd (upd H w (viewO a w)) a (.dK vs) := by
            rcases rd with z | ⟨o, z⟩
            · exact .inl (by rw [upd_ne ne]; exact z)
            · exact .inr ⟨o, by rw [upd_ne ne]; exact z⟩
          have S1 := S.alloc (o := viewO a w) hw
          refine ⟨a, w, vs, ks, rfl, upd_same, rd2, (rk_keys rk).trans (ksOf_eq e2), hl, fun ys p pm srt hp => ?_⟩
          have ey : ks.mergeSort (fun a b => decide (a ≤ b)) = ys := sorted_unique ((List.mergeSort_perm ks _).trans pm.symm) (srt_sorted' ks) srt
          rw [ey] at q
          exact q _ G (Same.refl G) (S1.alloc hp) (.ref p) ⟨p, ys.map V.int, rfl, upd_same, S1.free hp, Rps.of_ints ys, S1.fresh0 hp⟩ fun p' e _ => by cases e; exact S1.noOwn hp
        · cases h1
end G8
namespace G8
open PySem PySem.Spec PyProof.Rows L2
/-! range of three, up or down by ones -/
theorem RgC_one {i j : Int} (ha : -(2 ^ 62) ≤ i) (ha' : i < 2 ^ 62) (hb : -(2 ^ 62) ≤ j) (hb' : j < 2 ^ 62) : RgC i j 1 (j - i).toNat := by
  refine ⟨by decide, by decide, PySem.small_one ha ha' hb hb', ?_⟩
  rw [PySem.rangeSize_one]
  split <;> omega
def rg3u (fl : M (List Av)) : M (List Dt) := bindM fl fun as => optM fun ρ => (fzs ρ as).bind fun xs => (int3 xs).bind fun q => if mid q.1 && mid q.2.1 then (if q.2.2 = -1 then some (rangeC q.1 (-1) (q.1 - q.2.1).toNat) else if q.2.2 = 1 then some (rangeC q.1 1 (q.2.1 - q.1).toNat) else none) else none
@[simp] theorem rg3u_ap (fl : M (List Av)) (ρ : Ev) : rg3u fl ρ = bindM fl (fun as => optM fun ρ => (fzs ρ as).bind fun xs => (int3 xs).bind fun q => if mid q.1 && mid q.2.1 then (if q.2.2 = -1 then some (rangeC q.1 (-1) (q.1 - q.2.1).toNat) else if q.2.2 = 1 then some (rangeC q.1 1 (q.2.1 - q.1).toNat) else none) else none) ρ := rfl
section
variable {X : Cx} {b : Bs} {W : WX} {tg l : Expr} {fa : M Av} {fl : M (List Av)}
theorem i_range3u {a a2 a3 : Expr} {p pos : Pos} (ha : PA X [a, a2, a3] (tL b W fl)) (hp : ∀ {ta : TA}, PA X [a, a2, a3] ta → PI X tg (.Call (.Name "range" p) [a, a2, a3] [] pos) (iRng3 ta)) : PI X tg (.Call (.Name "range" p) [a, a2, a3] [] pos) (tI b W (rg3u fl)) :=
  weakI (hp ha) fun σ H R ⟨c, G, ρ, S, q⟩ => ⟨c, G, ρ, S, (Post.bind q).imp fun as ρ1 G1 H1 e1 S1 q1 vs hv => by
    obtain ⟨ds, h1, h2⟩ := q1.opt S1
    cases hx : fzs ρ1 as with
    | none => rw [hx] at h1; cases h1
    | some xs =>
      rw [hx, Option.bind_some] at h1
      cases hy : int3 xs with
      | none => rw [hy] at h1; cases h1
      | some j =>
        rw [hy, Option.bind_some] at h1
        split at h1
        · rename_i hj
          rw [Bool.and_eq_true] at hj
          obtain ⟨j1, j2⟩ := hj
          have ev := rps_int3 (fzs_of S1 hv hx) hy
          split at h1
          · rename_i j3
            cases h1
            rw [j3] at ev
            exact ⟨j.1, j.2.1, -1, _, ev, RgC.neg (mid_of j1).1 (mid_of j1).2 (mid_of j2).1 (mid_of j2).2, h2 _ (yl_rangeC _ _ _ _ _)⟩
          · split at h1
            · rename_i j3
              cases h1
              rw [j3] at ev
              exact ⟨j.1, j.2.1, 1, _, ev, RgC_one (mid_of j1).1 (mid_of j1).2 (mid_of j2).1 (mid_of j2).2, h2 _ (yl_rangeC _ _ _ _ _)⟩
            · cases h1
        · cases h1⟩
end
/-! list of a list of ints of the top -/
theorem rps_intsC {K : Fg} {G : Hp} : ∀ l : List Int, Rps K G (l.map V.int) (l.map PyData.int)
  | [] => .nil
  | i :: l => .cons (.int i) (rps_intsC l)
section
variable {X : Cx} {b : Bs} {W : WX} {x : Str} {p p2 pos : Pos}
theorem m_listC {l : List Int} {a : Addr} (hK : X.K = b.K) (hg : Gl X "list") (hm : X.mg "list" = none) (hg2 : Gl X x) (hm2 : X.mg x = some (.ref a)) (ht : ∀ H, SqL b.K H a (l.map V.int)) (hd : (x == ("__debug__" : Str)) = false := by decide)
    (hs : starEach [.Name x p2] X.env = (false, eval (.Name x p2) X.env) :: starEach [] X.env := by rfl) : PE X (.Call (.Name "list" p) [.Name x p2] [] pos) (tV b W (retM (.l (l.map PyData.int)))) :=
  weakE (pe_callTy call_list_of hg hm (by decide +kernel) (pa_cons (pe_glob (v := .ref a) hg2 hm2 rfl hd) pa_nil hs) (by decide) (by decide) hs) fun σ H Q ⟨c, G, ρ, S, q⟩ =>
    ⟨a, l.map V.int, rfl, .inl (by rw [hK]; exact ht H), fun l' hl => fin_l S (fun v' H' G' ee SS rr ap => q H' G' ee SS v' rr ap) hl (rps_intsC l)⟩
end
end G8
namespace L2
open PySem PySem.Spec PyProof.Rows
/-! how many tuples of ints are in a list, each once: len(set(..)) -/
def tDistinct (K : PySem.W.Frag) (tl : TE) : TE := fun σ H Q => tl σ H fun v G => ∃ (b : Addr) (us : List (Addr × List Int)), v = .ref b ∧ SqL K G b (us.map fun u => V.ref u.1) ∧ (∀ u ∈ us, SqT K G u.1 (u.2.map V.int)) ∧ us.length < 64 ∧
  ∀ (L : List (Addr × List Int)), (L.map (·.2)).Nodup → (∀ u ∈ L, u ∈ us) → (∀ u ∈ us, u.2 ∈ L.map (·.2)) → Q (.int (L.length : Nat)) G
theorem pe_distinct {X : Cx} {e : Expr} {te : TE} {p1 p2 p3 p4 : Pos} (hc : X.calm = true) (hu : X.A.units + 64 < cLine) (gl : Gl X "len") (ml : X.mg "len" = none) (gs : Gl X "set") (ms : X.mg "set" = none) (he : PE X e te)
    (ne : starEach [e] X.env = (false, eval e X.env) :: starEach [] X.env := by rfl) : PE X (.Call (.Name "len" p1) [.Call (.Name "set" p2) [e] [] p3] [] p4) (tDistinct X.K te) := by
  refine ⟨fun pins st σ H Q J hq => ?_⟩
  refine Call_ (ld_blt J gl ml PySem.boot_len ?_)
  refine callWith_builtin1 (args_cons ?_ rfl) rfl rfl
  refine Call_ (ld_blt J gs ms boot_set ?_)
  refine callWith_type1 (args_cons (thn (he.run pins st σ H _ J hq) fun u st1 ⟨x, H1, J1, r1, q1⟩ => args_nil ?_) ne) ne rfl
  obtain ⟨b, us, rfl, hb, ht, hf, q1⟩ := q1
  cases r1
  obtain ⟨its, rv, pl, hz⟩ := J1.list hb
  refine call_set_tups (P := X.prog) (w := X.w) us (J1.ok.hd hc) pl.isList (by simpa using refs_of_vals rv) (fun u hu => J1.isT (ht u hu)) hf (by omega) fun h' tk L es ep t R g kp => ?_
  refine args_nil ?_
  have J2 : Inv X pins σ H1 { st1 with heap := h', toks := tk } := J1.kept kp
  obtain ⟨o, ho, hex, hd⟩ := R.ob
  have sz := R.size (s := { st1 with heap := h', toks := tk })
  have few := R.few
  refine call_len_set ho hex hd (R.fits (s := { st1 with heap := h', toks := tk })) (by rw [sz]; omega) ⟨.int (L.length : Nat), H1, J2.tok _, ⟨_, by rw [sz]⟩, q1 L R.nd (fun u hu => List.mem_of_mem_take (g.sub u hu)) fun u hu => g.all u (by rw [List.take_length]; exact hu)⟩
end L2
namespace G8
open PySem L2
def intsO : List Dt → Option (List Int)
  | [] => some []
  | .int i :: ds => (intsO ds).map fun is => i :: is
  | _ => none
def tupsOf : List Dt → Option (List (List Int))
  | [] => some []
  | .tuple xs :: ds => (intsO xs).bind fun is => (tupsOf ds).map fun r => is :: r
  | _ => none
def dd : List (List Int) → List (List Int)
  | [] => []
  | x :: xs => if x ∈ dd xs then dd xs else x :: dd xs
theorem dd_all : ∀ l : List (List Int), (dd l).Nodup ∧ ∀ x, x ∈ dd l ↔ x ∈ l
  | [] => ⟨List.nodup_nil, fun x => Iff.rfl⟩
  | y :: l => by
    obtain ⟨h1, h2⟩ := dd_all l
    rw [dd]
    by_cases h : y ∈ dd l
    · rw [if_pos h]
      refine ⟨h1, fun x => ?_⟩
      rw [h2 x, List.mem_cons]
      constructor
      · exact .inr
      · rintro (q | q)
        · rw [q]; exact (h2 y).mp h
        · exact q
    · rw [if_neg h]
      exact ⟨List.nodup_cons.mpr ⟨h, h1⟩, fun x => by rw [List.mem_cons, List.mem_cons, h2 x]⟩
theorem dd_len {l m : List (List Int)} (hm : m.Nodup) (h1 : ∀ x ∈ m, x ∈ l) (h2 : ∀ x ∈ l, x ∈ m) : m.length = (dd l).length := by
  have d := dd_all l
  exact ((List.perm_ext_iff_of_nodup hm d.1).mpr fun x => ⟨fun z => (d.2 x).mpr (h1 x z), fun z => h2 x ((d.2 x).mp z)⟩).length_eq
theorem intsO_of {K : Fg} {G : Hp} : ∀ {ds : List Dt} {vs : List V} {is : List Int}, intsO ds = some is → Rps K G vs ds → vs = is.map V.int
  | [], vs, is, e, r => by
    cases e
    cases r
    rfl
  | d :: ds, vs, is, e, r => by
    cases r with
    | cons r1 r2 =>
      cases r1 with
      | int i =>
        rw [intsO] at e
        cases h : intsO ds with
        | none => rw [h] at e; cases e
        | some js =>
          rw [h] at e
          cases e
          rw [intsO_of h r2]
          rfl
      | non => simp [intsO] at e
      | bl => simp [intsO] at e
      | str => simp [intsO] at e
      | lst => simp [intsO] at e
      | tup => simp [intsO] at e
theorem tupsOf_of {K : Fg} {G : Hp} : ∀ {ds : List Dt} {vs : List V} {ts : List (List Int)}, tupsOf ds = some ts → Rps K G vs ds → ∃ us : List (Addr × List Int), vs = us.map (fun u => V.ref u.1) ∧ us.map (·.2) = ts ∧ ∀ u ∈ us, SqT K G u.1 (u.2.map V.int)
  | [], vs, ts, e, r => by
    cases e
    cases r
    exact ⟨[], rfl, rfl, fun u hu => by cases hu⟩
  | d :: ds, vs, ts, e, r => by
    cases r with
    | cons r1 r2 =>
      cases r1 with
      | tup h1 h2 =>
        rename_i a xs es
        rw [tupsOf] at e
        cases h : intsO es with
        | none => rw [h] at e; cases e
        | some is =>
          rw [h] at e
          cases h' : tupsOf ds with
          | none => rw [h'] at e; cases e
          | some rest =>
            rw [h'] at e
            cases e
            obtain ⟨us, e1, e2, e3⟩ := tupsOf_of h' r2
            have := intsO_of h h2
            subst this
            refine ⟨(a, is) :: us, by rw [e1]; rfl, by rw [List.map_cons, e2], fun u hu => ?_⟩
            rcases List.mem_cons.mp hu with q | q
            · rw [q]; exact h1.sq
            · exact e3 u q
      | non => simp [tupsOf] at e
      | bl => simp [tupsOf] at e
      | str => simp [tupsOf] at e
      | int => simp [tupsOf] at e
      | lst => simp [tupsOf] at e
def disD : Dt → Option Dt
  | .list xs => (tupsOf xs).bind fun ts => if ts.length < 64 then some (.int (((dd ts).length : Nat) : Int)) else none
  | _ => none
def disM (fa : M Av) : M Av := bindM fa fun a => optM fun ρ => ((res ρ a).bind disD).map Av.d
@[simp] theorem disM_ap (fa : M Av) (ρ : Ev) : disM fa ρ = bindM fa (fun a => optM fun ρ => ((res ρ a).bind disD).map Av.d) ρ := rfl
theorem m_lenSet {X : Cx} {b : Bs} {W : WX} {e : Expr} {fa : M Av} {p1 p2 p3 p4 : Pos} (hK : X.K = b.K) (hc : X.calm = true) (hu : X.A.units + 64 < cLine) (gl : Gl X "len") (ml : X.mg "len" = none) (gs : Gl X "set") (ms : X.mg "set" = none) (he : PE X e (tE b W fa))
    (ne : starEach [e] X.env = (false, eval e X.env) :: starEach [] X.env := by rfl) : PE X (.Call (.Name "len" p1) [.Call (.Name "set" p2) [e] [] p3] [] p4) (tE b W (disM fa)) :=
  weakE (pe_distinct hc hu gl ml gs ms he ne) fun σ H Q ⟨c, G, ρ, S, q⟩ => ⟨c, G, ρ, S, (Post.bind q).imp fun a ρ1 G1 H1 e1 S1 q1 v hv => by
    obtain ⟨z, h1, h2⟩ := q1.opt S1
    cases hx : res ρ1 a with
    | none => rw [hx] at h1; cases h1
    | some d =>
      rw [hx, Option.bind_some] at h1
      cases d with
      | list xs =>
        cases ht : tupsOf xs with
        | none => rw [disD, ht] at h1; cases h1
        | some ts =>
          rw [disD, ht, Option.bind_some] at h1
          by_cases hl : ts.length < 64
          · rw [if_pos hl] at h1
            cases h1
            have ro : ROs b.K G1 H1 [v] [.list xs] := ress_of S1 (as := [a]) (.cons hv .nil) (by show (res ρ1 a).bind _ = _; rw [hx]; rfl)
            obtain ⟨v', hv', r⟩ := ros1 ro
            cases hv'
            obtain ⟨p, vs, rfl, r1, r2⟩ := r.list S1.gh
            obtain ⟨us, u1, u2, u3⟩ := tupsOf_of ht r2
            subst u1
            subst u2
            rw [hK]
            refine ⟨p, us, rfl, SqL.of r1, fun u hu => same_sqT S1.gh (u3 u hu), by simpa using hl, fun L n1 n2 n3 => ?_⟩
            have el : L.length = (dd (us.map (·.2))).length := by
              have := dd_len (l := us.map (·.2)) n1 (fun x hx => by
                obtain ⟨u, hu, rfl⟩ := List.mem_map.mp hx
                exact List.mem_map.mpr ⟨u, n2 u hu, rfl⟩) (fun x hx => by
                obtain ⟨u, hu, rfl⟩ := List.mem_map.mp hx
                exact n3 u hu)
              rwa [List.length_map] at this
            rw [el]
            exact h2 _ (.int _)
          · rw [if_neg hl] at h1
            cases h1
      | _ => cases h1⟩
/-! try: .. except X: y = constant, for some kinds alone -/
def tryQ (ks : List Nat) (g : Nat → Bool) (h f : M Fl) : M Fl := fun ρ => match f ρ with
  | .err k ρ' => if k ∈ ks then (if g k then h ρ' else .err k ρ') else .bad
  | o => o
@[simp] theorem tryQ_ap (ks : List Nat) (g : Nat → Bool) (h f : M Fl) (ρ : Ev) : tryQ ks g h f ρ = (match f ρ with
  | .err k ρ' => if k ∈ ks then (if g k then h ρ' else .err k ρ') else .bad
  | o => o) := rfl
structure ExsQ (b : Bs) (c : Value) (ks : List Nat) (g : Nat → Bool) : Prop where
  is : ∀ k ∈ ks, PySem.W.exmOne b.K (.ref (b.C k)) c = some (g k)
def fExq (cv : Fg → Value) (ks : List Nat) (g : Nat → Bool) (K : Fg) : Bool := ks.all fun k => decide (PySem.W.exmOne K (.ref (exC K k)) (cv K) = some (g k))
theorem fExq_of {K : Fg} {cv : Fg → Value} {ks : List Nat} {g : Nat → Bool} (h : fExq cv ks g K = true) : ExsQ (bs K) (cv K) ks g := ⟨fun k hk => of_decide_eq_true (List.all_eq_true.mp h k hk)⟩
theorem noerr_set (i : Nat) (x : Dt) : ∀ ρ k ρ', setM i (dataM (retM (.d x))) ρ ≠ .err k ρ' := fun ρ k ρ' h => by
  unfold setM at h
  rw [bindM_ap, show dataM (retM (.d x)) ρ = .ok (.d x) ρ from rfl] at h
  dsimp only at h
  rw [bindM_ap] at h
  unfold putM at h
  by_cases hr : refAt ρ[i]? = true
  · rw [if_pos hr] at h
    cases h
  · rw [if_neg hr] at h
    cases h
theorem s_tryQ {X : Cx} {b : Bs} {W : WX} {x : Str} {c : Value} {body suite : List Stmt} {s0 : Stmt} {np pos pos' : Pos} {ks : List Nat} {g : Nat → Bool} {f h : M Fl} (hK : X.K = b.K) (hs : X.stack = X.env :: X.outer) (hf : X.env.frame = some X.env.locals) (hc : Names X x c) (tk : Takes X W) (E : ExsQ b c ks g) (hn : ∀ ρ k ρ', h ρ ≠ .err k ρ')
    (hb : ∀ (W' : WX) (pn : List (Addr × Obj)) (xe : Value → Shared → Prop), Takes (X.tr pn xe) W' → PassesOwn (model X.prog X.w) X.A X.env xe → PSs (X.tr pn xe) body (tS b W' f))
    (hsu : ∀ (a : Addr) (oe : Obj) (pn : List (Addr × Obj)), PSs (X.suite a ((a, oe) :: pn)) (s0 :: suite) (tS b W0 h)) :
    PS X (.Try body [.ExceptHandler (some (.Name x np)) none (s0 :: suite) pos'] [] [] pos) (tS b W (tryQ ks g h f)) := by
  refine weakS (ps_try_only (tb := fun W' => tS b W' f) (ts := fun _ _ _ => tS b W0 h) hs hf hc tk hb (fun a oe _ _ pn _ _ => hsu a oe pn)) fun D σ H ⟨cc, G, ρ, hfn, S, q⟩ => ?_
  refine ⟨cc, G, ρ, hfn, S, ?_⟩
  unfold tryQ at q
  cases e : f ρ with
  | bad => rw [e] at q; exact q
  | ok fl ρ1 =>
    rw [e] at q
    cases fl <;> exact q
  | err k ρ1 =>
    rw [e] at q
    by_cases hks : k ∈ ks
    · have q : PostS b cc W G D (if k ∈ ks then (if g k = true then h ρ1 else .err k ρ1) else .bad) := q
      rw [if_pos hks] at q
      intro σ1 H1 G1 e1 S1
      refine ⟨g k, by rw [hK]; exact E.is k hks, fun hg a ha => ?_, fun hg => ?_⟩
      · rw [if_pos hg] at q
        refine ⟨cc, G1, ρ1, hfn, S1, ?_⟩
        have q := PostS.mono e1 q
        cases e2 : h ρ1 with
        | bad => rw [e2] at q; exact q.elim
        | err k2 ρ2 => exact absurd e2 (hn _ _ _)
        | ok fl ρ2 =>
          rw [e2] at q
          cases fl <;> exact q
      · rw [if_neg (by rw [hg]; exact Bool.false_ne_true)] at q
        exact q σ1 H1 G1 e1 S1
    · have q : PostS b cc W G D (if k ∈ ks then (if g k = true then h ρ1 else .err k ρ1) else .bad) := q
      rw [if_neg hks] at q
      exact q.elim
/-! x in d, as a test -/
theorem m_tinK {X : Cx} {b : Bs} {W : WX} {x : Str} {a : Expr} {fa : M Av} {pn pos : Pos} (hu : X.A.units + 1 < cLine) (i : Nat) (ha : PE X a (tE b W fa)) (hv : PE X (.Name x pn) (tVar i)) : PT X (.Compare a [.In] [.Name x pn] pos) (tT b W (testM (inK false i fa))) := weakT (pt_cmp (pc_din hu ha hv)) fun σ H Q ⟨c, G, ρ, S, q⟩ => ⟨c, G, ρ, S, (Post.bind (Post.bind q)).imp fun z ρ1 G1 H1 e1 S1 q1 v hv => by
  obtain ⟨k, h1, h2⟩ := q1.opt S1
  cases e1 : slotK ρ1[i]? with
  | none => rw [e1] at h1; cases h1
  | some kvs =>
    cases e2 : (res ρ1 z).bind dkey with
    | none => rw [e1, e2] at h1; cases h1
    | some kk =>
      rw [e1, e2] at h1
      cases h1
      obtain ⟨u, hu⟩ := var_at S1 e1
      obtain ⟨p, o, rfl, g, is, _⟩ := get_core S1 hv hu e1 e2
      refine ⟨.ref p, hu, p, o, rfl, g, ?_⟩
      rw [is]
      obtain ⟨bb, h3, h4⟩ := h2.opt S1
      cases h3
      exact ⟨_, rfl, h4⟩⟩
theorem m_tinKN {X : Cx} {b : Bs} {W : WX} {x : Str} {a : Expr} {fa : M Av} {pn pos : Pos} (hu : X.A.units + 1 < cLine) (i : Nat) (ha : PE X a (tE b W fa)) (hv : PE X (.Name x pn) (tVar i)) : PT X (.Compare a [.NotIn] [.Name x pn] pos) (tT b W (testM (inK true i fa))) := weakT (pt_cmp (pc_dnotin hu ha hv)) fun σ H Q ⟨c, G, ρ, S, q⟩ => ⟨c, G, ρ, S, (Post.bind (Post.bind q)).imp fun z ρ1 G1 H1 e1 S1 q1 v hv => by
  obtain ⟨k, h1, h2⟩ := q1.opt S1
  cases e1 : slotK ρ1[i]? with
  | none => rw [e1] at h1; cases h1
  | some kvs =>
    cases e2 : (res ρ1 z).bind dkey with
    | none => rw [e1, e2] at h1; cases h1
    | some kk =>
      rw [e1, e2] at h1
      cases h1
      obtain ⟨u, hu⟩ := var_at S1 e1
      obtain ⟨p, o, rfl, g, is, _⟩ := get_core S1 hv hu e1 e2
      refine ⟨.ref p, hu, p, o, rfl, g, ?_⟩
      rw [is]
      obtain ⟨bb, h3, h4⟩ := h2.opt S1
      cases h3
      exact ⟨_, rfl, h4⟩⟩
end G8
namespace G8
open PySem L2
/-! a call with keywords of which only the arguments ahead are told: what they raise -/
def sortBad (fl : M (List Av)) : M Rv := bindM fl fun _ => badM
theorem sortBad_ap (fl : M (List Av)) (ρ : Ev) : sortBad fl ρ = match fl ρ with
  | .ok _ _ => .bad
  | .err k ρ' => .err k ρ'
  | .bad => .bad := by
  unfold sortBad bindM badM
  cases fl ρ <;> rfl
section
variable {b : Bs} {W : WX} {X : Cx} {p pos : Pos} {e : Expr} {kws : List Keyword} {fl : M (List Av)}
theorem pe_argsOnly {t : TA} (hg : Gl X "sorted") (hm : X.mg "sorted" = none) (ha : PA X [e] t) (hs : starEach [e] X.env = (false, eval e X.env) :: starEach [] X.env := by rfl)
    (hall : (backToKw pos (keywordEach kws X.env)).all (·.1.isSome) = true := by rfl) (hnone : (backToKw pos (keywordEach kws X.env)).any (·.1.isNone) = false := by rfl) :
    PE X (.Call (.Name "sorted" p) [e] kws pos) (fun σ H Q => t σ H fun _ _ => False) := by
  refine ⟨fun pins s σ H Q I h => ?_⟩
  refine wpAny_Call_Name_kw (ld_blt I hg hm (show bootBuiltins "sorted" = some (.builtin "sorted") by decide +kernel) ?_ (by decide) (by decide))
  refine PyProof.Rows.callWith_kw (thn (ha.run pos pins s σ H _ I h) fun us s1 ⟨vs, H1, I1, r1, q1⟩ => q1.elim) (by rw [hs]; rfl) (by rw [hs]; rfl) hall hnone
theorem m_sortBad (hg : Gl X "sorted") (hm : X.mg "sorted" = none) (ha : PA X [e] (tL b W fl)) (hs : starEach [e] X.env = (false, eval e X.env) :: starEach [] X.env := by rfl)
    (hall : (backToKw pos (keywordEach kws X.env)).all (·.1.isSome) = true := by rfl) (hnone : (backToKw pos (keywordEach kws X.env)).any (·.1.isNone) = false := by rfl) :
    PE X (.Call (.Name "sorted" p) [e] kws pos) (tV b W (sortBad fl)) :=
  weakE (pe_argsOnly hg hm ha hs hall hnone) fun σ H Q ⟨c, G, ρ, S, q⟩ => ⟨c, G, ρ, S, (Post.bind q).imp fun a ρ1 G1 H1 e1 S1 q1 v hv => q1.elim⟩
end
end G8
namespace L2
open PySem PySem.Spec PyProof.Rows
/-! sorted(xs, key=lambda one: one[1]) -/
/-- a lambda of one parameter, with no other name -/
structure LamOne (scope : Scope) (x : Str) : Prop where
  kind : scope.kind = .function
  co : scope.isCoroutine = false
  gen : scope.isGenerator = false
  nm : scope.names = [(x, .local)]
abbrev itemB (x : Str) (p1 p2 p3 : Pos) (j : Nat) : Expr := .Subscript (.Name x p1) (.Constant (.int 1) j p2) p3
/-- what is known of the lambda's object -/
structure LamAt (h : Heap) (f : Addr) (q : Str) (params : Arguments) (body : Expr) (scope : Scope) : Prop where
  ex : ∃ (c : Addr) (pm ctv : Value), h.get? f = some (PySem.W.kla_obj "<lambda>" q params body scope [] pm c ctv) ∧ h.CodeRec (.ref c) q
theorem LamAt.keeps {h h' : Heap} {f : Addr} {q : Str} {params : Arguments} {body : Expr} {scope : Scope} (l : LamAt h f q params body scope) (k : ∀ b o, h.get? b = some o → h'.get? b = some o) : LamAt h' f q params body scope := by
  obtain ⟨c, pm, ctv, h1, h2⟩ := l.ex
  exact ⟨c, pm, ctv, k _ _ h1, h2.keeps k⟩
section
variable {prog : Program} {w : World}
theorem lam_item {A : Around} {s : Shared} {f t : Addr} {q x : Str} {params : Arguments} {scope : Scope} {p1 p2 p3 : Pos} {jj : Nat} {l : List Value} {i : Int} {tk : Tok}
    (hroom : A.depth < recursionLimit) (lim : s.heap.NoLimit) (L : LamAt s.heap f q params (itemB x p1 p2 p3 jj) scope)
    (hbind : ∀ (pm cv ctv v : Value), bindArgs (PySem.W.kla_fn "<lambda>" q params (itemB x p1 p2 p3 jj) scope [] pm cv ctv) ⟨[v], []⟩ = pure [(x, v)])
    (S : LamOne scope x) (hd : (x == ("__debug__" : Str)) = false) (ht : IsTup s.heap t l.toArray) (hx : l[1]? = some (.int i tk)) :
    wpAny (model prog w) A (call (.ref f) [.ref t]) (PySem.W.KeyPure (.int i) s) (fun _ _ => False) s := by
  obtain ⟨c, pm, ctv, hf, hc⟩ := L.ex
  refine wpAny_call (PySem.W.kla_callFunE hroom hf rfl S.co S.gen rfl hc ?_)
  rw [hbind]
  refine wpAny_pure (wpAny_newFunctionEnv (fun y hy => ?_) (fun y hy => ?_) (fun h₁ hns hsb => ⟨lim.fresh _ hsb, ?_⟩) S.kind)
  · have hy : y ∈ scope.names := hy
    rw [S.nm] at hy
    rcases List.mem_singleton.mp hy with rfl
    intro z
    cases z
  · rcases List.mem_singleton.mp hy with rfl
    show scope.names.lookup x = some .local
    rw [S.nm]
    simp
  have kp : ∀ b o, s.heap.get? b = some o → h₁.get? b = some o := fun b o e => hsb.extBut b o (Nat.ne_of_lt (Heap.lt_size e)) (Heap.get?_push_of_some _ e)
  show codeAny _ _ (.expr (itemB x p1 p2 p3 jj) (PySem.W.envX q scope s.heap.objs.size f (.ref c) [])) _ _
  refine PySem.W.kla_codeExpr ?_
  have hk : (PySem.W.envX q scope s.heap.objs.size f (.ref c) []).kindOf x = some .local := by
    show scope.names.lookup x = some .local
    rw [S.nm]
    simp
  refine PyProof.Rows.Subscript_ (wpAny_Name (wpAny_loadName_local (v := .ref t) S.kind hk hns (by simp) ?_) hd)
  refine wpAny_Constant_int ?_
  refine PyProof.Rows.item_tupleL (l := l) (j := 1) (ht.keeps kp) (by decide) (by decide) ?_ hx ?_
  · have : 1 < l.length := (List.getElem?_eq_some_iff.mp hx).1
    exact seqIndex_of (by decide) (by omega)
  · exact ⟨h₁, _, rfl, kp, .int i tk⟩
end
section
variable {X : Cx} {pins : List (Addr × Obj)} {σ : St} {H : Hp} {s : Shared}
/-- the lambda is made; the heap told to the sign -/
theorem lam_exact {c P : Addr} {params : Arguments} {body : Expr} {scope : Scope} {pos : Pos} {E Q : Value → Shared → Prop} (I : Inv X pins σ H s) (TB : LamX.TabB X.base X.mg c P) (hcode : X.env.code = .ref c)
    (hT : LamX.TabS H P (X.env.qual ++ "<lambda>")) (hdef : defaultsOf params X.env = ([], [])) (hcl : closureFor scope X.env = pure [])
    (h : ∀ (f : Addr) (H1 : Hp) (s' : Shared), Inv X pins σ H1 s' → LamAt s'.heap f (X.env.qual ++ "<lambda>") params body scope → LamX.TabS H1 P (X.env.qual ++ "<lambda>") →
      (H1 = H ∨ ∃ (c' : Addr) (ps : Array Value), H c' = none ∧ H1 = upd (upd H P (.tbl ps)) c' (LamX.CodeO c' (X.env.qual ++ "<lambda>"))) → Q (.ref f) s') :
    wpAny (model X.prog X.w) X.A (eval (.Lambda params body scope pos) X.env) Q E s := by
  obtain ⟨ps, hP, tr, ha⟩ := hT
  have tab : s.heap.get? P = some { cls := .none, data := .fields ps } := I.hok P _ hP
  have glo := I.mod.glob.keeps I.bk
  have blt : s.heap.BuiltinsAt X.mg P := TB.bm.keeps I.bk
  have cod := TB.code.keeps I.bk
  apply PySem.W.kla_eval hdef
  cases e : codeAmong pos ps.toList with
  | some cv =>
    obtain ⟨c1, rfl, hc1⟩ := ha pos cv e
    apply PySem.W.kla_makeFunctionHit (mg := X.mg) hcl I.ok.glob glo hcode cod tab tr e blt
    intro ctv h' tk keep _
    have I1 := I.kept (h' := h'.push (PySem.W.kla_obj "<lambda>" (X.env.qual ++ "<lambda>") params body scope [] ((X.mg "__name__").getD .none) c1 ctv)) (t' := tk) fun b o q => Heap.get?_push_of_some _ (keep b o q)
    obtain ⟨⟨oc, vs, t, g1, g2, g3⟩, _⟩ := I1.hok c1 _ hc1
    exact h _ H _ I1 ⟨c1, _, ctv, Heap.get?_push_size _ rfl, c1, oc, vs, t, rfl, g1, g2, g3⟩ ⟨ps, hP, tr, ha⟩ (.inl rfl)
  | none =>
    apply PySem.W.kla_makeFunction (mg := X.mg) hcl I.ok.glob glo hcode cod tab tr e TB.gP blt
    intro c1 ctv h' tk keep ge lt rec htb
    have fr : H c1 = none := I.hok.fresh ge
    obtain ⟨c2, oc, vs, t, z, g1, g2, g3⟩ := rec
    cases z
    have I1 := LamX.inv_table (t' := tk) (more := #[rawInt pos.line, rawInt pos.col, .ref c1]) (q := X.env.qual ++ "<lambda>") (h' := h'.push (PySem.W.kla_obj "<lambda>" (X.env.qual ++ "<lambda>") params body scope [] ((X.mg "__name__").getD .none) c1 ctv)) I hP
      (fun b o nb q => Heap.get?_push_of_some _ (keep b o nb q)) (Heap.get?_push_of_some _ htb) ge ⟨oc, vs, t, Heap.get?_push_of_some _ g1, g2, g3⟩
    refine h _ _ _ I1 ⟨c1, _, ctv, Heap.get?_push_size _ rfl, c1, oc, vs, t, rfl, Heap.get?_push_of_some _ g1, g2, g3⟩ ?_ (.inr ⟨c1, _, fr, rfl⟩)
    have eL : (ps ++ #[rawInt pos.line, rawInt pos.col, .ref c1]).toList = ps.toList ++ [rawInt pos.line, rawInt pos.col, .ref c1] := by simp
    refine ⟨_, by rw [upd_ne (ne_of_none hP fr), upd_same], by rw [eL]; exact PySem.TriplesOk_snoc _ _ _ _ tr, fun p' cv hcv => ?_⟩
    rw [eL] at hcv
    rcases LamX.among_app _ tr hcv with z | z
    · obtain ⟨c0, e1, e2⟩ := ha p' cv z
      have n0 : c0 ≠ P := fun z => by
        rw [z, hP] at e2
        exact LamX.codeO_ne ps (Option.some.inj e2).symm
      exact ⟨c0, e1, by rw [upd_ne (ne_of_none e2 fr), upd_ne n0]; exact e2⟩
    · exact ⟨c1, z, upd_same⟩
end
end L2
namespace G8
open PySem L2
/-- the table filled, a code object laid -/
theorem SIG.lam {b : Bs} {c : Fc} {G H : Hp} {ρ : Ev} {σ : St} (S : SIG b c G ρ σ H) {P c' : Addr} {q : Str} {ps : Array Value} (hP : (P, q) ∈ b.T) (hu : ∀ p ∈ b.T, p.1 = P → p.2 = q) (hc : H c' = none)
    (ht : LamX.TabS (upd (upd H P (.tbl ps)) c' (LamX.CodeO c' q)) P q) : SIG b c G ρ σ (upd (upd H P (.tbl ps)) c' (LamX.CodeO c' q)) := by
  obtain ⟨ps0, h0, _⟩ := S.tb _ hP
  have gP : G P = none := S.gT hP
  have k : ∀ a o, H a = some o → a ≠ P → upd (upd H P (.tbl ps)) c' (LamX.CodeO c' q) a = some o := fun a o e n => by rw [upd_ne (ne_of_none e hc), upd_ne n]; exact e
  have kl : ∀ {a o}, H a = some o → (∀ qs, o ≠ .tbl qs) → a ≠ P := fun {a o} e n z => by
    rw [z, h0] at e
    exact n _ (Option.some.inj e).symm
  refine ⟨S.len, S.g0, fun a o e hm => k a o (S.gh a o e hm) (fun z => by rw [z, gP] at e; cases e), fun a hm => by obtain ⟨xs, w⟩ := S.gm a hm; exact ⟨xs, k a _ w (kl w fun _ z => by cases z)⟩, fun a o e m n zz => k a o (S.fr a o e m n zz) (fun z => m _ hP z.symm), S.gn, fun i sv e => ?_, S.sp, S.nw, S.rf, fun p hp => ?_, S.ct, S.mzk (Same.refl G) (fun a o ha w => k a o w ?_) (fun i r m p h1 h2 => ⟨i, r, h1, h2⟩), S.m1, S.zz, S.rk⟩
  case refine_3 =>
    rcases ha with ha | ⟨ys, rfl⟩ | ⟨i, s, h1, h2, h3⟩
    · exact ha.ne gP
    · exact kl w fun _ z => by cases z
    · obtain ⟨r, m, rfl⟩ := isMt_of h2
      obtain ⟨v, hv, rs⟩ := S.sl i _ h1
      rw [h3] at hv
      cases hv
      obtain ⟨o1, w1, w2⟩ := rs.kind rfl
      exact kl w1 (plain_ne w2).1
  · obtain ⟨v, hv, r⟩ := S.sl i sv e
    refine ⟨v, hv, r.keep (Same.refl G) fun a u ho ev hq => ?_⟩
    subst ev
    obtain ⟨o1, w1, w2⟩ := r.kind ho
    obtain ⟨p', o', e', _, g'⟩ := r.at ho
    cases e'
    exact ⟨k a u hq fun z => S.notT w1 w2 _ hP z.symm, g'⟩
  · by_cases e : p.1 = P
    · rw [hu p hp e, e]
      exact ht
    · obtain ⟨qs, a1, a2, a3⟩ := S.tb p hp
      refine ⟨qs, k _ _ a1 e, a2, fun pos cv hcv => ?_⟩
      obtain ⟨c0, e1, e2⟩ := a3 pos cv hcv
      refine ⟨c0, e1, k _ _ e2 fun z => ?_⟩
      rw [z, h0] at e2
      exact LamX.codeO_ne ps0 (Option.some.inj e2).symm
/-- the second of a pair of ints -/
def sndI : Dt → Option Int
  | .tuple [.int _, .int j] => some j
  | _ => none
def sndOf (d : Dt) : Int := (sndI d).getD 0
def sortKD : Dt → Option Rv
  | .list ds => if ds.length ≤ 1000 && ds.all (fun d => (sndI d).isSome) then some (.l (ds.mergeSort fun x y => decide (sndOf x ≤ sndOf y))) else none
  | _ => none
def sortKM (fa : M Av) : M Rv := un1 sortKD fa
theorem sndI_eq {d : Dt} {j : Int} (h : sndI d = some j) : ∃ i, d = .tuple [.int i, .int j] := by
  unfold sndI at h
  split at h
  · cases h; exact ⟨_, rfl⟩
  · cases h
/-- an item: what stands, and its data -/
def KR (v : Value) (x : V × Dt) : Prop := RelV x.1 v
theorem keys_of {K : Fg} {G : Hp} : ∀ {vs : List V} {ds : List Dt} {us : List Value}, Rps K G vs ds → Vals vs us → PySem.W.EachIs KR us (vs.zip ds)
  | _, [], _, h, r => by cases h; cases r; exact .nil
  | _, d :: ds, _, h, r => by
    cases h with
    | cons h1 h2 =>
      cases r with
      | cons r1 r2 => exact .cons r1 (keys_of h2 r2)
theorem rps_zip {K : Fg} {G : Hp} : ∀ {vs : List V} {ds : List Dt}, Rps K G vs ds → ∀ p ∈ vs.zip ds, Rp K G p.1 p.2
  | _, [], h, p, m => by cases h; cases m
  | _, d :: ds, h, p, m => by
    cases h with
    | cons h1 h2 =>
      rcases List.mem_cons.mp m with rfl | m
      · exact h1
      · exact rps_zip h2 p m
theorem rps_map {K : Fg} {G : Hp} : ∀ {l : List (V × Dt)}, (∀ p ∈ l, Rp K G p.1 p.2) → Rps K G (l.map (·.1)) (l.map (·.2))
  | [], _ => .nil
  | p :: l, h => .cons (h p List.mem_cons_self) (rps_map fun q m => h q (List.mem_cons_of_mem _ m))
theorem vals_out : ∀ {us : List Value} {l : List (V × Dt)}, PySem.W.EachIs KR us l → Vals (l.map (·.1)) us
  | _, _, .nil => .nil
  | _, _, .cons h t => .cons h (vals_out t)
section
variable {X : Cx} {b : Bs} {W : WX} {fa : M Av}
theorem m_sortKey {c P : Addr} {k : Nat} {e : Expr} {x : Str} {params : Arguments} {scope : Scope} {j : Nat} {p p1 p2 p3 lpos kpos pos : Pos} (hK : X.K = b.K) (hr : Room (k + 2) X.A) (hg : Gl X "sorted") (hm : X.mg "sorted" = none)
    (TB : LamX.TabB X.base X.mg c P) (hcode : X.env.code = .ref c) (hT : b.T = [(P, X.env.qual ++ "<lambda>")]) (hdef : defaultsOf params X.env = ([], [])) (hcl : closureFor scope X.env = pure [])
    (hbind : ∀ (q : Str) (pm cv ctv v : Value), bindArgs (PySem.W.kla_fn "<lambda>" q params (itemB x p1 p2 p3 j) scope [] pm cv ctv) ⟨[v], []⟩ = pure [(x, v)])
    (S1 : LamOne scope x) (hd : (x == ("__debug__" : Str)) = false) (ha : PE X e (tE b W fa)) (hs : starEach [e] X.env = (false, eval e X.env) :: starEach [] X.env := by rfl) :
    PE X (.Call (.Name "sorted" p) [e] [⟨some "key", .Lambda params (itemB x p1 p2 p3 j) scope lpos, kpos⟩] pos) (tV b W (sortKM fa)) := by
  refine ⟨fun pins s σ H Q I h => ?_⟩
  obtain ⟨c0, G, ρ, S, q⟩ := h
  refine wpAny_Call_Name_kw (ld_blt I hg hm (show bootBuiltins "sorted" = some (.builtin "sorted") by decide +kernel) ?_ (by decide) (by decide))
  refine PyProof.Rows.callWith_kw (thn ((pa_cons ha pa_nil hs).run pos pins s σ H (fun vs H1 => ∃ v, vs = [v] ∧ ∃ ρ1 G1 a, SIG b c0 G1 ρ1 σ H1 ∧ RA b.K G1 σ v a ∧ Post b c0 W G1 σ (fun r ρ' G' H' => ∀ v, RN b c0 G' H' v r → Apart ρ' σ v r → Q v H') (optM (fun ρ => (res ρ a).bind sortKD) ρ1)) I ⟨c0, G, ρ, S, ?_⟩) fun us s1 ⟨vs, H1, I1, r1, q1⟩ => ?_) (by rw [hs]; rfl) (by rw [hs]; rfl) rfl rfl
  · exact (Post.bind q).imp fun a ρ1 G1 H1 e1 S1 q1 v hv => ⟨v, rfl, ρ1, G1, a, S1, hv, q1⟩
  obtain ⟨v, rfl, ρ1, G1, a, S2, hv, q2⟩ := q1
  obtain ⟨r, hr1, _⟩ := q2.opt S2
  cases hra : res ρ1 a with
  | none => rw [hra] at hr1; cases hr1
  | some dx =>
    rw [hra] at hr1
    have hD : sortKD dx = some r := hr1
    have qq : optM (fun ρ => (res ρ a).bind sortKD) ρ1 = .ok r ρ1 := by
      rw [optM_ap, hra]
      rw [Option.bind_some, hD]
    rw [qq] at q2
    cases dx with
    | list ds =>
      unfold sortKD at hD
      dsimp only at hD
      split at hD
      · rename_i hcnd
        cases hD
        obtain ⟨hlen, hall⟩ := Bool.and_eq_true_iff.mp hcnd
        have hlen : ds.length ≤ 1000 := by simpa using hlen
        have hall : ∀ d ∈ ds, ∃ j, sndI d = some j := fun d m => Option.isSome_iff_exists.mp (List.all_eq_true.mp hall d m)
        obtain ⟨pl, ws, rfl, hpl, rw1⟩ := (hv.res S2 hra).list S2.gh
        obtain ⟨u0, rfl, ru⟩ := vals1 r1
        obtain rfl : u0 = Value.ref pl := ru
        show wpAny _ _ (evalAll ((do let v ← eval (.Lambda params (itemB x p1 p2 p3 j) scope lpos) X.env; standAt pos; pure v) :: [])) _ _ s1
        have hPT : (P, X.env.qual ++ "<lambda>") ∈ b.T := by rw [hT]; exact List.mem_singleton.mpr rfl
        refine wpAny_evalAll_cons (wpAny_bind (lam_exact I1 TB hcode (S2.tb _ hPT) hdef hcl fun f H2 s2 I2 LA T2 hH2 => wpAny_bind (wpAny_standAt (wpAny_pure (wpAny_evalAll_nil ?_)))))
        have S3 : SIG b c0 G1 ρ1 σ H2 := by
          rcases hH2 with rfl | ⟨c', ps, hc', rfl⟩
          · exact S2
          · exact S2.lam hPT (fun p hp _ => by rw [hT] at hp; rw [List.mem_singleton.mp hp]) hc' T2
        have hpl2 : H2 pl = some (.lst ws) := by
          rcases hH2 with rfl | ⟨c', ps, hc', rfl⟩
          · exact hpl
          · have n0 : pl ≠ P := fun z => by
              obtain ⟨ps0, h0, _⟩ := S2.tb _ hPT
              have h0 : H1 P = _ := h0
              rw [← z, hpl] at h0
              cases h0
            rw [upd_ne (ne_of_none hpl hc'), upd_ne n0]
            exact hpl
        show wpAny _ _ (call (.builtin "sorted") [.ref pl] [(Str.ofString "key", .ref f)]) _ _ s2
        obtain ⟨its, rv, hl, hz⟩ := I2.list (show SqL X.K H2 pl ws from SqL.of hpl2)
        have ez : ws.length = ds.length := rw1.length
        have zl : (ws.zip ds).length = ds.length := by rw [List.length_zip, ez, Nat.min_self]
        have sl : (1000 : Nat) ≤ sizeLine := by rw [sizeLine_eq]; omega
        refine PySem.W.sorted_key_data (β := V × Dt) (R := KR) (bs := ws.zip ds) (b := false) (fun p => .int (sndOf p.2)) hl.isList (keys_of rw1 rv) (PySem.W.AllAlike.of (enc := fun p : V × Dt => .int (sndOf p.2)) fun _ _ => rfl) (PySem.W.Sortable.others (enc := fun p : V × Dt => .int (sndOf p.2)) fun _ => ⟨fun z => (by cases z), fun _ z => (by cases z)⟩) (by rw [zl]; omega) (fun _ _ => ?hu) (PyProof.Rows.ksk_s1 _ _) (fun _ => PyProof.Rows.ksk_l1 _ _) (fun _ => PyProof.Rows.ksk_t1 _ _) (fun u p hR hp h tk keep => ?turn) (fun out ep h' tk keep fresh hat ol each => ?fin)
        case hu =>
          have := hr.un
          simp only [PyData.depth]
          omega
        case turn =>
          have hd2 : p.2 ∈ ds := (List.of_mem_zip hp).2
          obtain ⟨i2, hi2⟩ := hall _ hd2
          obtain ⟨i1, hi1⟩ := sndI_eq hi2
          have rp := rps_zip rw1 p hp
          rw [hi1] at rp
          cases hpv : p.1 with
          | ref t =>
            rw [hpv] at rp
            cases rp with
            | tup h1 h2 =>
              obtain ⟨its2, r2, pl2, _⟩ := I2.tuple (same_sqT S3.gh (by rw [hK]; exact h1.sq))
              have hu0 : u = Value.ref t := by
                have : RelV p.1 u := hR
                rw [hpv] at this
                exact this
              subst hu0
              cases h2 with
              | cons k1 k2 =>
                cases k2 with
                | cons k3 k4 =>
                  cases k4
                  cases k1
                  cases k3
                  obtain ⟨w1, w2, rfl, ri, rj⟩ := vals2 r2
                  obtain ⟨t2, rfl⟩ := rj
                  have es : sndOf p.2 = i2 := by unfold sndOf; rw [hi2]; rfl
                  rw [es]
                  exact lam_item (s := { s2 with heap := h, toks := tk }) (by have := hr.dp; show X.A.depth < _; omega) (I2.nolimit.keeps keep) (LA.keeps keep) (hbind _) S1 hd (pl2.keeps keep) rfl
          | _ => rw [hpv] at rp; cases rp
        case fin =>
          have ee : (ws.zip ds).mergeSort (PySem.W.dataLe false fun p => .int (sndOf p.2)) = (ws.zip ds).mergeSort fun p q => decide (sndOf p.2 ≤ sndOf q.2) := by rw [PySem.W.dataLe_int]
          rw [ee] at each
          have em : ((ws.zip ds).mergeSort fun p q => decide (sndOf p.2 ≤ sndOf q.2)).map (·.2) = ds.mergeSort fun x y => decide (sndOf x ≤ sndOf y) := by
            rw [List.map_mergeSort (s := fun x y => decide (sndOf x ≤ sndOf y)) (fun _ _ _ _ => rfl), List.map_snd_zip (by omega)]
          have hrp : Rps b.K G1 (((ws.zip ds).mergeSort fun p q => decide (sndOf p.2 ≤ sndOf q.2)).map (·.1)) (ds.mergeSort fun x y => decide (sndOf x ≤ sndOf y)) := by
            rw [← em]
            exact rps_map fun p m => rps_zip rw1 p ((List.mergeSort_perm _ _).mem_iff.mp m)
          have hfr : H2 (s2.heap.objs.size + 1) = none := I2.hok.fresh (Nat.le_succ _)
          have ol2 : (((ws.zip ds).mergeSort fun p q => decide (sndOf p.2 ≤ sndOf q.2)).map (·.1)).length ≤ sizeLine := by
            rw [List.length_map, (List.mergeSort_perm _ _).length_eq, zl]; omega
          have I3 := I2.laid (a := s2.heap.objs.size + 1) (o := .lst (((ws.zip ds).mergeSort fun p q => decide (sndOf p.2 ≤ sndOf q.2)).map (·.1))) (t' := tk) (h' := h') keep (Nat.le_succ _) ⟨ol2, out, ep, vals_out each, hat⟩
          refine ⟨.ref (s2.heap.objs.size + 1), _, I3, rfl, ?_⟩
          exact q2 _ G1 (Same.refl _) (S3.alloc hfr) _ ⟨_, _, rfl, upd_same, S3.free hfr, hrp, S3.fresh0 hfr⟩ fun p' e' _ => by cases e'; exact S3.noOwn hfr
      · cases hD
    | _ => cases hD
end
end G8
namespace G8
open PySem L2
theorem lam_code {K : Fg} {fd : FuncData} {cdv : Value} {q : Str} (h : ∃ oc od osl, K.lookup (He.ga K "most_held") = some ⟨oc, od, .func fd, osl⟩ ∧ fd.code = cdv ∧ PySem.W.codeIn K cdv q = true) : cdv = .ref (lamAt K).1 := by
  obtain ⟨oc, od, osl, lk, e, hc⟩ := h
  obtain ⟨c, hc⟩ := He.codeIn_ref hc
  have := He.codeOf_eq (p := ("most_held", none)) (c := c) lk (e.trans hc)
  show cdv = .ref (He.codeOf K ("most_held", none))
  rw [this]
  exact hc
theorem lawAtS {l : PySem.W.OpenLaw} {w : World} {K : Fg} {k : Nat} {mg : Str → Option Value} {fa0 : Addr} {h : Heap} {fd : FuncData} (X : K.In h) (ok : He.Fa.ok K (.glo "most_held") = true)
    (c : PySem.W.codeHdIn K (lamAt K).1 (lamAt K).2 = true ∧ K.lookup (lamAt K).2 = none ∧ h.get? (lamAt K).2 = some { cls := .none, data := .fields #[] })
    (hb : ∀ (s : Shared) (v : Value), BindsTo s fd ⟨[v], []⟩ [("script", v)])
    (hF : ∀ base : Heap, K.In base → base.Ns mainGlobals mg → LamX.TabB base mg (lamAt K).1 (lamAt K).2 → FnOk l.prog w K mg base CX0 k fa0 fd ["script"] (spLaw K)) : LamX.LawAtS l w K CX0 k 63 "script" mg fa0 h := by
  have one : ∀ {P : Addr × Addr → Prop}, P (lamAt K) → ∀ p ∈ [lamAt K], P p := fun {P} hP p hp => by rw [List.mem_singleton.mp hp]; exact hP
  refine ⟨fd, [lamAt K], spLaw K, one c.2.2, one c.2.1, one (PySem.W.codeHd_of_K X c.1), hb, fun H a ns hl _ hT hS => ⟨a, ns, rfl, hl, hS, fun p hp => ?_, fun _ => rfl⟩, fun base h1 h2 h3 => hF base h1 h2 (h3 _ (List.mem_singleton.mpr rfl))⟩
  rw [tbs_one ok] at hp
  rw [List.mem_singleton.mp hp]
  exact hT _ (List.mem_singleton.mpr rfl)
end G8
namespace G8
open PySem L2
/-! an own list that a comprehension goes over, and that stays one's own -/
def flatD : Dt → Bool
  | .none => true
  | .bool _ => true
  | .int _ => true
  | .str _ => true
  | _ => false
def flatSv : Option Sv → Bool
  | some (.ls _ xs) => xs.all flatD
  | some (.dk _ _) => false
  | some (.dt _ _) => false
  | some (.mt _ _) => false
  | _ => true
def ownFlat (i : Nat) (ρ : Ev) : Bool := (List.range ρ.length).all fun j => j == i || flatSv (ρ.getD j none)
open Classical in
noncomputable def thaw0 (k i : Nat) (f : M Rv) : M Fl := fun ρ => match ρ[i]? with
  | some (some (.ls false xs)) => (match f (ρ.set i (some (.d (.list xs)))) with
    | .ok (.l ys) ρ1 => if ys.all flatD = true ∧ ownFlat i ρ = true ∧ ρ1 = ρ.set i (some (.d (.list xs))) then setM k (retM (.l ys)) ρ else .bad
    | _ => .bad)
  | _ => .bad
noncomputable def setThaw (k i : Nat) (f : M Rv) : M Fl := fun ρ => if refAt ρ[k]? then .bad else thaw0 k i f (ρ.set k none)
theorem Rps.flat {K : Fg} {G G' : Hp} : ∀ {vs : List V} {ds : List Dt}, ds.all flatD = true → Rps K G vs ds → Rps K G' vs ds
  | _, [], _, h => by cases h; exact .nil
  | _, d :: ds, hf, h => by
    rw [List.all_cons, Bool.and_eq_true] at hf
    cases h with
    | cons h1 h2 =>
      refine .cons ?_ (Rps.flat hf.2 h2)
      cases h1 with
      | non => exact .non
      | bl x => exact .bl x
      | int x => exact .int x
      | str x => exact .str x
      | lst a b => exact absurd hf.1 (by simp [flatD])
      | tup a b => exact absurd hf.1 (by simp [flatD])
theorem ownFlat_at {i j : Nat} {ρ : Ev} {s : Sv} (h : ownFlat i ρ = true) (hj : j ≠ i) (e : ρ[j]? = some (some s)) : flatSv (some s) = true := by
  have hl : j < ρ.length := (List.getElem?_eq_some_iff.mp e).1
  have := List.all_eq_true.mp h j (List.mem_range.mpr hl)
  rw [List.getD_eq_getElem?_getD, e] at this
  simpa [hj] using this
/-- the old environment again: what is one's own is flat but for the slot i, whose list is ground now -/
theorem SIG.thaw {b : Bs} {c : Fc} {G G1 H H1 : Hp} {ρ : Ev} {σ : St} {i : Nat} {xs : List Dt} (S : SIG b c G ρ σ H) (hi : ρ[i]? = some (some (.ls false xs))) (hf : ownFlat i ρ = true) (e : Same G G1)
    (hp : ∀ p vs, H p = some (.lst vs) → σ[i]? = some (some (.ref p)) → G1 p = some (.lst vs))
    (S1 : SIG b c G1 (ρ.set i (some (.d (.list xs)))) σ H1) : SIG b c G ρ σ H1 := by
  refine ⟨S.len, S.g0, fun a o q hm => S1.gh a o (e a o q) hm, fun a hm => S1.gm a (hm.mono e), S1.fr, S.gn, fun j s q => ?_, S.sp, S.nw, S.rf, S1.tb, S.ct, fun j r m p h1 h2 => ?_, S.m1, S.zz, S.rk⟩
  case refine_2 =>
    have hj : j ≠ i := fun z => by
      subst z
      rw [hi] at h1
      cases h1
    exact absurd (ownFlat_at hf hj h1) (by simp [flatSv])
  obtain ⟨v, hv, r⟩ := S.sl j s q
  by_cases hj : j = i
  · subst hj
    rw [hi] at q
    cases q
    obtain ⟨p, vs, rfl, h1, h2, h3⟩ := r
    exact ⟨_, hv, p, vs, rfl, S1.gh p _ (hp p vs h1 hv) rfl, h2, h3⟩
  · have q1 : (ρ.set i (some (.d (.list xs))))[j]? = some (some s) := by rw [List.getElem?_set_ne (fun z => hj z.symm)]; exact q
    obtain ⟨v1, hv1, r1⟩ := S1.sl j s q1
    rw [hv] at hv1
    cases hv1
    have fl := ownFlat_at hf hj q
    refine ⟨v, hv, ?_⟩
    cases s with
    | ls rr ys =>
      obtain ⟨p, vs, rfl, h1, h2, h3⟩ := r1
      exact ⟨p, vs, rfl, h1, (by
        cases z : G p with
        | none => rfl
        | some o => rw [e p o z] at h2; cases h2), h3.flat fl⟩
    | dk rr ys => cases fl
    | dt rr ys => cases fl
    | mt rr m => cases fl
    | d x => exact r
    | ex k => exact r
    | scr ns => exact r
    | fk kvs => exact r
    | ft kvs => exact r
section
variable {X : Cx} {b : Bs} {W : WX} {i k : Nat} {fi : M (List Dt)} {t : Tgt} {ft : M Bool} {fe : M Av}
theorem set_same {σ : St} (k : Nat) : σ.set k ((σ[k]?).getD none) = σ := by
  apply List.ext_getElem?
  intro j
  by_cases hj : k = j
  · subst hj
    rw [List.getElem?_set]
    simp only [if_true]
    split
    · rename_i hl
      rw [List.getElem?_eq_getElem hl]
      rfl
    · rename_i hl
      rw [List.getElem?_eq_none (by omega)]
  · rw [List.getElem?_set_ne hj]
theorem thaw_core {f : M Rv} {D : Ends} {σ : St} {H : Hp} (h : tS b W (setThaw k i f) D σ H) : tAsg (tV b W f) (gName k) D σ H := by
  obtain ⟨c, G, ρ, hb, S, q⟩ := h
  unfold setThaw at q
  by_cases hr0 : refAt ρ[k]? = true
  · rw [if_pos hr0] at q
    exact q.elim
  rw [if_neg hr0] at q
  have S := S.drop (refAt_of hb hr0) ((σ[k]?).getD none)
  rw [set_same] at S
  generalize ρ.set k none = ρ at S q
  unfold thaw0 at q
  split at q
  · rename_i xs hx
    obtain ⟨G', e, S'⟩ := S.share hb hx
    refine ⟨c, G', _, S', ?_⟩
    split at q
    · rename_i ys ρ1 hf
      rw [hf]
      by_cases hc : ys.all flatD = true ∧ ownFlat i ρ = true ∧ ρ1 = ρ.set i (some (.d (.list xs)))
      · rw [if_pos hc] at q
        obtain ⟨c1, c2, rfl⟩ := hc
        intro H1 G1 e1 S1 v hv ap
        have hp : ∀ p vs, H p = some (.lst vs) → σ[i]? = some (some (.ref p)) → G1 p = some (.lst vs) := fun p vs h1 h2 => by
          have hl : i < ρ.length := (List.getElem?_eq_some_iff.mp hx).1
          obtain ⟨v', hv', r'⟩ := S'.sl i (.d (.list xs)) (by rw [List.getElem?_set_self hl])
          rw [h2] at hv'
          cases hv'
          cases r' with
          | lst g1 g2 =>
            have := S'.gh _ _ g1 rfl
            rw [h1] at this
            cases this
            exact e1 _ _ g1
        have S2 := S.thaw hx c2 (e.trans e1) hp S1
        obtain ⟨p, vs, rfl, n1, n2, n3, n4⟩ := hv
        have gp : G p = none := by
          cases z : G p with
          | none => rfl
          | some o => rw [(e.trans e1) p o z] at n2; cases n2
        have ap2 : Apart ρ σ (.ref p) (.l ys) := fun p' e' _ j s q1 q2 q3 => by
          cases e'
          by_cases hj : j = i
          · subst hj
            obtain ⟨v, hv, r⟩ := S.sl j s q1
            rw [hx] at q1
            cases q1
            obtain ⟨pp, ws, z, r1, r2, r3⟩ := r
            rw [hv] at q3
            cases q3
            cases z
            rw [hp _ _ r1 hv] at n2
            cases n2
          · exact ap p rfl rfl j s (by rw [List.getElem?_set_ne (fun z => hj z.symm)]; exact q1) q2 q3
        show D.nx (σ.set k (some (.ref p))) H1
        unfold setM bindM retM putM at q; dsimp only at q
        by_cases hr : refAt ρ[k]? = true
        · rw [if_pos hr] at q
          exact q.elim
        · rw [if_neg hr] at q
          exact q _ H1 G (Same.refl G) (set_rn S2 ⟨p, vs, rfl, n1, gp, n3.flat c1, n4⟩ ap2 (refAt_of hb hr))
      · rw [if_neg hc] at q
        exact q.elim
    · exact q.elim
  · exact q.elim
theorem s_setLcT {y : Str} {py : Pos} {elt tg iter : Expr} {ifs : List Expr} {scope : Scope} {own : List (Str × Nat)} {pos spos : Pos} (hK : X.K = b.K) (hv : own.map (·.2) = t.slots) (hc : X.calm = true) (hN : X.N.Nodup) (hy : X.N[k]? = some y) (hyl : X.env.scope.names.lookup y = some .local)
    (hsw : swapsWith (.ListComp elt [⟨tg, iter, ifs, 0⟩] scope pos) (some (.Name y py)) spos.line X.env = pure true) (hi : PI X tg iter (tI b W fi)) (ok : BlkOk X.N X.env.scope scope own)
    (hg : ∀ (s : Shared) (H : Hp) (C : Addr) (cl : List (Str × Addr)) (fp : List Addr), PG (X.blk s H scope (compEnvC scope cl C X.env) fp) tg (gRaw X.K t))
    (ht : ∀ (s : Shared) (H : Hp) (C : Addr) (cl : List (Str × Addr)) (fp : List Addr), PTs (X.blk s H scope (compEnvC scope cl C X.env) fp) ifs (tT b W0 ft))
    (he : ∀ (s : Shared) (H : Hp) (C : Addr) (cl : List (Str × Addr)) (fp : List Addr), PE (X.blk s H scope (compEnvC scope cl C X.env) fp) elt (tE b W0 fe)) (hs : ∀ x, foldedSetIterable iter X.env x = pure x := by intro _; rfl) :
    PS X (.Assign [.Name y py] (.ListComp elt [⟨tg, iter, ifs, 0⟩] scope pos) spos) (tS b W (setThaw k i (lcM fi t ft fe))) := weakS (ps_setLc hc hN hy hyl hsw hi ok hg ht he hs) fun D σ H h => by
  rw [hv, hK]
  exact lc_sound (thaw_core h)
end
end G8
namespace G8
open PySem L2
noncomputable section
def g_RoomError : Nat → Bool := fun _ => true
def g_BadPlan : Nat → Bool := is8 3
/-! look_name -/
def f_look_name : M Fl :=
    (ifM (notM (chainT leI leI (retM (.d (.int 0))) (varM 0) (retM (.d (.int 19))))) (raiseM 0) (retM .nx))
def F_look_name : Fn := bodyF 1 f_look_name
/-! look_row -/
def b_look_row_1 : M Fl :=
    (exprS (callM 1 F_look_name (consM (varM 1) (retM []))))
theorem b_look_row_1_ap (ρ : Ev) : b_look_row_1 ρ =
    (exprS (callM 1 F_look_name (consM (varM 1) (retM [])))) ρ := rfl
def f_look_row : M Fl :=
    (seqM (ifM (cmpT gtI (lenM (varM 0)) (retM (.d (.int 24)))) (raiseM 0) (retM .nx))
    (forM (itM (varM 0)) (.one 1) b_look_row_1))
def F_look_row : Fn := bodyF 2 f_look_row
/-! names -/
def b_names_1 : M Fl :=
    (ifM (cmpT ninD (varM 2) (varM 1)) (exprS (mutM 1 appD (consM (varM 2) (retM [])))) (retM .nx))
theorem b_names_1_ap (ρ : Ev) : b_names_1 ρ =
    (ifM (cmpT ninD (varM 2) (varM 1)) (exprS (mutM 1 appD (consM (varM 2) (retM [])))) (retM .nx)) ρ := rfl
def f_names : M Fl :=
    (seqM (exprS (callM 1 F_look_row (consM (varM 0) (retM []))))
    (seqM (setM 1 (lstM (retM [])))
    (seqM (forM (itM (varM 0)) (.one 2) b_names_1)
    (retO 1))))
def F_names : Fn := bodyF 3 f_names
/-! later -/
def b_later_1 : M Fl :=
    (ifM (cmpT eqD (frzM (bin2 ixD (varM 0) (varM 2))) (frzM (bin2 ixD (varM 0) (varM 1)))) (retO 2) (retM .nx))
theorem b_later_1_ap (ρ : Ev) : b_later_1 ρ =
    (ifM (cmpT eqD (frzM (bin2 ixD (varM 0) (varM 2))) (frzM (bin2 ixD (varM 0) (varM 1)))) (retO 2) (retM .nx)) ρ := rfl
def f_later : M Fl :=
    (seqM (forM (rg2 (consM (frzM (bin2 addD (varM 1) (retM (.d (.int 1))))) (consM (lenM (varM 0)) (retM [])))) (.one 2) b_later_1)
    (retS (dataM (retM (.d .none)))))
def F_later : Fn := bodyF 3 f_later
/-! holds -/
def e_holds_1 : M Av :=
    (tupM (consM (varM 2) (consM (frzM (callM 2 F_later (consM (varM 0) (consM (varM 2) (retM []))))) (retM []))))
theorem e_holds_1_ap (ρ : Ev) : e_holds_1 ρ =
    (tupM (consM (varM 2) (consM (frzM (callM 2 F_later (consM (varM 0) (consM (varM 2) (retM []))))) (retM [])))) ρ := rfl
def t_holds_1 : M Bool :=
    (isNT true (frzM (bin2 ixD (varM 3) (retM (.d (.int 1))))))
theorem t_holds_1_ap (ρ : Ev) : t_holds_1 ρ =
    (isNT true (frzM (bin2 ixD (varM 3) (retM (.d (.int 1)))))) ρ := rfl
def f_holds : M Fl :=
    (seqM (exprS (callM 1 F_look_row (consM (varM 0) (retM []))))
    (seqM (setM 1 (lcM (rg1 (consM (lenM (varM 0)) (retM []))) (.one 2) (retM true) e_holds_1))
    (withS 1 (retS (lcM (itM (varM 1)) (.one 3) t_holds_1 (varM 3))))))
def F_holds : Fn := bodyF 4 f_holds
/-! renamed -/
def e_renamed_1 : M Av :=
    (meM (lookD indexD) (varM 1) (consM (varM 2) (retM [])))
theorem e_renamed_1_ap (ρ : Ev) : e_renamed_1 ρ =
    (meM (lookD indexD) (varM 1) (consM (varM 2) (retM []))) ρ := rfl
def f_renamed : M Fl :=
    (seqM (setM 1 (callM 1 F_names (consM (varM 0) (retM []))))
    (retS (lcM (itM (varM 0)) (.one 2) (retM true) e_renamed_1)))
def F_renamed : Fn := bodyF 3 f_renamed
/-! are_alike -/
def f_are_alike : M Fl :=
    (retS (dataM (cmpM eqD (frzM (callM 1 F_renamed (consM (varM 0) (retM [])))) (frzM (callM 1 F_renamed (consM (varM 1) (retM [])))))))
def F_are_alike : Fn := bodyF 2 f_are_alike
/-! squeezed -/
def t_squeezed_1 : M Bool :=
    (orM (cmpT eqD (varM 1) (retM (.d (.int 0)))) (cmpT neD (frzM (bin2 ixD (varM 0) (varM 1))) (frzM (bin2 ixD (varM 0) (frzM (bin2 subD (varM 1) (retM (.d (.int 1)))))))))
theorem t_squeezed_1_ap (ρ : Ev) : t_squeezed_1 ρ =
    (orM (cmpT eqD (varM 1) (retM (.d (.int 0)))) (cmpT neD (frzM (bin2 ixD (varM 0) (varM 1))) (frzM (bin2 ixD (varM 0) (frzM (bin2 subD (varM 1) (retM (.d (.int 1))))))))) ρ := rfl
def f_squeezed : M Fl :=
    (seqM (exprS (callM 1 F_look_row (consM (varM 0) (retM []))))
    (retS (lcM (rg1 (consM (lenM (varM 0)) (retM []))) (.one 1) t_squeezed_1 (frzM (bin2 ixD (varM 0) (varM 1))))))
def F_squeezed : Fn := bodyF 2 f_squeezed
/-! apart -/
def e_apart_1 : M Av :=
    (cmpM ltI (varM 1) (retM (.d (.int 10))))
theorem e_apart_1_ap (ρ : Ev) : e_apart_1 ρ =
    (cmpM ltI (varM 1) (retM (.d (.int 10)))) ρ := rfl
def e_apart_2 : M Av :=
    (frzM (bin2 addD (varM 1) (retM (.d (.int 10)))))
theorem e_apart_2_ap (ρ : Ev) : e_apart_2 ρ =
    (frzM (bin2 addD (varM 1) (retM (.d (.int 10))))) ρ := rfl
def f_apart : M Fl :=
    (seqM (exprS (callM 1 F_look_row (consM (varM 0) (retM []))))
    (seqM (ifM (notM (testM (frzM (biM allD (consM (frzM (lcM (itM (varM 0)) (.one 1) (retM true) e_apart_1)) (retM [])))))) (raiseM 0) (retM .nx))
    (retS (lcM (itM (varM 0)) (.one 1) (retM true) e_apart_2))))
def F_apart : Fn := bodyF 2 f_apart
/-! _law_cell -/
def f__law_cell : M Fl :=
    (seqM (ifM (testM (varM 0)) (retS (dataM (ixS 0 (frzM (bin2 modD (varM 1) (lenM (varM 0))))))) (retM .nx))
    (retS (dataM (retM (.d (.int 0))))))
def F__law_cell : Fn := bodyF 2 f__law_cell
/-! _law_mix -/
def f__law_mix : M Fl :=
    (seqM (setM 2 (bin2 modD (frzM (bin2 addD (frzM (callM 2 F__law_cell (consM (varM 0) (consM (varM 1) (retM []))))) (frzM (bin2 mulD (retM (.d (.int 104729))) (frzM (bin2 addD (varM 1) (retM (.d (.int 1))))))))) (retM (.d (.int 4294967291)))))
    (seqM (setM 2 (bin2 modD (frzM (bin2 powD (varM 2) (retM (.d (.int 5))))) (retM (.d (.int 4294967279)))))
    (retS (bin2 modD (frzM (bin2 addD (frzM (bin2 mulD (frzM (bin2 fdivD (varM 2) (retM (.d (.int 64))))) (retM (.d (.int 69621))))) (varM 2))) (retM (.d (.int 4294967231)))))))
def F__law_mix : Fn := bodyF 3 f__law_mix
/-! _law_draw -/
def f__law_draw : M Fl :=
    (seqM (exprS (mutM 1 appD (consM (retM (.d (.int 0))) (retM []))))
    (retS (bin2 modD (frzM (bin2 fdivD (frzM (callM 2 F__law_mix (consM (varM 0) (consM (lenM (varM 1)) (retM []))))) (retM (.d (.int 8))))) (varM 2))))
def F__law_draw : Fn := bodyF 3 f__law_draw
/-! _law_pick -/
def f__law_pick : M Fl :=
    (retS (bin2 ixD (varM 2) (frzM (callM 3 F__law_draw (consM (varM 0) (consM (varM 1) (consM (lenM (varM 2)) (retM []))))))))
def F__law_pick : Fn := bodyF 3 f__law_pick
/-! _law_refusal -/
def f__law_refusal : M Fl :=
    (seqM (ifM (isNT false (varM 0)) (retS (dataM (tupM (consM (retM (.d (.str "ok"))) (retM []))))) (retM .nx))
    (seqM (setM 1 (lstM (consM (isiM 0 (is8 0)) (consM (isiM 0 (is8 1)) (consM (isiM 0 (is8 2)) (retM []))))))
    (seqM (setM 1 (bin2 addD (varM 1) (frzM (lstM (consM (isiM 0 (is8 3)) (consM (isiM 0 (is8 4)) (consM (isiM 0 (is8 5)) (retM []))))))))
    (seqM (setM 1 (bin2 addD (varM 1) (frzM (lstM (consM (isiM 0 (is8 6)) (consM (isiM 0 (is8 7)) (retM [])))))))
    (seqM (ifM (orM (cmpT neD (meM (lookD countD) (varM 1) (consM (retM (.d (.bool true))) (retM []))) (retM (.d (.int 1)))) (notM (testM (isiM 0 (fun _ => true))))) (retS (dataM (tupM (consM (retM (.d (.str "wrong"))) (retM []))))) (retM .nx))
    (seqM (setM 2 (lstM (consM (retM (.d (.str "row"))) (consM (retM (.d (.str "room"))) (consM (retM (.d (.str "rule"))) (consM (retM (.d (.str "plan"))) (consM (retM (.d (.str "depths"))) (consM (retM (.d (.str "turns"))) (consM (retM (.d (.str "ask"))) (consM (retM (.d (.str "text"))) (retM [])))))))))))
    (retS (dataM (tupM (consM (retM (.d (.str "refused"))) (consM (frzM (bin2 ixD (varM 2) (meM (lookD indexD) (varM 1) (consM (retM (.d (.bool true))) (retM []))))) (retM []))))))))))))
def F__law_refusal : Fn := bodyF 3 f__law_refusal
/-! _law_row -/
def b__law_row_1 : M Fl :=
    (seqM (setM 7 (callM 3 F__law_draw (consM (varM 0) (consM (varM 1) (consM (varM 4) (retM []))))))
    (seqM (ifM (andM (cmpT neD (varM 5) (frzM (lstM (retM [])))) (cmpT eqD (frzM (callM 3 F__law_draw (consM (varM 0) (consM (varM 1) (consM (retM (.d (.int 4))) (retM [])))))) (retM (.d (.int 0))))) (setM 7 (bin2 ixD (varM 5) (frzM (callM 3 F__law_draw (consM (varM 0) (consM (varM 1) (consM (lenM (varM 5)) (retM [])))))))) (retM .nx))
    (exprS (mutM 5 appD (consM (varM 7) (retM []))))))
theorem b__law_row_1_ap (ρ : Ev) : b__law_row_1 ρ =
    (seqM (setM 7 (callM 3 F__law_draw (consM (varM 0) (consM (varM 1) (consM (varM 4) (retM []))))))
    (seqM (ifM (andM (cmpT neD (varM 5) (frzM (lstM (retM [])))) (cmpT eqD (frzM (callM 3 F__law_draw (consM (varM 0) (consM (varM 1) (consM (retM (.d (.int 4))) (retM [])))))) (retM (.d (.int 0))))) (setM 7 (bin2 ixD (varM 5) (frzM (callM 3 F__law_draw (consM (varM 0) (consM (varM 1) (consM (lenM (varM 5)) (retM [])))))))) (retM .nx))
    (exprS (mutM 5 appD (consM (varM 7) (retM [])))))) ρ := rfl
def f__law_row : M Fl :=
    (seqM (setM 4 (bin2 addD (retM (.d (.int 1))) (frzM (callM 3 F__law_draw (consM (varM 0) (consM (varM 1) (consM (varM 3) (retM []))))))))
    (seqM (setM 5 (lstM (retM [])))
    (seqM (forM (rg1 (consM (frzM (callM 3 F__law_draw (consM (varM 0) (consM (varM 1) (consM (frzM (bin2 addD (varM 2) (retM (.d (.int 1))))) (retM [])))))) (retM []))) (.one 6) b__law_row_1)
    (retO 5))))
def F__law_row : Fn := bodyF 8 f__law_row
/-! look_room -/
def f_look_room : M Fl :=
    (ifM (notM (chainT leI leI (retM (.d (.int 0))) (varM 0) (retM (.d (.int 12))))) (raiseM 1) (retM .nx))
def F_look_room : Fn := bodyF 1 f_look_room
def l_RULES : List Str := ["last", "first", "old", "young", "far", "often"]
/-! look_rule -/
def f_look_rule : M Fl :=
    (ifM (cmpT ninD (varM 0) (retM (.d (.tuple (l_RULES.map PyData.str))))) (raiseM 2) (retM .nx))
def F_look_rule : Fn := bodyF 1 f_look_rule
/-! next_of -/
def b_next_of_1 : M Fl :=
    (ifM (cmpT eqD (frzM (bin2 ixD (varM 0) (varM 3))) (varM 2)) (retO 3) (retM .nx))
theorem b_next_of_1_ap (ρ : Ev) : b_next_of_1 ρ =
    (ifM (cmpT eqD (frzM (bin2 ixD (varM 0) (varM 3))) (varM 2)) (retO 3) (retM .nx)) ρ := rfl
def f_next_of : M Fl :=
    (seqM (forM (rg2 (consM (varM 1) (consM (lenM (varM 0)) (retM [])))) (.one 3) b_next_of_1)
    (retS (dataM (lenM (varM 0)))))
def F_next_of : Fn := bodyF 4 f_next_of
/-! last_of -/
def t_last_of_1 : M Bool :=
    (cmpT eqD (frzM (bin2 ixD (varM 0) (varM 3))) (varM 2))
theorem t_last_of_1_ap (ρ : Ev) : t_last_of_1 ρ =
    (cmpT eqD (frzM (bin2 ixD (varM 0) (varM 3))) (varM 2)) ρ := rfl
def f_last_of : M Fl :=
    (retS (biM (bestD PySem.W.maxD) (consM (frzM (lcM (rg1 (consM (varM 1) (retM []))) (.one 3) t_last_of_1 (varM 3))) (retM []))))
def F_last_of : Fn := bodyF 4 f_last_of
/-! worth -/
def f_worth : M Fl :=
    (seqM (ifM (cmpT eqD (varM 0) (retM (.d (.str "last")))) (retS (dataM (tupM (consM (frzM (callM 3 F_last_of (consM (varM 1) (consM (varM 2) (consM (varM 3) (retM [])))))) (consM (retM (.d (.int 0))) (retM [])))))) (retM .nx))
    (seqM (ifM (cmpT eqD (varM 0) (retM (.d (.str "first")))) (retS (dataM (tupM (consM (frzM (bin2 subD (retM (.d (.int 0))) (frzM (callM 3 F_last_of (consM (varM 1) (consM (varM 2) (consM (varM 3) (retM [])))))))) (consM (retM (.d (.int 0))) (retM [])))))) (retM .nx))
    (seqM (ifM (cmpT eqD (varM 0) (retM (.d (.str "old")))) (retS (dataM (tupM (consM (getK 4 (varM 3)) (consM (retM (.d (.int 0))) (retM [])))))) (retM .nx))
    (seqM (ifM (cmpT eqD (varM 0) (retM (.d (.str "young")))) (retS (dataM (tupM (consM (frzM (bin2 subD (retM (.d (.int 0))) (getK 4 (varM 3)))) (consM (retM (.d (.int 0))) (retM [])))))) (retM .nx))
    (seqM (ifM (cmpT eqD (varM 0) (retM (.d (.str "far")))) (retS (dataM (tupM (consM (frzM (bin2 subD (retM (.d (.int 0))) (frzM (callM 3 F_next_of (consM (varM 1) (consM (varM 2) (consM (varM 3) (retM [])))))))) (consM (varM 3) (retM [])))))) (retM .nx))
    (retS (dataM (tupM (consM (meM (lookD countD) (frzM (sliceM (varM 1) partN (partS (varM 2)))) (consM (varM 3) (retM []))) (consM (frzM (callM 3 F_last_of (consM (varM 1) (consM (varM 2) (consM (varM 3) (retM [])))))) (retM [])))))))))))
def F_worth : Fn := bodyF 5 f_worth
/-! victim -/
def e_victim_1 : M Av :=
    (tupM (consM (frzM (callM 5 F_worth (consM (varM 0) (consM (varM 1) (consM (varM 2) (consM (varM 5) (consM (varM 3) (retM [])))))))) (consM (varM 5) (retM []))))
theorem e_victim_1_ap (ρ : Ev) : e_victim_1 ρ =
    (tupM (consM (frzM (callM 5 F_worth (consM (varM 0) (consM (varM 1) (consM (varM 2) (consM (varM 5) (consM (varM 3) (retM [])))))))) (consM (varM 5) (retM [])))) ρ := rfl
def f_victim : M Fl :=
    (seqM (setM 4 (biM sortD (consM (frzM (lcM (keysM 3) (.one 5) (retM true) e_victim_1)) (retM []))))
    (retS (bin2 ixD (frzM (bin2 ixD (varM 4) (retM (.d (.int 0))))) (retM (.d (.int 1))))))
def F_victim : Fn := bodyF 6 f_victim
/-! walk -/
def b_walk_1 : M Fl :=
    (seqM (setM 6 (dataM (retM (.d .none))))
    (seqM (setM 7 (dataM (inK false 3 (frzM (bin2 ixD (varM 2) (varM 5))))))
    (seqM (ifM (andM (notM (testM (varM 7))) (cmpT gtI (varM 1) (retM (.d (.int 0))))) (seqM (ifM (cmpT eqD (lenM (varM 3)) (varM 1)) (seqM (setM 6 (lockE 3 (callM 4 F_victim (consM (varM 0) (consM (varM 2) (consM (varM 5) (consM (varM 3) (retM []))))))))
    (exprS (popKM 3 (varM 6)))) (retM .nx))
    (putKM 3 (varM 5) (frzM (bin2 ixD (varM 2) (varM 5))))) (retM .nx))
    (exprS (mutM 4 appD (consM (tupM (consM (varM 7) (consM (varM 6) (retM [])))) (retM [])))))))
theorem b_walk_1_ap (ρ : Ev) : b_walk_1 ρ =
    (seqM (setM 6 (dataM (retM (.d .none))))
    (seqM (setM 7 (dataM (inK false 3 (frzM (bin2 ixD (varM 2) (varM 5))))))
    (seqM (ifM (andM (notM (testM (varM 7))) (cmpT gtI (varM 1) (retM (.d (.int 0))))) (seqM (ifM (cmpT eqD (lenM (varM 3)) (varM 1)) (seqM (setM 6 (lockE 3 (callM 4 F_victim (consM (varM 0) (consM (varM 2) (consM (varM 5) (consM (varM 3) (retM []))))))))
    (exprS (popKM 3 (varM 6)))) (retM .nx))
    (putKM 3 (varM 5) (frzM (bin2 ixD (varM 2) (varM 5))))) (retM .nx))
    (exprS (mutM 4 appD (consM (tupM (consM (varM 7) (consM (varM 6) (retM [])))) (retM []))))))) ρ := rfl
def f_walk : M Fl :=
    (seqM (setM 3 (retM (.k [])))
    (seqM (setM 4 (lstM (retM [])))
    (seqM (forM (rg1 (consM (lenM (varM 2)) (retM []))) (.one 5) b_walk_1)
    (withS 4 (retS (dataM (tupM (consM (varM 4) (consM (frzM (sortK 3)) (retM []))))))))))
def F_walk : Fn := bodyF 8 f_walk
/-! run -/
def f_run : M Fl :=
    (seqM (exprS (callM 1 F_look_rule (consM (varM 0) (retM []))))
    (seqM (exprS (callM 1 F_look_room (consM (varM 1) (retM []))))
    (seqM (exprS (callM 1 F_look_row (consM (varM 2) (retM []))))
    (retS (lcM (itM (frzM (bin2 ixD (frzM (callM 3 F_walk (consM (varM 0) (consM (varM 1) (consM (varM 2) (retM [])))))) (retM (.d (.int 0)))))) (.tup [3, 4]) (retM true) (varM 3))))))
def F_run : Fn := bodyF 5 f_run
/-! kept -/
def f_kept : M Fl :=
    (seqM (exprS (callM 1 F_look_rule (consM (varM 0) (retM []))))
    (seqM (exprS (callM 1 F_look_room (consM (varM 1) (retM []))))
    (seqM (exprS (callM 1 F_look_row (consM (varM 2) (retM []))))
    (retS (bin2 ixD (frzM (callM 3 F_walk (consM (varM 0) (consM (varM 1) (consM (varM 2) (retM [])))))) (retM (.d (.int 1))))))))
def F_kept : Fn := bodyF 3 f_kept
/-! gone -/
def f_gone : M Fl :=
    (seqM (exprS (callM 1 F_look_rule (consM (varM 0) (retM []))))
    (seqM (exprS (callM 1 F_look_room (consM (varM 1) (retM []))))
    (seqM (exprS (callM 1 F_look_row (consM (varM 2) (retM []))))
    (retS (lcM (itM (frzM (bin2 ixD (frzM (callM 3 F_walk (consM (varM 0) (consM (varM 1) (consM (varM 2) (retM [])))))) (retM (.d (.int 0)))))) (.tup [3, 4]) (retM true) (varM 4))))))
def F_gone : Fn := bodyF 5 f_gone
/-! misses -/
def f_misses : M Fl :=
    (retS (dataM (meM (lookD countD) (frzM (callM 3 F_run (consM (varM 0) (consM (varM 1) (consM (varM 2) (retM [])))))) (consM (retM (.d (.bool false))) (retM [])))))
def F_misses : Fn := bodyF 3 f_misses
/-! _law_place -/
def b__law_place_1 : M Fl :=
    (ifM (cmpT eqD (frzM (bin2 ixD (varM 0) (varM 5))) (varM 1)) (retO 5) (retM .nx))
theorem b__law_place_1_ap (ρ : Ev) : b__law_place_1 ρ =
    (ifM (cmpT eqD (frzM (bin2 ixD (varM 0) (varM 5))) (varM 1)) (retO 5) (retM .nx)) ρ := rfl
def f__law_place : M Fl :=
    (seqM (setM 4 (dataM (ifM (cmpT leI (varM 2) (varM 3)) (retM (.d (.int 1))) (frzM (un1 negD (retM (.d (.int 1))))))))
    (seqM (forM (rg3u (consM (varM 2) (consM (varM 3) (consM (varM 4) (retM []))))) (.one 5) b__law_place_1)
    (retS (dataM (retM (.d .none))))))
def F__law_place : Fn := bodyF 6 f__law_place
/-! _law_goes -/
def e__law_goes_1 : M Av :=
    (frzM (callM 4 F__law_place (consM (varM 1) (consM (varM 7) (consM (frzM (bin2 subD (varM 2) (retM (.d (.int 1))))) (consM (frzM (un1 negD (retM (.d (.int 1))))) (retM [])))))))
theorem e__law_goes_1_ap (ρ : Ev) : e__law_goes_1 ρ =
    (frzM (callM 4 F__law_place (consM (varM 1) (consM (varM 7) (consM (frzM (bin2 subD (varM 2) (retM (.d (.int 1))))) (consM (frzM (un1 negD (retM (.d (.int 1))))) (retM []))))))) ρ := rfl
def e__law_goes_2 : M Av :=
    (frzM (callM 4 F__law_place (consM (varM 1) (consM (varM 7) (consM (varM 2) (consM (lenM (varM 1)) (retM [])))))))
theorem e__law_goes_2_ap (ρ : Ev) : e__law_goes_2 ρ =
    (frzM (callM 4 F__law_place (consM (varM 1) (consM (varM 7) (consM (varM 2) (consM (lenM (varM 1)) (retM []))))))) ρ := rfl
def t__law_goes_1 : M Bool :=
    (isNT false (frzM (bin2 ixD (varM 6) (varM 8))))
theorem t__law_goes_1_ap (ρ : Ev) : t__law_goes_1 ρ =
    (isNT false (frzM (bin2 ixD (varM 6) (varM 8)))) ρ := rfl
def t__law_goes_2 : M Bool :=
    (cmpT eqD (varM 9) (frzM (bin2 ixD (varM 3) (varM 8))))
theorem t__law_goes_2_ap (ρ : Ev) : t__law_goes_2 ρ =
    (cmpT eqD (varM 9) (frzM (bin2 ixD (varM 3) (varM 8)))) ρ := rfl
def e__law_goes_3 : M Av :=
    (tupM (consM (lenM (frzM (lcM (itM (frzM (sliceM (varM 1) partN (partS (varM 2))))) (.one 9) t__law_goes_2 (varM 9)))) (consM (frzM (bin2 ixD (varM 4) (varM 8))) (consM (frzM (bin2 ixD (varM 3) (varM 8))) (retM [])))))
theorem e__law_goes_3_ap (ρ : Ev) : e__law_goes_3 ρ =
    (tupM (consM (lenM (frzM (lcM (itM (frzM (sliceM (varM 1) partN (partS (varM 2))))) (.one 9) t__law_goes_2 (varM 9)))) (consM (frzM (bin2 ixD (varM 4) (varM 8))) (consM (frzM (bin2 ixD (varM 3) (varM 8))) (retM []))))) ρ := rfl
def f__law_goes : M Fl :=
    (seqM (ifM (cmpT eqD (varM 0) (retM (.d (.str "old")))) (retS (bin2 ixD (varM 3) (retM (.d (.int 0))))) (retM .nx))
    (seqM (ifM (cmpT eqD (varM 0) (retM (.d (.str "young")))) (retS (bin2 ixD (varM 3) (frzM (un1 negD (retM (.d (.int 1))))))) (retM .nx))
    (seqM (setM 4 (lcM (itM (varM 3)) (.one 7) (retM true) e__law_goes_1))
    (seqM (ifM (cmpT eqD (varM 0) (retM (.d (.str "last")))) (retS (bin2 ixD (varM 3) (meM (lookD indexD) (varM 4) (consM (frzM (biM (bestD PySem.W.minD) (consM (varM 4) (retM [])))) (retM []))))) (retM .nx))
    (seqM (ifM (cmpT eqD (varM 0) (retM (.d (.str "first")))) (retS (bin2 ixD (varM 3) (meM (lookD indexD) (varM 4) (consM (frzM (biM (bestD PySem.W.maxD) (consM (varM 4) (retM [])))) (retM []))))) (retM .nx))
    (seqM (ifM (cmpT eqD (varM 0) (retM (.d (.str "far")))) (seqM (setM 6 (lcM (itM (varM 3)) (.one 7) (retM true) e__law_goes_2))
    (seqM (ifM (cmpT inD (retM (.d .none)) (varM 6)) (retS (biM (bestD PySem.W.minD) (consM (frzM (lcM (rg1 (consM (lenM (varM 3)) (retM []))) (.one 8) t__law_goes_1 (frzM (bin2 ixD (varM 3) (varM 8))))) (retM [])))) (retM .nx))
    (retS (bin2 ixD (varM 3) (meM (lookD indexD) (varM 6) (consM (frzM (biM (bestD PySem.W.maxD) (consM (varM 6) (retM [])))) (retM []))))))) (retM .nx))
    (seqM (setM 5 (lcM (rg1 (consM (lenM (varM 3)) (retM []))) (.one 8) (retM true) e__law_goes_3))
    (retS (bin2 ixD (frzM (biM (bestD PySem.W.minD) (consM (varM 5) (retM [])))) (retM (.d (.int 2))))))))))))
def F__law_goes : Fn := bodyF 10 f__law_goes
/-! _law_walk -/
def t__law_walk_1 : M Bool :=
    (cmpT neD (varM 7) (frzM (bin2 ixD (varM 5) (varM 6))))
theorem t__law_walk_1_ap (ρ : Ev) : t__law_walk_1 ρ =
    (cmpT neD (varM 7) (frzM (bin2 ixD (varM 5) (varM 6)))) ρ := rfl
def b__law_walk_1 : M Fl :=
    (seqM (exprS (mutM 4 appD (consM (cmpM inD (frzM (bin2 ixD (varM 2) (varM 6))) (varM 3)) (retM []))))
    (seqM (exprS (mutM 5 appD (consM (retM (.d .none)) (retM []))))
    (ifM (andM (cmpT ninD (frzM (bin2 ixD (varM 2) (varM 6))) (varM 3)) (cmpT gtI (varM 1) (retM (.d (.int 0))))) (seqM (ifM (cmpT eqD (lenM (varM 3)) (varM 1)) (seqM (withS 3 (setIt 5 (frzM (callM 4 F__law_goes (consM (varM 0) (consM (varM 2) (consM (varM 6) (consM (varM 3) (retM []))))))) (varM 6)))
    (withS 3 (setM 3 (lcM (itM (varM 3)) (.one 7) t__law_walk_1 (varM 7))))) (retM .nx))
    (exprS (mutM 3 appD (consM (frzM (bin2 ixD (varM 2) (varM 6))) (retM []))))) (retM .nx))))
theorem b__law_walk_1_ap (ρ : Ev) : b__law_walk_1 ρ =
    (seqM (exprS (mutM 4 appD (consM (cmpM inD (frzM (bin2 ixD (varM 2) (varM 6))) (varM 3)) (retM []))))
    (seqM (exprS (mutM 5 appD (consM (retM (.d .none)) (retM []))))
    (ifM (andM (cmpT ninD (frzM (bin2 ixD (varM 2) (varM 6))) (varM 3)) (cmpT gtI (varM 1) (retM (.d (.int 0))))) (seqM (ifM (cmpT eqD (lenM (varM 3)) (varM 1)) (seqM (withS 3 (setIt 5 (frzM (callM 4 F__law_goes (consM (varM 0) (consM (varM 2) (consM (varM 6) (consM (varM 3) (retM []))))))) (varM 6)))
    (withS 3 (setM 3 (lcM (itM (varM 3)) (.one 7) t__law_walk_1 (varM 7))))) (retM .nx))
    (exprS (mutM 3 appD (consM (frzM (bin2 ixD (varM 2) (varM 6))) (retM []))))) (retM .nx)))) ρ := rfl
def f__law_walk : M Fl :=
    (seqM (setM 3 (lstM (retM [])))
    (seqM (setM 4 (lstM (retM [])))
    (seqM (setM 5 (lstM (retM [])))
    (seqM (forM (rg1 (consM (lenM (varM 2)) (retM []))) (.one 6) b__law_walk_1)
    (withS 4 (withS 5 (withS 3 (retS (dataM (tupM (consM (varM 4) (consM (varM 5) (consM (varM 3) (retM []))))))))))))))
def F__law_walk : Fn := bodyF 8 f__law_walk
def l_STACKED : List Str := ["last", "first", "young", "far", "often"]
/-! look_stacked -/
def f_look_stacked : M Fl :=
    (seqM (exprS (callM 1 F_look_rule (consM (varM 0) (retM []))))
    (ifM (cmpT ninD (varM 0) (retM (.d (.tuple (l_STACKED.map PyData.str))))) (raiseM 2) (retM .nx)))
def F_look_stacked : Fn := bodyF 1 f_look_stacked
/-! rank -/
def f_rank : M Fl :=
    (seqM (ifM (cmpT eqD (varM 0) (retM (.d (.str "last")))) (retS (dataM (tupM (consM (frzM (callM 3 F_last_of (consM (varM 1) (consM (varM 2) (consM (varM 3) (retM [])))))) (consM (retM (.d (.int 0))) (retM [])))))) (retM .nx))
    (seqM (ifM (cmpT eqD (varM 0) (retM (.d (.str "first")))) (retS (dataM (tupM (consM (frzM (bin2 subD (retM (.d (.int 0))) (frzM (callM 3 F_last_of (consM (varM 1) (consM (varM 2) (consM (varM 3) (retM [])))))))) (consM (retM (.d (.int 0))) (retM [])))))) (retM .nx))
    (seqM (ifM (cmpT eqD (varM 0) (retM (.d (.str "young")))) (retS (dataM (tupM (consM (frzM (bin2 subD (retM (.d (.int 0))) (frzM (callM 3 F_next_of (consM (varM 1) (consM (retM (.d (.int 0))) (consM (varM 3) (retM [])))))))) (consM (retM (.d (.int 0))) (retM [])))))) (retM .nx))
    (seqM (ifM (cmpT eqD (varM 0) (retM (.d (.str "far")))) (retS (dataM (tupM (consM (frzM (bin2 subD (retM (.d (.int 0))) (frzM (callM 3 F_next_of (consM (varM 1) (consM (varM 2) (consM (varM 3) (retM [])))))))) (consM (varM 3) (retM [])))))) (retM .nx))
    (retS (dataM (tupM (consM (meM (lookD countD) (frzM (sliceM (varM 1) partN (partS (varM 2)))) (consM (varM 3) (retM []))) (consM (frzM (callM 3 F_last_of (consM (varM 1) (consM (varM 2) (consM (varM 3) (retM [])))))) (retM []))))))))))
def F_rank : Fn := bodyF 4 f_rank
/-! moved -/
def b_moved_1 : M Fl :=
    (seqM (ifM (cmpT eqD (varM 7) (varM 4)) (retM .bk) (retM .nx))
    (ifM (isNT false (varM 6)) (setM 6 (dataM (varM 7))) (ifM (cmpT ltT (frzM (callM 4 F_rank (consM (varM 0) (consM (varM 1) (consM (varM 2) (consM (varM 7) (retM []))))))) (frzM (callM 4 F_rank (consM (varM 0) (consM (varM 1) (consM (varM 2) (consM (varM 6) (retM [])))))))) (seqM (exprS (mutM 5 appD (consM (varM 6) (retM []))))
    (setM 6 (dataM (varM 7)))) (exprS (mutM 5 appD (consM (varM 7) (retM [])))))))
theorem b_moved_1_ap (ρ : Ev) : b_moved_1 ρ =
    (seqM (ifM (cmpT eqD (varM 7) (varM 4)) (retM .bk) (retM .nx))
    (ifM (isNT false (varM 6)) (setM 6 (dataM (varM 7))) (ifM (cmpT ltT (frzM (callM 4 F_rank (consM (varM 0) (consM (varM 1) (consM (varM 2) (consM (varM 7) (retM []))))))) (frzM (callM 4 F_rank (consM (varM 0) (consM (varM 1) (consM (varM 2) (consM (varM 6) (retM [])))))))) (seqM (exprS (mutM 5 appD (consM (varM 6) (retM []))))
    (setM 6 (dataM (varM 7)))) (exprS (mutM 5 appD (consM (varM 7) (retM []))))))) ρ := rfl
def f_moved : M Fl :=
    (seqM (setM 4 (bin2 ixD (varM 1) (varM 2)))
    (seqM (setM 5 (lstM (consM (varM 4) (retM []))))
    (seqM (setM 6 (dataM (retM (.d .none))))
    (seqM (forM (itM (varM 3)) (.one 7) b_moved_1)
    (seqM (ifM (isNT true (varM 6)) (exprS (mutM 5 appD (consM (varM 6) (retM [])))) (retM .nx))
    (retS (bin2 addD (varM 5) (frzM (sliceM (varM 3) (partS (lenM (varM 5))) partN)))))))))
def F_moved : Fn := bodyF 8 f_moved
/-! walked -/
def b_walked_1 : M Fl :=
    (seqM (exprS (mutM 3 appD (consM (ifM (cmpT inD (frzM (bin2 ixD (varM 1) (varM 4))) (varM 2)) (frzM (bin2 addD (meM (lookD indexD) (varM 2) (consM (frzM (bin2 ixD (varM 1) (varM 4))) (retM []))) (retM (.d (.int 1))))) (retM (.d .none))) (retM []))))
    (withS 2 (setM 2 (callM 4 F_moved (consM (varM 0) (consM (varM 1) (consM (varM 4) (consM (varM 2) (retM [])))))))))
theorem b_walked_1_ap (ρ : Ev) : b_walked_1 ρ =
    (seqM (exprS (mutM 3 appD (consM (ifM (cmpT inD (frzM (bin2 ixD (varM 1) (varM 4))) (varM 2)) (frzM (bin2 addD (meM (lookD indexD) (varM 2) (consM (frzM (bin2 ixD (varM 1) (varM 4))) (retM []))) (retM (.d (.int 1))))) (retM (.d .none))) (retM []))))
    (withS 2 (setM 2 (callM 4 F_moved (consM (varM 0) (consM (varM 1) (consM (varM 4) (consM (varM 2) (retM []))))))))) ρ := rfl
def f_walked : M Fl :=
    (seqM (setM 2 (lstM (retM [])))
    (seqM (setM 3 (lstM (retM [])))
    (seqM (forM (rg1 (consM (lenM (varM 1)) (retM []))) (.one 4) b_walked_1)
    (withS 3 (withS 2 (retS (dataM (tupM (consM (varM 3) (consM (varM 2) (retM [])))))))))))
def F_walked : Fn := bodyF 5 f_walked
/-! depths -/
def f_depths : M Fl :=
    (seqM (exprS (callM 1 F_look_stacked (consM (varM 0) (retM []))))
    (seqM (exprS (callM 1 F_look_row (consM (varM 1) (retM []))))
    (retS (bin2 ixD (frzM (callM 2 F_walked (consM (varM 0) (consM (varM 1) (retM []))))) (retM (.d (.int 0)))))))
def F_depths : Fn := bodyF 2 f_depths
/-! stack -/
def f_stack : M Fl :=
    (seqM (exprS (callM 1 F_look_stacked (consM (varM 0) (retM []))))
    (seqM (exprS (callM 1 F_look_row (consM (varM 1) (retM []))))
    (retS (bin2 ixD (frzM (callM 2 F_walked (consM (varM 0) (consM (varM 1) (retM []))))) (retM (.d (.int 1)))))))
def F_stack : Fn := bodyF 2 f_stack
/-! counts -/
def e_counts_1 : M Av :=
    (meM (lookD countD) (varM 2) (consM (varM 3) (retM [])))
theorem e_counts_1_ap (ρ : Ev) : e_counts_1 ρ =
    (meM (lookD countD) (varM 2) (consM (varM 3) (retM []))) ρ := rfl
def f_counts : M Fl :=
    (seqM (setM 2 (callM 2 F_depths (consM (varM 0) (consM (varM 1) (retM [])))))
    (retS (bin2 addD (frzM (lstM (consM (meM (lookD countD) (varM 2) (consM (retM (.d .none)) (retM []))) (retM [])))) (frzM (lcM (rg2 (consM (retM (.d (.int 1))) (consM (frzM (bin2 addD (retM (.d (.int 12))) (retM (.d (.int 1))))) (retM [])))) (.one 3) (retM true) e_counts_1)))))
def F_counts : Fn := bodyF 4 f_counts
/-! curve -/
def e_curve_1 : M Av :=
    (frzM (callM 3 F_misses (consM (varM 0) (consM (varM 3) (consM (varM 1) (retM []))))))
theorem e_curve_1_ap (ρ : Ev) : e_curve_1 ρ =
    (frzM (callM 3 F_misses (consM (varM 0) (consM (varM 3) (consM (varM 1) (retM [])))))) ρ := rfl
def t_curve_1 : M Bool :=
    (orM (isNT false (varM 4)) (cmpT gtI (varM 4) (varM 3)))
theorem t_curve_1_ap (ρ : Ev) : t_curve_1 ρ =
    (orM (isNT false (varM 4)) (cmpT gtI (varM 4) (varM 3))) ρ := rfl
def e_curve_2 : M Av :=
    (lenM (frzM (lcM (itM (varM 2)) (.one 4) t_curve_1 (varM 4))))
theorem e_curve_2_ap (ρ : Ev) : e_curve_2 ρ =
    (lenM (frzM (lcM (itM (varM 2)) (.one 4) t_curve_1 (varM 4)))) ρ := rfl
def f_curve : M Fl :=
    (seqM (exprS (callM 1 F_look_rule (consM (varM 0) (retM []))))
    (seqM (exprS (callM 1 F_look_row (consM (varM 1) (retM []))))
    (seqM (ifM (cmpT ninD (varM 0) (retM (.d (.tuple (l_STACKED.map PyData.str))))) (retS (lcM (rg1 (consM (frzM (bin2 addD (retM (.d (.int 12))) (retM (.d (.int 1))))) (retM []))) (.one 3) (retM true) e_curve_1)) (retM .nx))
    (seqM (setM 2 (callM 2 F_depths (consM (varM 0) (consM (varM 1) (retM [])))))
    (retS (lcM (rg1 (consM (frzM (bin2 addD (retM (.d (.int 12))) (retM (.d (.int 1))))) (retM []))) (.one 3) (retM true) e_curve_2))))))
def F_curve : Fn := bodyF 5 f_curve
/-! loses -/
def t_loses_1 : M Bool :=
    (cmpT gtI (frzM (bin2 ixD (varM 2) (frzM (bin2 addD (varM 3) (retM (.d (.int 1))))))) (frzM (bin2 ixD (varM 2) (varM 3))))
theorem t_loses_1_ap (ρ : Ev) : t_loses_1 ρ =
    (cmpT gtI (frzM (bin2 ixD (varM 2) (frzM (bin2 addD (varM 3) (retM (.d (.int 1))))))) (frzM (bin2 ixD (varM 2) (varM 3)))) ρ := rfl
def f_loses : M Fl :=
    (seqM (setM 2 (callM 2 F_curve (consM (varM 0) (consM (varM 1) (retM [])))))
    (retS (lcM (rg1 (consM (retM (.d (.int 12))) (retM []))) (.one 3) t_loses_1 (varM 3))))
def F_loses : Fn := bodyF 4 f_loses
/-! _law_depth -/
def t__law_depth_1 : M Bool :=
    (cmpT eqD (frzM (bin2 ixD (varM 0) (varM 4))) (frzM (bin2 ixD (varM 0) (varM 1))))
theorem t__law_depth_1_ap (ρ : Ev) : t__law_depth_1 ρ =
    (cmpT eqD (frzM (bin2 ixD (varM 0) (varM 4))) (frzM (bin2 ixD (varM 0) (varM 1)))) ρ := rfl
def t__law_depth_2 : M Bool :=
    (orM (cmpT eqD (varM 4) (retM (.d (.int 0)))) (cmpT neD (frzM (bin2 ixD (varM 3) (varM 4))) (frzM (bin2 ixD (varM 3) (frzM (bin2 subD (varM 4) (retM (.d (.int 1)))))))))
theorem t__law_depth_2_ap (ρ : Ev) : t__law_depth_2 ρ =
    (orM (cmpT eqD (varM 4) (retM (.d (.int 0)))) (cmpT neD (frzM (bin2 ixD (varM 3) (varM 4))) (frzM (bin2 ixD (varM 3) (frzM (bin2 subD (varM 4) (retM (.d (.int 1))))))))) ρ := rfl
def f__law_depth : M Fl :=
    (seqM (setM 2 (lcM (rg1 (consM (varM 1) (retM []))) (.one 4) t__law_depth_1 (varM 4)))
    (seqM (ifM (cmpT eqD (varM 2) (frzM (lstM (retM [])))) (retS (dataM (retM (.d .none)))) (retM .nx))
    (seqM (setM 3 (biM sortD (consM (frzM (sliceM (varM 0) (partS (frzM (bin2 ixD (varM 2) (frzM (un1 negD (retM (.d (.int 1)))))))) (partS (varM 1)))) (retM []))))
    (retS (dataM (lenM (frzM (lcM (rg1 (consM (lenM (varM 3)) (retM []))) (.one 4) t__law_depth_2 (varM 4)))))))))
def F__law_depth : Fn := bodyF 5 f__law_depth
def l_LOSING : List Int := [1, 2, 3, 4, 1, 2, 5, 1, 2, 3, 4, 5]
/-! losing_row -/
def f_losing_row : M Fl :=
    (seqM (exprS (callM 1 F_look_rule (consM (varM 0) (retM []))))
    (retS (ifM (cmpT inD (varM 0) (retM (.d (.tuple (l_STACKED.map PyData.str))))) (dataM (retM (.d .none))) (retM (.l (l_LOSING.map PyData.int))))))
def F_losing_row : Fn := bodyF 1 f_losing_row
/-! crowd -/
def t_crowd_1 : M Bool :=
    (chainT ltI ltI (frzM (bin2 ixD (varM 3) (retM (.d (.int 0))))) (varM 2) (frzM (bin2 ixD (varM 3) (retM (.d (.int 1))))))
theorem t_crowd_1_ap (ρ : Ev) : t_crowd_1 ρ =
    (chainT ltI ltI (frzM (bin2 ixD (varM 3) (retM (.d (.int 0))))) (varM 2) (frzM (bin2 ixD (varM 3) (retM (.d (.int 1)))))) ρ := rfl
def e_crowd_1 : M Av :=
    (lenM (frzM (lcM (itM (varM 1)) (.one 3) t_crowd_1 (varM 3))))
theorem e_crowd_1_ap (ρ : Ev) : e_crowd_1 ρ =
    (lenM (frzM (lcM (itM (varM 1)) (.one 3) t_crowd_1 (varM 3)))) ρ := rfl
def f_crowd : M Fl :=
    (retS (lcM (rg1 (consM (lenM (varM 0)) (retM []))) (.one 2) (retM true) e_crowd_1))
def F_crowd : Fn := bodyF 4 f_crowd
/-! are_kept -/
def f_are_kept : M Fl :=
    (seqM (exprS (callM 1 F_look_room (consM (varM 0) (retM []))))
    (seqM (setM 3 (callM 1 F_holds (consM (varM 1) (retM []))))
    (seqM (ifM (orM (notM (testM (frzM (biM allD (consM (frzM (lcM (itM (varM 2)) (.one 4) (retM true) (cmpM inD (varM 4) (varM 3)))) (retM [])))))) (cmpT ltI (disM (varM 2)) (lenM (varM 2)))) (retS (dataM (retM (.d (.bool false))))) (retM .nx))
    (retS (dataM (orV (notV (varM 2)) (cmpM ltI (frzM (biM (bestD PySem.W.maxD) (consM (frzM (callM 2 F_crowd (consM (varM 1) (consM (varM 2) (retM []))))) (retM [])))) (varM 0))))))))
def F_are_kept : Fn := bodyF 5 f_are_kept
/-! most_held -/
def b_most_held_1 : M Fl :=
    (ifM (testM (frzM (callM 3 F_are_kept (consM (varM 0) (consM (varM 1) (consM (frzM (bin2 addD (varM 2) (frzM (lstM (consM (varM 3) (retM [])))))) (retM []))))))) (exprS (mutM 2 appD (consM (varM 3) (retM [])))) (retM .nx))
theorem b_most_held_1_ap (ρ : Ev) : b_most_held_1 ρ =
    (ifM (testM (frzM (callM 3 F_are_kept (consM (varM 0) (consM (varM 1) (consM (frzM (bin2 addD (varM 2) (frzM (lstM (consM (varM 3) (retM [])))))) (retM []))))))) (exprS (mutM 2 appD (consM (varM 3) (retM [])))) (retM .nx)) ρ := rfl
def f_most_held : M Fl :=
    (seqM (exprS (callM 1 F_look_room (consM (varM 0) (retM []))))
    (seqM (setM 2 (lstM (retM [])))
    (seqM (forM (itM (frzM (sortKM (frzM (callM 1 F_holds (consM (varM 1) (retM []))))))) (.one 3) b_most_held_1)
    (retS (biM sortD (consM (varM 2) (retM [])))))))
def F_most_held : Fn := bodyF 4 f_most_held
/-! least -/
def f_least : M Fl :=
    (retS (callM 3 F_misses (consM (retM (.d (.str "far"))) (consM (varM 0) (consM (varM 1) (retM []))))))
def F_least : Fn := bodyF 2 f_least
/-! plan -/
def f_plan : M Fl :=
    (retS (callM 3 F_gone (consM (retM (.d (.str "far"))) (consM (varM 0) (consM (varM 1) (retM []))))))
def F_plan : Fn := bodyF 2 f_plan
/-! followed -/
def t_followed_1 : M Bool :=
    (cmpT neD (varM 8) (frzM (bin2 ixD (varM 2) (varM 5))))
theorem t_followed_1_ap (ρ : Ev) : t_followed_1 ρ =
    (cmpT neD (varM 8) (frzM (bin2 ixD (varM 2) (varM 5)))) ρ := rfl
def b_followed_1 : M Fl :=
    (seqM (setM 6 (dataM (cmpM inD (frzM (bin2 ixD (varM 1) (varM 5))) (varM 3))))
    (seqM (setM 7 (dataM (andV (notV (varM 6)) (andV (cmpM gtI (varM 0) (retM (.d (.int 0)))) (cmpM eqD (lenM (varM 3)) (varM 0))))))
    (seqM (ifM (orM (cmpT neD (varM 7) (isN true (frzM (bin2 ixD (varM 2) (varM 5))))) (andM (testM (varM 7)) (cmpT ninD (frzM (bin2 ixD (varM 2) (varM 5))) (varM 3)))) (raiseM 3) (retM .nx))
    (seqM (withS 3 (setM 3 (lcM (itM (varM 3)) (.one 8) t_followed_1 (varM 8))))
    (seqM (ifM (andM (notM (testM (varM 6))) (cmpT gtI (varM 0) (retM (.d (.int 0))))) (exprS (mutM 3 appD (consM (frzM (bin2 ixD (varM 1) (varM 5))) (retM [])))) (retM .nx))
    (exprS (mutM 4 appD (consM (varM 6) (retM [])))))))))
theorem b_followed_1_ap (ρ : Ev) : b_followed_1 ρ =
    (seqM (setM 6 (dataM (cmpM inD (frzM (bin2 ixD (varM 1) (varM 5))) (varM 3))))
    (seqM (setM 7 (dataM (andV (notV (varM 6)) (andV (cmpM gtI (varM 0) (retM (.d (.int 0)))) (cmpM eqD (lenM (varM 3)) (varM 0))))))
    (seqM (ifM (orM (cmpT neD (varM 7) (isN true (frzM (bin2 ixD (varM 2) (varM 5))))) (andM (testM (varM 7)) (cmpT ninD (frzM (bin2 ixD (varM 2) (varM 5))) (varM 3)))) (raiseM 3) (retM .nx))
    (seqM (withS 3 (setM 3 (lcM (itM (varM 3)) (.one 8) t_followed_1 (varM 8))))
    (seqM (ifM (andM (notM (testM (varM 6))) (cmpT gtI (varM 0) (retM (.d (.int 0))))) (exprS (mutM 3 appD (consM (frzM (bin2 ixD (varM 1) (varM 5))) (retM [])))) (retM .nx))
    (exprS (mutM 4 appD (consM (varM 6) (retM []))))))))) ρ := rfl
def f_followed : M Fl :=
    (seqM (exprS (callM 1 F_look_room (consM (varM 0) (retM []))))
    (seqM (exprS (callM 1 F_look_row (consM (varM 1) (retM []))))
    (seqM (ifM (cmpT neD (lenM (varM 2)) (lenM (varM 1))) (raiseM 3) (retM .nx))
    (seqM (setM 3 (lstM (retM [])))
    (seqM (setM 4 (lstM (retM [])))
    (seqM (forM (rg1 (consM (lenM (varM 1)) (retM []))) (.one 5) b_followed_1)
    (retO 4)))))))
def F_followed : Fn := bodyF 9 f_followed
/-! is_plan -/
def f_is_plan : M Fl :=
    (seqM (setM 3 (dataM (retM (.d (.bool true)))))
    (seqM (tryQ [0, 1, 3] g_BadPlan (setM 3 (dataM (retM (.d (.bool false))))) (exprS (callM 3 F_followed (consM (varM 0) (consM (varM 1) (consM (varM 2) (retM [])))))))
    (retO 3)))
def F_is_plan : Fn := bodyF 4 f_is_plan
/-! cost -/
def f_cost : M Fl :=
    (retS (dataM (meM (lookD countD) (frzM (callM 3 F_followed (consM (varM 0) (consM (varM 1) (consM (varM 2) (retM [])))))) (consM (retM (.d (.bool false))) (retM [])))))
def F_cost : Fn := bodyF 3 f_cost
/-! held -/
def t_held_1 : M Bool :=
    (testM (frzM (bin2 ixD (varM 3) (frzM (bin2 ixD (varM 4) (retM (.d (.int 1))))))))
theorem t_held_1_ap (ρ : Ev) : t_held_1 ρ =
    (testM (frzM (bin2 ixD (varM 3) (frzM (bin2 ixD (varM 4) (retM (.d (.int 1)))))))) ρ := rfl
def f_held : M Fl :=
    (seqM (setM 3 (callM 3 F_followed (consM (varM 0) (consM (varM 1) (consM (varM 2) (retM []))))))
    (retS (lcM (itM (frzM (callM 1 F_holds (consM (varM 1) (retM []))))) (.one 4) t_held_1 (varM 4))))
def F_held : Fn := bodyF 5 f_held
/-! is_held -/
def e_is_held_1 : M Av :=
    (andV (cmpM eqD (frzM (bin2 ixD (varM 0) (frzM (bin2 ixD (varM 4) (retM (.d (.int 0))))))) (varM 3)) (chainM ltI ltI (frzM (bin2 ixD (varM 4) (retM (.d (.int 0))))) (varM 2) (frzM (bin2 ixD (varM 4) (retM (.d (.int 1)))))))
theorem e_is_held_1_ap (ρ : Ev) : e_is_held_1 ρ =
    (andV (cmpM eqD (frzM (bin2 ixD (varM 0) (frzM (bin2 ixD (varM 4) (retM (.d (.int 0))))))) (varM 3)) (chainM ltI ltI (frzM (bin2 ixD (varM 4) (retM (.d (.int 0))))) (varM 2) (frzM (bin2 ixD (varM 4) (retM (.d (.int 1))))))) ρ := rfl
def f_is_held : M Fl :=
    (retS (biM anyD (consM (frzM (lcM (itM (varM 1)) (.one 4) (retM true) e_is_held_1)) (retM []))))
def F_is_held : Fn := bodyF 5 f_is_held
/-! can_be -/
def b_can_be_1 : M Fl :=
    (seqM (ifM (andM (isNT true (varM 2)) (notM (chainT leI leI (retM (.d (.int 1))) (varM 2) (varM 1)))) (retS (dataM (retM (.d (.bool false))))) (retM .nx))
    (setM 1 (bin2 addD (varM 1) (frzM (biM intD (consM (isN false (varM 2)) (retM [])))))))
theorem b_can_be_1_ap (ρ : Ev) : b_can_be_1 ρ =
    (seqM (ifM (andM (isNT true (varM 2)) (notM (chainT leI leI (retM (.d (.int 1))) (varM 2) (varM 1)))) (retS (dataM (retM (.d (.bool false))))) (retM .nx))
    (setM 1 (bin2 addD (varM 1) (frzM (biM intD (consM (isN false (varM 2)) (retM []))))))) ρ := rfl
def f_can_be : M Fl :=
    (seqM (ifM (cmpT gtI (lenM (varM 0)) (retM (.d (.int 24)))) (retS (dataM (retM (.d (.bool false))))) (retM .nx))
    (seqM (setM 1 (dataM (retM (.d (.int 0)))))
    (seqM (forM (itM (varM 0)) (.one 2) b_can_be_1)
    (retS (dataM (cmpM leI (varM 1) (frzM (bin2 addD (retM (.d (.int 19))) (retM (.d (.int 1)))))))))))
def F_can_be : Fn := bodyF 3 f_can_be
/-! row_of -/
def b_row_of_1 : M Fl :=
    (seqM (setM 5 (dataM (varM 3)))
    (seqM (ifM (isNT false (varM 4)) (setM 3 (bin2 addD (varM 3) (retM (.d (.int 1))))) (setM 5 (mutM 1 popAtD (consM (frzM (bin2 subD (varM 4) (retM (.d (.int 1))))) (retM [])))))
    (seqM (exprS (mutM 1 insD (consM (retM (.d (.int 0))) (consM (varM 5) (retM [])))))
    (exprS (mutM 2 appD (consM (varM 5) (retM [])))))))
theorem b_row_of_1_ap (ρ : Ev) : b_row_of_1 ρ =
    (seqM (setM 5 (dataM (varM 3)))
    (seqM (ifM (isNT false (varM 4)) (setM 3 (bin2 addD (varM 3) (retM (.d (.int 1))))) (setM 5 (mutM 1 popAtD (consM (frzM (bin2 subD (varM 4) (retM (.d (.int 1))))) (retM [])))))
    (seqM (exprS (mutM 1 insD (consM (retM (.d (.int 0))) (consM (varM 5) (retM [])))))
    (exprS (mutM 2 appD (consM (varM 5) (retM []))))))) ρ := rfl
def f_row_of : M Fl :=
    (seqM (ifM (notM (testM (frzM (callM 1 F_can_be (consM (varM 0) (retM [])))))) (raiseM 4) (retM .nx))
    (seqM (setM 1 (lstM (retM [])))
    (seqM (setM 2 (lstM (retM [])))
    (seqM (setM 3 (dataM (retM (.d (.int 0)))))
    (seqM (forM (itM (varM 0)) (.one 4) b_row_of_1)
    (retO 2))))))
def F_row_of : Fn := bodyF 6 f_row_of
/-! can_count -/
def e_can_count_1 : M Av :=
    (andV (cmpM gtI (frzM (bin2 ixD (varM 0) (varM 1))) (retM (.d (.int 0)))) (cmpM gtI (varM 1) (frzM (bin2 ixD (varM 0) (retM (.d (.int 0)))))))
theorem e_can_count_1_ap (ρ : Ev) : e_can_count_1 ρ =
    (andV (cmpM gtI (frzM (bin2 ixD (varM 0) (varM 1))) (retM (.d (.int 0)))) (cmpM gtI (varM 1) (frzM (bin2 ixD (varM 0) (retM (.d (.int 0))))))) ρ := rfl
def f_can_count : M Fl :=
    (seqM (ifM (orM (notM (testM (varM 0))) (orM (cmpT ltI (frzM (biM (bestD PySem.W.minD) (consM (varM 0) (retM [])))) (retM (.d (.int 0)))) (orM (cmpT gtI (frzM (biM sumD (consM (varM 0) (retM [])))) (retM (.d (.int 24)))) (cmpT gtI (frzM (bin2 ixD (varM 0) (retM (.d (.int 0))))) (frzM (bin2 addD (retM (.d (.int 19))) (retM (.d (.int 1))))))))) (retS (dataM (retM (.d (.bool false))))) (retM .nx))
    (retS (dataM (notV (frzM (biM anyD (consM (frzM (lcM (rg2 (consM (retM (.d (.int 1))) (consM (lenM (varM 0)) (retM [])))) (.one 1) (retM true) e_can_count_1)) (retM []))))))))
def F_can_count : Fn := bodyF 2 f_can_count
/-! row_with -/
def b_row_with_1 : M Fl :=
    (exprS (mutM 1 extD (consM (frzM (bin2 mulD (frzM (lstM (consM (varM 2) (retM [])))) (frzM (bin2 ixD (varM 0) (varM 2))))) (retM []))))
theorem b_row_with_1_ap (ρ : Ev) : b_row_with_1 ρ =
    (exprS (mutM 1 extD (consM (frzM (bin2 mulD (frzM (lstM (consM (varM 2) (retM [])))) (frzM (bin2 ixD (varM 0) (varM 2))))) (retM [])))) ρ := rfl
def f_row_with : M Fl :=
    (seqM (ifM (notM (testM (frzM (callM 1 F_can_count (consM (varM 0) (retM [])))))) (raiseM 4) (retM .nx))
    (seqM (setM 1 (bin2 mulD (frzM (lstM (consM (retM (.d .none)) (retM [])))) (frzM (bin2 ixD (varM 0) (retM (.d (.int 0)))))))
    (seqM (forM (rg3 (consM (frzM (bin2 subD (lenM (varM 0)) (retM (.d (.int 1))))) (consM (retM (.d (.int 0))) (consM (frzM (un1 negD (retM (.d (.int 1))))) (retM []))))) (.one 2) b_row_with_1)
    (withS 1 (retS (callM 1 F_row_of (consM (varM 1) (retM []))))))))
def F_row_with : Fn := bodyF 3 f_row_with
/-! how_many -/
def e_how_many_1 : M Av :=
    (frzM (bin2 addD (frzM (bin2 mulD (frzM (bin2 ixD (varM 2) (varM 4))) (varM 4))) (ifM (cmpT gtI (varM 4) (retM (.d (.int 0)))) (frzM (bin2 ixD (varM 2) (frzM (bin2 subD (varM 4) (retM (.d (.int 1))))))) (retM (.d (.int 0))))))
theorem e_how_many_1_ap (ρ : Ev) : e_how_many_1 ρ =
    (frzM (bin2 addD (frzM (bin2 mulD (frzM (bin2 ixD (varM 2) (varM 4))) (varM 4))) (ifM (cmpT gtI (varM 4) (retM (.d (.int 0)))) (frzM (bin2 ixD (varM 2) (frzM (bin2 subD (varM 4) (retM (.d (.int 1))))))) (retM (.d (.int 0)))))) ρ := rfl
def b_how_many_1 : M Fl :=
    (setM 2 (lcM (rg1 (consM (frzM (bin2 addD (varM 0) (retM (.d (.int 1))))) (retM []))) (.one 4) (retM true) e_how_many_1))
theorem b_how_many_1_ap (ρ : Ev) : b_how_many_1 ρ =
    (setM 2 (lcM (rg1 (consM (frzM (bin2 addD (varM 0) (retM (.d (.int 1))))) (retM []))) (.one 4) (retM true) e_how_many_1)) ρ := rfl
def f_how_many : M Fl :=
    (seqM (ifM (orM (notM (chainT leI leI (retM (.d (.int 0))) (varM 1) (retM (.d (.int 24))))) (notM (chainT leI leI (retM (.d (.int 0))) (varM 0) (frzM (biM (two2 fun i j => if j < i then j else i) (consM (varM 1) (consM (frzM (bin2 addD (retM (.d (.int 19))) (retM (.d (.int 1))))) (retM [])))))))) (raiseM 4) (retM .nx))
    (seqM (setM 2 (bin2 addD (frzM (lstM (consM (retM (.d (.int 1))) (retM [])))) (frzM (bin2 mulD (frzM (lstM (consM (retM (.d (.int 0))) (retM [])))) (varM 0)))))
    (seqM (forM (rg1 (consM (varM 1) (retM []))) (.one 3) b_how_many_1)
    (retS (bin2 ixD (varM 2) (varM 0))))))
def F_how_many : Fn := bodyF 5 f_how_many
/-! woven -/
def b_woven_1 : M Fl :=
    (exprS (mutM 4 appD (consM (frzM (bin2 ixD (frzM (bin2 ixD (varM 3) (varM 5))) (meM (lookD countD) (frzM (sliceM (varM 2) partN (partS (lenM (varM 4))))) (consM (varM 5) (retM []))))) (retM []))))
theorem b_woven_1_ap (ρ : Ev) : b_woven_1 ρ =
    (exprS (mutM 4 appD (consM (frzM (bin2 ixD (frzM (bin2 ixD (varM 3) (varM 5))) (meM (lookD countD) (frzM (sliceM (varM 2) partN (partS (lenM (varM 4))))) (consM (varM 5) (retM []))))) (retM [])))) ρ := rfl
def f_woven : M Fl :=
    (seqM (setM 3 (lstM (consM (frzM (callM 1 F_apart (consM (varM 0) (retM [])))) (consM (frzM (callM 1 F_apart (consM (varM 1) (retM [])))) (retM [])))))
    (seqM (ifM (cmpT neD (frzM (biM sortD (consM (varM 2) (retM [])))) (frzM (bin2 addD (frzM (bin2 mulD (frzM (lstM (consM (retM (.d (.int 0))) (retM [])))) (lenM (varM 0)))) (frzM (bin2 mulD (frzM (lstM (consM (retM (.d (.int 1))) (retM [])))) (lenM (varM 1))))))) (raiseM 5) (retM .nx))
    (seqM (setIt 3 (frzM (biM listD (consM (varM 0) (retM [])))) (retM (.d (.int 0))))
    (seqM (setM 4 (lstM (retM [])))
    (seqM (forM (itM (varM 2)) (.one 5) b_woven_1)
    (seqM (withS 4 (exprS (callM 1 F_look_row (consM (varM 4) (retM [])))))
    (retO 4)))))))
def F_woven : Fn := bodyF 6 f_woven
/-! shared -/
def f_shared : M Fl :=
    (seqM (exprS (callM 1 F_look_room (consM (varM 3) (retM []))))
    (retS (bin2 ixD (frzM (callM 2 F_curve (consM (retM (.d (.str "last"))) (consM (frzM (callM 3 F_woven (consM (varM 0) (consM (varM 1) (consM (varM 2) (retM [])))))) (retM []))))) (varM 3))))
def F_shared : Fn := bodyF 4 f_shared
/-! parted -/
def f_parted : M Fl :=
    (seqM (exprS (callM 1 F_look_room (consM (varM 2) (retM []))))
    (seqM (exprS (callM 1 F_look_room (consM (varM 3) (retM []))))
    (retS (bin2 addD (frzM (bin2 ixD (frzM (callM 2 F_curve (consM (retM (.d (.str "last"))) (consM (varM 0) (retM []))))) (varM 2))) (frzM (bin2 ixD (frzM (callM 2 F_curve (consM (retM (.d (.str "last"))) (consM (varM 1) (retM []))))) (varM 3)))))))
def F_parted : Fn := bodyF 4 f_parted
/-! best_parting -/
def e_best_parting_1 : M Av :=
    (tupM (consM (frzM (callM 4 F_parted (consM (varM 0) (consM (varM 1) (consM (varM 5) (consM (frzM (bin2 subD (varM 2) (varM 5))) (retM []))))))) (consM (varM 5) (retM []))))
theorem e_best_parting_1_ap (ρ : Ev) : e_best_parting_1 ρ =
    (tupM (consM (frzM (callM 4 F_parted (consM (varM 0) (consM (varM 1) (consM (varM 5) (consM (frzM (bin2 subD (varM 2) (varM 5))) (retM []))))))) (consM (varM 5) (retM [])))) ρ := rfl
def f_best_parting : M Fl :=
    (seqM (exprS (callM 1 F_look_room (consM (varM 2) (retM []))))
    (seqM (setM 3 (lcM (rg1 (consM (frzM (bin2 addD (varM 2) (retM (.d (.int 1))))) (retM []))) (.one 5) (retM true) e_best_parting_1))
    (seqM (asgM (frzM (biM (bestD PySem.W.minD) (consM (varM 3) (retM [])))) (.tup [4, 5]))
    (retS (dataM (tupM (consM (varM 5) (consM (varM 4) (retM [])))))))))
def F_best_parting : Fn := bodyF 6 f_best_parting
/-! best_of_many -/
def e_best_of_many_1 : M Av :=
    (frzM (bin2 ixD (varM 2) (frzM (bin2 subD (varM 6) (varM 8)))))
theorem e_best_of_many_1_ap (ρ : Ev) : e_best_of_many_1 ρ =
    (frzM (bin2 ixD (varM 2) (frzM (bin2 subD (varM 6) (varM 8))))) ρ := rfl
def e_best_of_many_2 : M Av :=
    (tupM (consM (frzM (bin2 addD (frzM (bin2 ixD (frzM (bin2 ixD (varM 7) (varM 8))) (retM (.d (.int 0))))) (frzM (bin2 ixD (varM 4) (varM 8))))) (consM (frzM (bin2 addD (frzM (bin2 ixD (frzM (bin2 ixD (varM 7) (varM 8))) (retM (.d (.int 1))))) (frzM (lstM (consM (varM 8) (retM [])))))) (retM []))))
theorem e_best_of_many_2_ap (ρ : Ev) : e_best_of_many_2 ρ =
    (tupM (consM (frzM (bin2 addD (frzM (bin2 ixD (frzM (bin2 ixD (varM 7) (varM 8))) (retM (.d (.int 0))))) (frzM (bin2 ixD (varM 4) (varM 8))))) (consM (frzM (bin2 addD (frzM (bin2 ixD (frzM (bin2 ixD (varM 7) (varM 8))) (retM (.d (.int 1))))) (frzM (lstM (consM (varM 8) (retM [])))))) (retM [])))) ρ := rfl
def b_best_of_many_1 : M Fl :=
    (seqM (setM 7 (lcM (rg1 (consM (frzM (bin2 addD (varM 6) (retM (.d (.int 1))))) (retM []))) (.one 8) (retM true) e_best_of_many_1))
    (exprS (mutM 5 appD (consM (frzM (biM (bestD PySem.W.minD) (consM (frzM (lcM (rg1 (consM (frzM (bin2 addD (varM 6) (retM (.d (.int 1))))) (retM []))) (.one 8) (retM true) e_best_of_many_2)) (retM [])))) (retM [])))))
theorem b_best_of_many_1_ap (ρ : Ev) : b_best_of_many_1 ρ =
    (seqM (setM 7 (lcM (rg1 (consM (frzM (bin2 addD (varM 6) (retM (.d (.int 1))))) (retM []))) (.one 8) (retM true) e_best_of_many_1))
    (exprS (mutM 5 appD (consM (frzM (biM (bestD PySem.W.minD) (consM (frzM (lcM (rg1 (consM (frzM (bin2 addD (varM 6) (retM (.d (.int 1))))) (retM []))) (.one 8) (retM true) e_best_of_many_2)) (retM [])))) (retM []))))) ρ := rfl
def b_best_of_many_2 : M Fl :=
    (seqM (setM 4 (callM 2 F_curve (consM (retM (.d (.str "last"))) (consM (varM 3) (retM [])))))
    (seqM (setM 5 (lstM (retM [])))
    (seqM (forM (rg1 (consM (frzM (bin2 addD (varM 1) (retM (.d (.int 1))))) (retM []))) (.one 6) b_best_of_many_1)
    (withS 5 (setM 2 (dataM (varM 5)))))))
theorem b_best_of_many_2_ap (ρ : Ev) : b_best_of_many_2 ρ =
    (seqM (setM 4 (callM 2 F_curve (consM (retM (.d (.str "last"))) (consM (varM 3) (retM [])))))
    (seqM (setM 5 (lstM (retM [])))
    (seqM (forM (rg1 (consM (frzM (bin2 addD (varM 1) (retM (.d (.int 1))))) (retM []))) (.one 6) b_best_of_many_1)
    (withS 5 (setM 2 (dataM (varM 5))))))) ρ := rfl
def f_best_of_many : M Fl :=
    (seqM (exprS (callM 1 F_look_room (consM (varM 1) (retM []))))
    (seqM (setM 2 (bin2 mulD (frzM (lstM (consM (tupM (consM (retM (.d (.int 0))) (consM (frzM (lstM (retM []))) (retM [])))) (retM [])))) (frzM (bin2 addD (varM 1) (retM (.d (.int 1)))))))
    (seqM (forM (itM (varM 0)) (.one 3) b_best_of_many_2)
    (retS (dataM (tupM (consM (frzM (bin2 ixD (frzM (bin2 ixD (varM 2) (varM 1))) (retM (.d (.int 1))))) (consM (frzM (bin2 ixD (frzM (bin2 ixD (varM 2) (varM 1))) (retM (.d (.int 0))))) (retM [])))))))))
def F_best_of_many : Fn := bodyF 9 f_best_of_many
/-! levels -/
def b_levels_1 : M Fl :=
    (seqM (exprS (mutM 5 appD (consM (ifM (cmpT inD (varM 6) (varM 3)) (retM (.d (.str "near"))) (ifM (cmpT inD (varM 6) (varM 4)) (retM (.d (.str "far"))) (retM (.d (.str "none"))))) (retM []))))
    (seqM (withS 3 (setM 3 (bin2 addD (frzM (lstM (consM (varM 6) (retM [])))) (frzM (lcM (itM (varM 3)) (.one 7) (cmpT neD (varM 7) (varM 6)) (varM 7))))))
    (seqM (withS 4 (setM 4 (bin2 addD (frzM (sliceM (varM 3) (partS (varM 0)) partN)) (frzM (lcM (itM (varM 4)) (.one 7) (cmpT neD (varM 7) (varM 6)) (varM 7))))))
    (seqM (setM 3 (sliceM (varM 3) partN (partS (varM 0))))
    (setM 4 (sliceM (varM 4) partN (partS (varM 1))))))))
theorem b_levels_1_ap (ρ : Ev) : b_levels_1 ρ =
    (seqM (exprS (mutM 5 appD (consM (ifM (cmpT inD (varM 6) (varM 3)) (retM (.d (.str "near"))) (ifM (cmpT inD (varM 6) (varM 4)) (retM (.d (.str "far"))) (retM (.d (.str "none"))))) (retM []))))
    (seqM (withS 3 (setM 3 (bin2 addD (frzM (lstM (consM (varM 6) (retM [])))) (frzM (lcM (itM (varM 3)) (.one 7) (cmpT neD (varM 7) (varM 6)) (varM 7))))))
    (seqM (withS 4 (setM 4 (bin2 addD (frzM (sliceM (varM 3) (partS (varM 0)) partN)) (frzM (lcM (itM (varM 4)) (.one 7) (cmpT neD (varM 7) (varM 6)) (varM 7))))))
    (seqM (setM 3 (sliceM (varM 3) partN (partS (varM 0))))
    (setM 4 (sliceM (varM 4) partN (partS (varM 1)))))))) ρ := rfl
def f_levels : M Fl :=
    (seqM (exprS (callM 1 F_look_room (consM (varM 0) (retM []))))
    (seqM (exprS (callM 1 F_look_room (consM (varM 1) (retM []))))
    (seqM (exprS (callM 1 F_look_row (consM (varM 2) (retM []))))
    (seqM (setM 3 (lstM (retM [])))
    (seqM (setM 4 (lstM (retM [])))
    (seqM (setM 5 (lstM (retM [])))
    (seqM (forM (itM (varM 2)) (.one 6) b_levels_1)
    (retO 5))))))))
def F_levels : Fn := bodyF 8 f_levels
/-! filtered -/
def t_filtered_1 : M Bool :=
    (notM (testM (frzM (bin2 ixD (varM 2) (varM 3)))))
theorem t_filtered_1_ap (ρ : Ev) : t_filtered_1 ρ =
    (notM (testM (frzM (bin2 ixD (varM 2) (varM 3))))) ρ := rfl
def f_filtered : M Fl :=
    (seqM (setM 2 (callM 3 F_run (consM (retM (.d (.str "last"))) (consM (varM 0) (consM (varM 1) (retM []))))))
    (retS (lcM (rg1 (consM (lenM (varM 1)) (retM []))) (.one 3) t_filtered_1 (frzM (bin2 ixD (varM 1) (varM 3))))))
def F_filtered : Fn := bodyF 4 f_filtered
/-! below -/
def b_below_1 : M Fl :=
    (seqM (setM 7 (dataM (meM (lookD countD) (frzM (sliceM (varM 3) partN (partS (varM 6)))) (consM (retM (.d (.bool false))) (retM [])))))
    (exprS (mutM 5 appD (consM (ifM (testM (frzM (bin2 ixD (varM 3) (varM 6)))) (retM (.d (.str "near"))) (ifM (testM (frzM (bin2 ixD (varM 4) (varM 7)))) (retM (.d (.str "far"))) (retM (.d (.str "none"))))) (retM [])))))
theorem b_below_1_ap (ρ : Ev) : b_below_1 ρ =
    (seqM (setM 7 (dataM (meM (lookD countD) (frzM (sliceM (varM 3) partN (partS (varM 6)))) (consM (retM (.d (.bool false))) (retM [])))))
    (exprS (mutM 5 appD (consM (ifM (testM (frzM (bin2 ixD (varM 3) (varM 6)))) (retM (.d (.str "near"))) (ifM (testM (frzM (bin2 ixD (varM 4) (varM 7)))) (retM (.d (.str "far"))) (retM (.d (.str "none"))))) (retM []))))) ρ := rfl
def f_below : M Fl :=
    (seqM (exprS (callM 1 F_look_room (consM (varM 0) (retM []))))
    (seqM (exprS (callM 1 F_look_room (consM (varM 1) (retM []))))
    (seqM (exprS (callM 1 F_look_row (consM (varM 2) (retM []))))
    (seqM (setM 3 (callM 3 F_run (consM (retM (.d (.str "last"))) (consM (varM 0) (consM (varM 2) (retM []))))))
    (seqM (setM 4 (callM 3 F_run (consM (retM (.d (.str "last"))) (consM (varM 1) (consM (frzM (callM 2 F_filtered (consM (varM 0) (consM (varM 2) (retM []))))) (retM []))))))
    (seqM (setM 5 (lstM (retM [])))
    (seqM (forM (rg1 (consM (lenM (varM 2)) (retM []))) (.one 6) b_below_1)
    (retO 5))))))))
def F_below : Fn := bodyF 8 f_below
/-! plan_of -/
def t_plan_of_1 : M Bool :=
    (notM (testM (frzM (callM 4 F_is_held (consM (varM 1) (consM (varM 2) (consM (varM 5) (consM (varM 8) (retM [])))))))))
theorem t_plan_of_1_ap (ρ : Ev) : t_plan_of_1 ρ =
    (notM (testM (frzM (callM 4 F_is_held (consM (varM 1) (consM (varM 2) (consM (varM 5) (consM (varM 8) (retM []))))))))) ρ := rfl
def b_plan_of_1 : M Fl :=
    (seqM (setM 6 (dataM (retM (.d .none))))
    (seqM (ifM (andM (cmpT ninD (frzM (bin2 ixD (varM 1) (varM 5))) (varM 3)) (cmpT gtI (varM 0) (retM (.d (.int 0))))) (seqM (ifM (cmpT eqD (lenM (varM 3)) (varM 0)) (seqM (setThaw 7 3 (lcM (itM (varM 3)) (.one 8) t_plan_of_1 (varM 8)))
    (seqM (setM 6 (bin2 ixD (varM 7) (retM (.d (.int 0)))))
    (exprS (mutM 3 remD (consM (varM 6) (retM [])))))) (retM .nx))
    (exprS (mutM 3 appD (consM (frzM (bin2 ixD (varM 1) (varM 5))) (retM []))))) (retM .nx))
    (exprS (mutM 4 appD (consM (varM 6) (retM []))))))
theorem b_plan_of_1_ap (ρ : Ev) : b_plan_of_1 ρ =
    (seqM (setM 6 (dataM (retM (.d .none))))
    (seqM (ifM (andM (cmpT ninD (frzM (bin2 ixD (varM 1) (varM 5))) (varM 3)) (cmpT gtI (varM 0) (retM (.d (.int 0))))) (seqM (ifM (cmpT eqD (lenM (varM 3)) (varM 0)) (seqM (setThaw 7 3 (lcM (itM (varM 3)) (.one 8) t_plan_of_1 (varM 8)))
    (seqM (setM 6 (bin2 ixD (varM 7) (retM (.d (.int 0)))))
    (exprS (mutM 3 remD (consM (varM 6) (retM [])))))) (retM .nx))
    (exprS (mutM 3 appD (consM (frzM (bin2 ixD (varM 1) (varM 5))) (retM []))))) (retM .nx))
    (exprS (mutM 4 appD (consM (varM 6) (retM [])))))) ρ := rfl
def f_plan_of : M Fl :=
    (seqM (ifM (notM (testM (frzM (callM 3 F_are_kept (consM (varM 0) (consM (varM 1) (consM (varM 2) (retM [])))))))) (raiseM 3) (retM .nx))
    (seqM (setM 3 (lstM (retM [])))
    (seqM (setM 4 (lstM (retM [])))
    (seqM (forM (rg1 (consM (lenM (varM 1)) (retM []))) (.one 5) b_plan_of_1)
    (retO 4)))))
def F_plan_of : Fn := bodyF 9 f_plan_of
end
end G8
namespace L2
open PySem PySem.Spec PyProof.Rows
/-! a comprehension whose items may raise -/
/-- a frame notes an exception, whatever the mark of its traceback -/
theorem note_any {M : Model} {A : Around} {E : Value → Shared → Prop} {s : Shared} {base : Heap} {env : Env} {outer : List Env} {a L : Addr} {Z : Obj → Prop} {fl : Value} {Q : Unit → Shared → Prop} (hZ : HandSPX.Steady Z)
    (fr : A.frames = some (env :: outer)) (hf : env.frame = some L) (k : base.StaysIn s.heap) (n : base.get? a = none) (l : s.heap.FunFrames base (env :: outer)) (t : HandSPX.TracedZ s.heap base a Z fl)
    (hQ : ∀ h', HandSPX.HeldZ base (env :: outer) a Z L h' → s.heap.UpToSlots h' → Q () { s with heap := h' }) : wpAny M A (noteFrame (.ref a) env) Q E s := by
  by_cases hm : fl = rawInt L
  · subst hm
    exact HandSPX.againZ hf t (hQ s.heap ⟨k, n, l, t⟩ (Heap.UpToSlots.refl _))
  obtain ⟨x, xs, R, r, rs, e1, e2, e3, e4, e5, e6, e7, e8, e9⟩ := t
  have off : ∀ c, c ≠ R → (s.heap.update R (Obj.mapFields fun z => z.setIfInBounds 3 Value.none)).get? c = s.heap.get? c := fun c hc => Heap.get?_update_other _ _ (Ne.symm hc)
  have rec_ne : ∀ c u, s.heap.get? c = some u → (∀ zs, u.data ≠ .fields zs) → c ≠ R := fun c u hc hu q => by
    subst q
    rw [e7] at hc
    cases hc
    exact hu rs e8
  unfold noteFrame
  simp only [hf]
  refine wpAny_bind (wpAny_field e1 e3 e4 ?_)
  rw [if_pos (by simp : (Value.ref R != Value.none) = true)]
  refine wpAny_bind (wpAny_field e7 e8 e9 ?_)
  rw [if_neg (by simpa using hm : ¬ (fl == rawInt L) = true)]
  refine wpAny_bind (wpAny_setField e7 e8 (Array.getElem?_eq_some_iff.mp e9).1 ?_)
  have k2 : base.StaysIn (s.heap.update R (Obj.mapFields fun z => z.setIfInBounds 3 Value.none)) := fun c u hc => by
    rw [off c (fun q => by rw [q, e5] at hc; cases hc)]
    exact k c u hc
  have l2 := l.of_keeps (h' := s.heap.update R (Obj.mapFields fun z => z.setIfInBounds 3 Value.none)) fun c u hc hu => ⟨u, by rw [off c (rec_ne c u hc hu)]; exact hc, rfl⟩
  refine HandSPX.wpAny_entryZ hZ fr l2 hf (by rw [off a (Ne.symm e6)]; exact e1) k2 n e3 (Array.getElem?_eq_some_iff.mp e4).1 e2 fun h' z => ?_
  exact hQ h' ⟨z.1, n, z.2.1, z.2.2.1⟩ fun c u hc hu => z.2.2.2 c u (by rw [off c (rec_ne c u hc hu)]; exact hc) hu
/-- what is behind a block: its env told where it raised -/
def CEnd (M : Model) (A : Around) (E : Value → Shared → Prop) (use : Option (Value → Sem Unit)) (Q : Value → Shared → Prop) (acc : Value) (ce : Env) (r : Result) (s' : Shared) : Prop :=
  match r with
  | .ok f => compPost M A E use Q acc ce.locals (.ok f) s'
  | .error x => ∃ m, s'.heap.Ns ce.locals m ∧ ∀ h', Heap.SameBut ce.locals s'.heap h' → wpAny M A (passOn "comprehension.variables-let-go" x ce : Sem Value) (fun _ _ => False) E { s' with heap := h' }
theorem comp_run {M : Model} {A : Around} {E : Value → Shared → Prop} {s : Shared} {env : Env} {e : Expr} {scope : Scope} {pos : Pos} {mk first : Sem Value} {g : Comprehension} {gs : List Comprehension} {cl : List (Str × Addr)} {use : Option (Value → Sem Unit)} {Q : Value → Shared → Prop}
    (c1 : clausesOf e = g :: gs) (c2 : ∀ x, foldedSetIterable g.iter env x = pure x) (c3 : closureFor scope env = pure cl) (c4 : scope.kind = .function) (c5 : ∀ x ∈ scope.names, x.2 = .local → scope.names.lookup x.1 = some .local)
    (h : wpAny M A first (fun x s1 => wpAny M A (pyIter x) (fun it s2 => wpAny M A mk (fun acc s3 => wpAny M A (newFunctionEnv scope env.globals cl [] env.qual none .none (some env))
      (fun ce s4 => codeAny M A (.compStart e 0 it acc { ce with scope := relabel scope env }) (CEnd M A E use Q acc { ce with scope := relabel scope env }) s4) E s3) E s2) E s1) E s) :
    wpAny M A (comprehension e scope env pos mk false first use) Q E s := by
  unfold comprehension
  rw [c3, c1]
  refine wpAny_bind (thn h fun x s1 h1 => ?_)
  refine wpAny_bind (wpAny_standAt ?_)
  refine wpAny_bind (wpAny_of_eq (c2 x) ?_)
  refine wpAny_bind (wpAny_holding (thn h1 fun it s2 h2 => ?_))
  refine wpAny_standIf ?_
  refine wpAny_bind (thn h2 fun acc s3 h3 => ?_)
  refine wpAny_bind (wpAny_pure ?_)
  refine wpAny_bind (thn h3 fun ce s4 h4 => ?_)
  dsimp only
  have lc : ∀ y ∈ scope.names, y.2 = .local → Env.kindOf { ce with scope := relabel scope env } y.1 = some .local := fun y hy hl => lookup_relabel_local (c5 y hy hl)
  have mem1 : ∀ {p : Str × NameKind → Bool} {y : Str × NameKind}, y ∈ (scope.names.filter p).reverse → y ∈ scope.names := fun hy => (List.mem_filter.mp (List.mem_reverse.mp hy)).1
  refine wpAny_holding (wpAny_bind ?_)
  refine wpAny_attempt (wpAny_holding (wpAny_run (codeAny_mono h4 fun r s5 hr => ?_)))
  cases r with
  | error x =>
    obtain ⟨m, hn, hr⟩ := hr
    refine wpAny_bind (wpAny_holding ?_)
    exact wpAny_comp_letGo (cenv := { ce with scope := relabel scope env }) c4 _ s5 m (fun y hy => lc y (mem1 hy)) hn fun h' m' _ sb => wpAny_mono (hr h' sb) (fun _ _ z => z.elim) fun _ _ z => z
  | ok f =>
    cases use with
    | none =>
      obtain ⟨m, hn, hr⟩ := hr
      refine wpAny_bind (wpAny_holding ?_)
      exact wpAny_comp_letGo (cenv := { ce with scope := relabel scope env }) c4 _ s5 m (fun y hy => lc y (mem1 hy)) hn fun h' m' _ sb => wpAny_pure (hr h' sb)
    | some u =>
      refine wpAny_bind (wpAny_rule ?_)
      refine wpAny_bind (wpAny_holding (thn hr fun _ s6 h6 => ?_))
      obtain ⟨m, hn, h6⟩ := h6
      refine wpAny_bind ?_
      refine wpAny_comp_letGo (cenv := { ce with scope := relabel scope env }) c4 _ s6 m (fun y hy => lc y ?_) hn fun h' m' _ sb => wpAny_pure (h6 h' sb)
      rcases List.mem_append.mp hy with z | z
      · exact mem1 (List.mem_of_mem_drop z)
      · exact mem1 (List.mem_of_mem_take z)
theorem frames_off {h h' base : Heap} {c : Addr} : ∀ {l : List Env}, c ∉ frs l → (∀ b v, b ≠ c → h.get? b = some v → h'.get? b = some v) → h.FunFrames base l → h'.FunFrames base l
  | [], _, _, _ => trivial
  | env :: rest, hc, k, ⟨h1, ⟨L, o, h2, h3, h4, h5⟩, h6⟩ => by
    have hL : L ∈ frs (env :: rest) := List.mem_filterMap.mpr ⟨env, List.mem_cons_self .., h2⟩
    refine ⟨h1, ⟨L, o, h2, h3, k L o (fun z => hc (by rw [← z]; exact hL)) h4, h5⟩, frames_off (fun z => hc ?_) k h6⟩
    obtain ⟨e, he, q⟩ := List.mem_filterMap.mp z
    exact List.mem_filterMap.mpr ⟨e, List.mem_cons_of_mem _ he, q⟩
section
variable {X : Cx}
/-- a block's exception, noted and passed on, is in the def's air -/
theorem blk_takes {s3 : Shared} {H3 : Hp} {pins pn : List (Addr × Obj)} {σ : St} {scope : Scope} {cl : List (Str × Addr)} {fp : List Addr} {W : WX} {use : Option (Value → Sem Unit)} {Qf : Value → Shared → Prop} {acc : Value} (hst : X.stack = X.env :: X.outer) (hfm : X.env.frame = some X.env.locals) (tk : Takes X W)
    (I3 : Inv X pins σ H3 s3) (f3 : ∀ b ∈ fp, FpOk X pins H3 b) :
    Takes ((X.blk s3 H3 scope (compEnvC scope cl s3.heap.objs.size X.env) fp).tr pn (notedBy (model X.prog X.w) X.A (compEnvC scope cl s3.heap.objs.size X.env) fun e s' => CEnd (model X.prog X.w) X.A X.xe use Qf acc (compEnvC scope cl s3.heap.objs.size X.env) (.error e) s'))
      (fun cls d _ H' => W cls d σ H') := by
  intro u s' ⟨a, B, sI, pins', σ', H', cls, d, eu, J, nb, up, sky, na, os, ag, w⟩
  subst eu
  have fr : X.A.frames = some (X.env :: X.outer) := by rw [I3.ok.frames, hst]
  have nC : s3.heap.objs.size ∉ frs X.stack := fun z => by
    rcases List.mem_cons.mp (I3.stkSub _ z) with q | q
    · have := I3.lt
      rw [← q] at this
      exact Nat.lt_irrefl _ this
    · exact I3.nofs (Nat.le_refl _) q
  obtain ⟨m, ⟨o, es, ep, g1, g2, g3⟩, _⟩ := J.loc
  have g1 : sI.heap.get? s3.heap.objs.size = some o := g1
  have hC : H' s3.heap.objs.size = none := J.free
  have IX : Inv X pins σ H' sI := I3.call' (ch := fp) J.os J.base J.hok J.bare fun b hb => ⟨(f3 b hb).2.2.2.1, (f3 b hb).2.1, (f3 b hb).2.2.2.2.1, (f3 b hb).2.2.2.2.2⟩
  obtain ⟨q0, q1, q2, q3, q4, q5⟩ := IX.fpOk (H' := H') (b := s3.heap.objs.size) |> fun _ => I3.fpOk (H' := H') (Nat.le_refl _) hC
  have goB : B.get? s3.heap.objs.size = some o := nb _ _ g1 nC
  have fin : ∀ h1, HandSPX.HeldZ B (X.env :: X.outer) a (Zc cls d) X.env.locals h1 → s'.heap.UpToSlots h1 → CEnd (model X.prog X.w) X.A X.xe use Qf acc (compEnvC scope cl s3.heap.objs.size X.env) (.error (.ref a)) { s' with heap := h1 } := by
    intro h1 ⟨k1, k2, k3, x, xs, R, r, rs, e1, e2, e3, e4, e5, e6, e7, e8, e9⟩ up1
    refine ⟨m, ⟨o, es, ep, k1 _ _ goB, g2, g3⟩, fun h2 sb => ?_⟩
    have aC : a ≠ s3.heap.objs.size := fun z => by
      rw [z, goB] at k2
      cases k2
    have RC : R ≠ s3.heap.objs.size := fun z => by
      rw [z, goB] at e5
      cases e5
    have stay : ∀ c v, c ≠ s3.heap.objs.size → h1.get? c = some v → h2.get? c = some v := fun c v hc hv => (sb.2 c hc).trans hv
    have bin : ∀ c v, (PySem.W.hideAll B [s3.heap.objs.size]).get? c = some v → c ≠ s3.heap.objs.size ∧ B.get? c = some v := fun c v hv => by
      refine ⟨fun z => ?_, PySem.W.of_hideAll _ hv⟩
      rw [z, PySem.W.hideAll_none _ (List.mem_singleton.mpr rfl)] at hv
      cases hv
    have S2 : (PySem.W.hideAll B [s3.heap.objs.size]).StaysIn h2 := fun c v hv => stay c v (bin c v hv).1 (k1 c v (bin c v hv).2)
    have hidn : ∀ c, B.get? c = none → (PySem.W.hideAll B [s3.heap.objs.size]).get? c = none := fun c hc => by
      cases q : (PySem.W.hideAll B [s3.heap.objs.size]).get? c with
      | none => rfl
      | some v => rw [(bin c v q).2] at hc; cases hc
    have F2 : h2.FunFrames (PySem.W.hideAll B [s3.heap.objs.size]) (X.env :: X.outer) := by
      refine frames_off (c := s3.heap.objs.size) (fun z => nC (by rw [hst]; exact z)) stay ?_
      exact funFrames_none k3 fun b hb => hidn b (k3.mem hb).1
    unfold PySem.passOn
    refine wpAny_bind (wpAny_field (stay a x aC e1) e3 e4 ?_)
    rw [if_neg (by simp : ¬ (Value.ref R == Value.none) = true)]
    have tz : HandSPX.TracedZ h2 (PySem.W.hideAll B [s3.heap.objs.size]) a (Zc cls d) (rawInt X.env.locals) := ⟨x, xs, R, r, rs, stay a x aC e1, e2, e3, e4, hidn R e5, e6, stay R r RC e7, e8, e9⟩
    have goOn : wpAny (model X.prog X.w) X.A (setFlight (.ref a) (some X.env.locals)) (fun _ s7 => wpAny (model X.prog X.w) X.A (throw (.ref a) : Sem Value) (fun _ _ => False) X.xe s7) X.xe { s' with heap := h2 } := by
      refine HandSPX.setFlight_onZ (base := PySem.W.hideAll B [s3.heap.objs.size]) (l := X.env :: X.outer) (Z := Zc cls d) ⟨S2, hidn a k2, F2, tz⟩ fun h3 hh up3 => wpAny_throw (tk _ _ ?_)
      have IY := IX.turned (it := s3.heap.objs.size) (t' := sI.toks) (h' := PySem.W.hideAll sI.heap [s3.heap.objs.size]) (fun b v hb e => PySem.W.hideAll_get _ e (by simpa using hb)) q0 q1 q3 q4 q5
      refine ⟨a, PySem.W.hideAll B [s3.heap.objs.size], _, pins, σ, H', cls, d, rfl, IY, fun b v e hb => ?_, ?_, .inr (.inr (by rw [hst]; exact hh)), na, os, ag, w⟩
      · have e : (PySem.W.hideAll sI.heap [s3.heap.objs.size]).get? b = some v := e
        have nb' : b ≠ s3.heap.objs.size := fun z => by
          rw [z, PySem.W.hideAll_none _ (List.mem_singleton.mpr rfl)] at e
          cases e
        exact PySem.W.hideAll_get _ (nb b v (PySem.W.of_hideAll _ e) hb) (by simpa using nb')
      · intro b v e hv
        have e : (PySem.W.hideAll sI.heap [s3.heap.objs.size]).get? b = some v := e
        have nb' : b ≠ s3.heap.objs.size := fun z => by
          rw [z, PySem.W.hideAll_none _ (List.mem_singleton.mpr rfl)] at e
          cases e
        obtain ⟨sl, w1⟩ := up b v (PySem.W.of_hideAll _ e) hv
        obtain ⟨sl2, w2⟩ := up1 b _ w1 hv
        obtain ⟨sl3, w3⟩ := up3 b _ (stay b _ nb' w2) hv
        exact ⟨sl3, w3⟩
    have ef : (compEnvC scope cl s3.heap.objs.size X.env).frame = some X.env.locals := hfm
    rw [ef]
    first
      | exact wpAny_bind (wpAny_pure (wpAny_bind goOn))
      | exact wpAny_bind goOn
  show wpAny (model X.prog X.w) X.A (noteFrame (.ref a) X.env) _ _ _
  have sky : Sky B (X.env :: X.outer) a (Zc cls d) s3.heap.objs.size s'.heap := by
    rw [← hst]
    exact sky
  rcases sky with ⟨b1, b2, b3, oe, vs, b4, b5, b6, b7⟩ | b | b
  · exact HandSPX.look_newZ Zc.steady fr b3 hfm b4 b1 b2 b6 b7 b5 fin
  · exact HandSPX.looks_onZ Zc.steady fr hfm b fin
  · exact note_any Zc.steady fr hfm b.1 b.2.1 b.2.2.1 b.2.2.2 fin
/-- the items' rounds -/
theorem blk_rounds {s3 s4 : Shared} {H3 : Hp} {pins : List (Addr × Obj)} {σ : St} {Q : VK} {elt tg iter : Expr} {ifs : List Expr} {scope : Scope} {cl : List (Str × Addr)} {fp : List Addr} {pos : Pos} {vs : List Nat} {D it : Addr} {tn : Nat → Heap → Prop} {J : It} {g : TG} {tt : TT} {te : WX → TE} {W : WX} {use : Option (Value → Sem Unit)} {Qf : Value → Shared → Prop}
    {Wi : Nat → Nat → Hp → Prop} {m0 : Nat} (hst : X.stack = X.env :: X.outer) (hfm : X.env.frame = some X.env.locals) (tk : Takes X W) (calm : X.calm = true) (I3 : Inv X pins σ H3 s3) (f3 : ∀ b ∈ fp, FpOk X pins H3 b) (T : Turn X.prog X.w X.K tg J fp it tn)
    (pg : PG (X.blk s3 H3 scope (compEnvC scope cl s3.heap.objs.size X.env) fp) tg g) (pt : PTs (X.blk s3 H3 scope (compEnvC scope cl s3.heap.objs.size X.env) fp) ifs tt)
    (pe : ∀ (V : WX) (pn : List (Addr × Obj)) (xe : Value → Shared → Prop), Takes ((X.blk s3 H3 scope (compEnvC scope cl s3.heap.objs.size X.env) fp).tr pn xe) V → PE ((X.blk s3 H3 scope (compEnvC scope cl s3.heap.objs.size X.env) fp).tr pn xe) elt (te V))
    (I4 : Inv (X.blk s3 H3 scope (compEnvC scope cl s3.heap.objs.size X.env) fp) [] (wipe σ vs) H3 s4) (t0 : tn 0 s4.heap) (w0 : Wi 0 m0 H3)
    (step : ∀ i m H, Wi i m H → (J.stop i H ∧ Q (.ref D) H) ∨ (J.go i H ∧ ∃ Nx : Hp → Prop, (∀ H', Nx H' → ∃ m', m' < m ∧ Wi (i + 1) m' H') ∧ ∀ x H', J.yld i H x H' → g x (wipe σ vs) H' fun σ2 H2 => wipe σ2 vs = wipe σ vs ∧ tt σ2 H2 fun b H3 =>
      if b = true then te (fun cls d _ H' => W cls d σ H') σ2 H3 fun y H4 => ∃ acc, H4 D = some (.lst acc) ∧ acc.length < sizeLine ∧ Nx (upd H4 D (.lst (acc ++ [y]))) else Nx H3))
    (hR : ∀ s' m H', Inv X pins σ H' s' → Q (.ref D) H' → s'.heap.Ns s3.heap.objs.size m → FpOk X pins H' s3.heap.objs.size → compPost (model X.prog X.w) X.A X.xe use Qf (.ref D) s3.heap.objs.size (.ok .next) s') :
    codeAny (model X.prog X.w) X.A (.compLoop (.ListComp elt [⟨tg, iter, ifs, 0⟩] scope pos) 0 (.ref it) (.ref D) (compEnvC scope cl s3.heap.objs.size X.env)) (CEnd (model X.prog X.w) X.A X.xe use Qf (.ref D) (compEnvC scope cl s3.heap.objs.size X.env)) s4 := by
  have tkY : ∀ pn, Takes ((X.blk s3 H3 scope (compEnvC scope cl s3.heap.objs.size X.env) fp).tr pn (notedBy (model X.prog X.w) X.A (compEnvC scope cl s3.heap.objs.size X.env) fun e s' => CEnd (model X.prog X.w) X.A X.xe use Qf (.ref D) (compEnvC scope cl s3.heap.objs.size X.env) (.error e) s')) (fun cls d _ H' => W cls d σ H') :=
    fun pn => blk_takes hst hfm tk I3 f3
  have loc : (compEnvC scope cl s3.heap.objs.size X.env).locals = s3.heap.objs.size := rfl
  generalize hce : compEnvC scope cl s3.heap.objs.size X.env = ce at *
  have fpY : ∀ {σ' : St} {H' : Hp} {s' : Shared}, Inv (X.blk s3 H3 scope ce fp) [] σ' H' s' → (∀ b ∈ fp, H' b = none) → ∀ b ∈ fp, FpOk (X.blk s3 H3 scope ce fp) [] H' b := fun {σ' H' s'} K hn b hb => by
    obtain ⟨k1, k2⟩ := K.ok.exf b hb
    refine ⟨hn b hb, k1, K.ok.exfs b hb, .inl hb, k2, fun p hp => ?_⟩
    have hp : p ∈ ([] : List (Addr × Obj)) ++ [] := hp
    cases hp
  refine compLoop_any (fun n s' => ∃ i H', Inv (X.blk s3 H3 scope ce fp) [] (wipe σ vs) H' s' ∧ tn i s'.heap ∧ (∀ b ∈ fp, H' b = none) ∧ Wi i n H') ?_ m0 ⟨0, H3, I4, t0, fun b hb => (f3 b hb).1, w0⟩
  intro n s5 ⟨i, H5, I5, t5, z5, w5⟩
  rcases step i n H5 w5 with ⟨hstop, hq⟩ | ⟨hgo, Nx, hNx, go⟩
  · refine thnF (T.done (X.blk s3 H3 scope ce fp) rfl rfl rfl calm i [] s5 _ H5 (fun _ _ => False) I5 (fpY I5 z5) t5 hstop) fun r s6 hr => ?_
    obtain ⟨rfl, I6⟩ := hr
    have IX : Inv X pins σ H5 s6 := I3.call' (ch := fp) I6.os I6.base I6.hok I6.bare fun b hb => ⟨(f3 b hb).2.2.2.1, (f3 b hb).2.1, (f3 b hb).2.2.2.2.1, (f3 b hb).2.2.2.2.2⟩
    have zC : H5 s3.heap.objs.size = none := by
      rw [← loc]
      exact I6.free
    obtain ⟨m, hn, _⟩ := I6.loc
    have hn : s6.heap.Ns ce.locals m := hn
    show compPost _ _ _ _ _ _ ce.locals _ _
    rw [loc] at hn ⊢
    exact hR s6 m H5 IX hq hn (I3.fpOk (Nat.le_refl _) zC)
  · refine thnF (T.item (X.blk s3 H3 scope ce fp) rfl rfl rfl calm i [] s5 _ H5 (fun _ _ => False) I5 (fpY I5 z5) t5 hgo) fun r s6 hr => ?_
    obtain ⟨u, rfl, h6⟩ := hr
    refine thnF h6 fun _ s7 h7 => ?_
    obtain ⟨x, H7, I7, r7, y7, t7, z7⟩ := h7
    have P7 := I7.pinned (fpY I7 z7) (T.obj _ _ t7)
    refine thnF (pg.run _ s7 _ H7 x u _ P7 r7 (go x H7 y7)) fun _ s8 h8 => ?_
    obtain ⟨σ8, H8, I8, e8, q8⟩ := h8
    refine thnF (pt.run _ s8 σ8 H8 _ I8 q8) fun b s9 h9 => ?_
    obtain ⟨H9, I9, q9⟩ := h9
    have over : ∀ {s' : Shared} {H' : Hp}, Inv (X.blk s3 H3 scope ce fp) ([] ++ pinsAt fp s7.heap) σ8 H' s' → Nx H' → ∃ k, k < n ∧ ∃ i H', Inv (X.blk s3 H3 scope ce fp) [] (wipe σ vs) H' s' ∧ tn i s'.heap ∧ (∀ b ∈ fp, H' b = none) ∧ Wi i k H' := by
      intro s' H' K nx
      obtain ⟨k, hk, wk⟩ := hNx H' nx
      have at_ : ∀ b ∈ fp, ∀ o, s7.heap.get? b = some o → s'.heap.get? b = some o ∧ H' b = none := fun b hb o e => by
        have := K.pin (b, o) (List.mem_append_right _ (List.mem_append_right _ (mem_pinsAt hb e)))
        exact ⟨this.1, this.2.1⟩
      refine ⟨k, hk, i + 1, H', (K.unpinned (pins := [])).weak (by rw [← e8, wipe_length]) (fun j v e => ?_), T.keep _ _ _ t7 fun b hb o e => (at_ b hb o e).1, fun b hb => ?_, wk⟩
      · rw [← e8] at e
        exact (wipe_some e).1
      · obtain ⟨o, e, _⟩ := T.obj _ _ t7 b hb
        exact (at_ b hb o e).2
    cases b with
    | false =>
      rw [if_neg (by decide)] at q9 ⊢
      exact over I9 q9
    | true =>
      rw [if_pos rfl] at q9 ⊢
      have py := pe _ ((X.blk s3 H3 scope ce fp).pn ++ ([] ++ pinsAt fp s7.heap)) _ (tkY _)
      refine wpAny_mono (py.run [] s9 σ8 H9 _ (I9.toTry _) q9) (fun z s10 hz => ?_) fun e s10 hx => hx
      obtain ⟨yv, H10, I10, r10, acc, d10, l10, nx⟩ := hz
      have K10 : Inv (X.blk s3 H3 scope ce fp) ([] ++ pinsAt fp s7.heap) σ8 H10 s10 := I10.ofTry I9.ok
      exact app_ok (X := X.blk s3 H3 scope ce fp) K10 d10 l10 r10 fun s11 K11 => over K11 nx
theorem lcX_core {pins : List (Addr × Obj)} {s : Shared} {σ : St} {H : Hp} {Q : VK} {elt tg iter : Expr} {ifs : List Expr} {scope : Scope} {own : List (Str × Nat)} {pos pos' : Pos} {wi : TI} {g : TG} {tt : TT} {te : WX → TE} {W : WX} {use : Option (Value → Sem Unit)} {Qf : Value → Shared → Prop}
    (hst : X.stack = X.env :: X.outer) (hfm : X.env.frame = some X.env.locals) (tk : Takes X W) (calm : X.calm = true) (nd : X.N.Nodup) (I : Inv X pins σ H s) (hi : PI X tg iter wi) (ok : BlkOk X.N X.env.scope scope own)
    (hg : ∀ (s : Shared) (H : Hp) (C : Addr) (cl : List (Str × Addr)) (fp : List Addr), PG (X.blk s H scope (compEnvC scope cl C X.env) fp) tg g)
    (ht : ∀ (s : Shared) (H : Hp) (C : Addr) (cl : List (Str × Addr)) (fp : List Addr), PTs (X.blk s H scope (compEnvC scope cl C X.env) fp) ifs tt)
    (he : ∀ (s : Shared) (H : Hp) (C : Addr) (cl : List (Str × Addr)) (fp : List Addr) (V : WX) (pn : List (Addr × Obj)) (xe : Value → Shared → Prop), Takes ((X.blk s H scope (compEnvC scope cl C X.env) fp).tr pn xe) V → PE ((X.blk s H scope (compEnvC scope cl C X.env) fp).tr pn xe) elt (te V))
    (hs : ∀ x, foldedSetIterable iter X.env x = pure x) (h : tLc wi g tt (te fun cls d _ H' => W cls d σ H') (own.map fun q => q.2) σ H Q)
    (hR : ∀ D C s' m H', Inv X pins σ H' s' → Q (.ref D) H' → s'.heap.Ns C m → FpOk X pins H' C → compPost (model X.prog X.w) X.A X.xe use Qf (.ref D) C (.ok .next) s') :
    wpAny (model X.prog X.w) X.A (comprehension (.ListComp elt [⟨tg, iter, ifs, 0⟩] scope pos) scope X.env pos' (newList []) false (eval iter X.env) use) Qf X.xe s := by
  have clo := closure_ok (scope := scope) (env := X.env) fun y hy e => (ok.free y hy e).elim (fun k => I.ok.has _ (.inl k)) fun k => I.ok.has _ (.inr k)
  refine comp_run rfl hs clo ok.kind (fun y hy e => by rw [ok.uniq y hy, e]) ?_
  refine thn (hi.run pins s σ H _ I h) fun xv s1 h1 => thn h1 fun itv s2 h2 => ?_
  obtain ⟨it, fp, tn, J, H2, rfl, I2, T, t2, f2, q⟩ := h2
  refine wpAny_newObj_type (newEnv_comp ?_) (by show 0 ≤ sizeLine; decide)
  have zD : H2 s2.heap.objs.size = none := I2.hok.fresh (Nat.le_refl _)
  obtain ⟨Wi, ⟨m0, w0⟩, step⟩ := q s2.heap.objs.size zD
  have I3 : Inv X pins σ (upd H2 s2.heap.objs.size (.lst [])) { s2 with heap := s2.heap.push { cls := .type "list", data := .seq ([] : List Value).toArray } } :=
    I2.laid (t' := s2.toks) (fun b o e => Heap.get?_push_of_some _ e) (Nat.le_refl _) ⟨Nat.zero_le _, [], 0, .nil, Heap.get?_push_size _ rfl⟩
  have low : ∀ b ∈ fp, b < s2.heap.objs.size := fun b hb => by
    obtain ⟨o, e, _⟩ := T.obj _ _ t2 b hb
    exact Heap.lt_size e
  have f3 : ∀ b ∈ fp, FpOk X pins (upd H2 s2.heap.objs.size (.lst [])) b := fun b hb => ⟨by
    rw [upd_ne (Nat.ne_of_lt (low b hb))]
    exact (f2 b hb).1, (f2 b hb).2⟩
  have I4 := block_start I3 ok nd (fp := fp) fun b hb => ⟨f3 b hb, by
    show b < (s2.heap.push _).objs.size
    rw [Heap.size_push]
    exact Nat.lt_succ_of_lt (low b hb)⟩
  have t4 : tn 0 (pushCells ((s2.heap.push { cls := .type "list", data := .seq ([] : List Value).toArray }).push { cls := .type "dict", data := .dict #[] }) scope.names) := T.keep _ _ _ t2 fun b _ o e => pushCells_keeps _ _ _ _ (Heap.get?_push_of_some _ (Heap.get?_push_of_some _ e))
  have loop := blk_rounds (use := use) (Qf := Qf) (pos := pos) (iter := iter) (elt := elt) (ifs := ifs) (D := s2.heap.objs.size) (Q := Q) hst hfm tk calm I3 f3 T (hg _ _ _ _ _) (ht _ _ _ _ _) (he _ _ _ _ _) I4 t4 w0 step fun s' m H' K q hn f => hR _ _ s' m H' K q hn f
  exact codeAny_compStart_list loop (T.self X.A 0 _ _ _ t4 loop)
/-- name = [..], the items may raise -/
theorem ps_setLcX {i : Nat} {y : Str} {py : Pos} {elt tg iter : Expr} {ifs : List Expr} {scope : Scope} {own : List (Str × Nat)} {pos spos : Pos} {wi : TI} {g : TG} {tt : TT} {te : WX → TE} {W : WX} (hst : X.stack = X.env :: X.outer) (hfm : X.env.frame = some X.env.locals) (tk : Takes X W) (calm : X.calm = true) (nd : X.N.Nodup) (hy : X.N[i]? = some y) (hyl : X.env.scope.names.lookup y = some .local)
    (hsw : swapsWith (.ListComp elt [⟨tg, iter, ifs, 0⟩] scope pos) (some (.Name y py)) spos.line X.env = pure true) (hi : PI X tg iter wi) (ok : BlkOk X.N X.env.scope scope own)
    (hg : ∀ (s : Shared) (H : Hp) (C : Addr) (cl : List (Str × Addr)) (fp : List Addr), PG (X.blk s H scope (compEnvC scope cl C X.env) fp) tg g)
    (ht : ∀ (s : Shared) (H : Hp) (C : Addr) (cl : List (Str × Addr)) (fp : List Addr), PTs (X.blk s H scope (compEnvC scope cl C X.env) fp) ifs tt)
    (he : ∀ (s : Shared) (H : Hp) (C : Addr) (cl : List (Str × Addr)) (fp : List Addr) (V : WX) (pn : List (Addr × Obj)) (xe : Value → Shared → Prop), Takes ((X.blk s H scope (compEnvC scope cl C X.env) fp).tr pn xe) V → PE ((X.blk s H scope (compEnvC scope cl C X.env) fp).tr pn xe) elt (te V))
    (hs : ∀ x, foldedSetIterable iter X.env x = pure x := by intro _; rfl) :
    PS X (.Assign [.Name y py] (.ListComp elt [⟨tg, iter, ifs, 0⟩] scope pos) spos) (fun D σ H => tLc wi g tt (te fun cls d _ H' => W cls d σ H') (own.map fun q => q.2) σ H (fun x H1 => gName i x σ H1 D.nx)) := by
  refine ⟨fun pins s σ H D I h => ?_⟩
  rw [exec_Assign_Name_used _ _ _ _ hsw]
  refine wpAny_bind (wpAny_standAt (wpAny_bind ?_))
  show wpAny _ X.A (do let _ ← comprehension (.ListComp elt [⟨tg, iter, ifs, 0⟩] scope pos) scope X.env (firstIterPos [⟨tg, iter, ifs, 0⟩] pos) (newList []) false (eval iter X.env) (some (assign (.Name y py) X.env))) _ _ s
  refine wpAny_bind (thn (lcX_core (Qf := fun _ s' => SP X pins D .next s') hst hfm tk calm nd I hi ok hg ht he hs h fun L C s' m H' K q hn f => ?_) fun _ s' hq => wpAny_pure (wpAny_pure hq))
  obtain ⟨f0, f1, f2, f3, f4, f5⟩ := f
  show wpAny _ _ (assign (.Name y py) X.env (.ref L)) _ _ _
  refine wpAny_assign_Name (store_ok2 (v := V.ref L) K nd hy (.inl hyl) rfl (fun s2 K2 a => ?_) (.inr hyl))
  obtain ⟨a, sb, ha⟩ := a
  have aC : C ≠ a := by
    rcases ha with z | z
    · rw [z]
      exact f1
    · exact fun e => f4 y a z e.symm
  refine ⟨m, hn.sameBut sb aC, fun h3 sb3 => ?_⟩
  exact ⟨_, H', K2.turned (t' := s2.toks) (fun b o hb e => (sb3.2 b hb).trans e) f0 f1 f3 f4 f5, q⟩
end
end L2
namespace G8
open PySem L2
/-! a comprehension without tests, whose items may raise -/
def stepX (t : Tgt) (fe : M Av) (d : Dt) : M Dt := fun ρ => if anyOwn ρ t.slots then .bad else match putT t d (wipeE ρ t.slots) with
  | .ok _ ρ1 => (match fe ρ1 with
    | .ok a ρ2 => (match fzv ρ2 a with
      | some x => .ok x (backE ρ ρ2 t.slots)
      | none => .bad)
    | .err k ρ2 => .err k (backE ρ ρ2 t.slots)
    | .bad => .bad)
  | _ => .bad
def compX (t : Tgt) (fe : M Av) : List Dt → List Dt → M (List Dt)
  | [], acc => retM acc
  | d :: ds, acc => bindM (stepX t fe d) fun x => if acc.length < 1000000 then compX t fe ds (acc ++ [x]) else badM
def lcX (fi : M (List Dt)) (t : Tgt) (fe : M Av) : M Rv := bindM fi fun ds => bindM (compX t fe ds []) fun xs => retM (.l xs)
section
variable {X : Cx} {b : Bs} {W : WX} {fi : M (List Dt)} {t : Tgt} {fe : M Av}
theorem lcX_sound {σ : St} {H : Hp} {Q : VK} (h : tV b W (lcX fi t fe) σ H Q) : tLc (tI b W fi) (gRaw b.K t) (tT b W0 (retM true)) (tE b (fun cls d _ H' => W cls d σ H') fe) t.slots σ H Q := by
  obtain ⟨c, G, ρ, S, q⟩ := h
  refine ⟨c, G, ρ, S, (Post.bind q).imp fun ds ρ1 G1 H1 e1 S1 q1 J hJ => ?_⟩
  intro D hD
  have h0 : c.H0 D = none := S1.fresh0 hD
  let P : Rv → Ev → Hp → Hp → Prop := fun r ρ' G' H' => ∀ v, RN b c G' H' v r → Apart ρ' σ v r → Q v H'
  refine ⟨fun i m H' => ∃ G' ρ' accV acc, Same G1 G' ∧ SIG b c G' ρ' σ H' ∧ i + m = ds.length ∧ H' D = some (.lst accV) ∧ G' D = none ∧ Rps b.K G' accV acc ∧ NoOwn ρ' σ D ∧ Post b c W G' σ P (bindM (compX t fe (ds.drop i) acc) (fun xs => retM (.l xs)) ρ'),
    ⟨ds.length, G1, ρ1, [], [], Same.refl _, S1.alloc hD, Nat.zero_add _, upd_same, S1.free hD, .nil, S1.noOwn hD, q1⟩, ?_⟩
  rintro i m H' ⟨G', ρ', accV, acc, e', S', em, hA, gD, rA, no, q'⟩
  have gh : SameG G1 H' := SameG.tr e' S'.gh
  by_cases hi : i < ds.length
  · have ed : ds.drop i = ds[i] :: ds.drop (i + 1) := List.drop_eq_getElem_cons hi
    rw [ed] at q'
    refine .inr ⟨hJ.go i H' gh hi, fun H2 => ∃ G' ρ' accV acc, Same G1 G' ∧ SIG b c G' ρ' σ H2 ∧ H2 D = some (.lst accV) ∧ G' D = none ∧ Rps b.K G' accV acc ∧ NoOwn ρ' σ D ∧ Post b c W G' σ P (bindM (compX t fe (ds.drop (i + 1)) acc) (fun xs => retM (.l xs)) ρ'), ?_, fun x H2 hy => ?_⟩
    · rintro H2 ⟨G2, ρ2, av, ac, a1, a2, a3, a4, a5, a6, a7⟩
      exact ⟨m - 1, by omega, G2, ρ2, av, ac, a1, a2, by omega, a3, a4, a5, a6, a7⟩
    · obtain ⟨rfl, d, hd, rd⟩ := hJ.yl i H' x H2 gh hi hy
      have ed2 : d = ds[i] := by
        rw [List.getElem?_eq_getElem hi] at hd
        exact (Option.some.inj hd).symm
      rw [ed2] at rd
      rw [show compX t fe (ds[i] :: ds.drop (i + 1)) acc = bindM (stepX t fe ds[i]) (fun x => if acc.length < 1000000 then compX t fe (ds.drop (i + 1)) (acc ++ [x]) else badM) from rfl, bindM_assoc] at q'
      have ha : anyOwn ρ' t.slots = false := by
        cases z : anyOwn ρ' t.slots with
        | false => rfl
        | true =>
          have : stepX t fe ds[i] ρ' = .bad := by
            unfold stepX
            rw [z]
            rfl
          rw [bindM_bad this] at q'
          exact q'.elim
      cases hp : putT t ds[i] (wipeE ρ' t.slots) with
      | bad =>
        have : stepX t fe ds[i] ρ' = .bad := by
          unfold stepX
          rw [ha, hp]
          rfl
        rw [bindM_bad this] at q'
        exact q'.elim
      | err k ρn => exact absurd hp (putT_noerr k ρn)
      | ok un ρ3 =>
        have S2 := (S'.enter).wipe t.slots ha
        refine putT_ok S2 (Rp.mono e' _ _ rd) hp fun σ3 S3 hw => ?_
        have hw' : wipe σ3 t.slots = wipe σ t.slots := hw.trans (wipe_wipe σ t.slots t.slots fun _ z => z)
        refine ⟨hw', inner G' H2 ρ' σ, G', ρ3, S3, ?_⟩
        have fin : ∀ {G4 H4 ρ4}, Same G' G4 → SIG b (inner G' H2 ρ' σ) G4 ρ4 σ3 H4 → SIG b c G4 (backE ρ' ρ4 t.slots) σ H4 ∧ H4 D = some (.lst accV) ∧ G4 D = none ∧ NoOwn (backE ρ' ρ4 t.slots) σ D := fun {G4 H4 ρ4} e4 S4 => by
          refine ⟨S'.leave ha S4 e4 hw', S4.fr D _ hA (S'.notT hA rfl) (fun j f hj => ?_) (S'.notZ gD), ?_, noOwn_back S' ha S4 hw' hA no⟩
          · obtain ⟨s, r1, r2, r3, r4⟩ := mem_refsOf.mp hj
            exact no j s r1 r2 r4
          · cases z : G4 D with
            | none => rfl
            | some o =>
              rcases S4.gn D o z with y | y | ⟨_, _, y⟩
              · rw [show (inner G' H2 ρ' σ).G0 D = G' D from rfl, gD] at y; cases y
              · rw [show (inner G' H2 ρ' σ).H0 D = H2 D from rfl, hA] at y; cases y
              · rw [show (inner G' H2 ρ' σ).H0 D = H2 D from rfl, hA] at y; cases y
        intro H4 G4 ee4 S4
        refine iteT ⟨inner G' H2 ρ' σ, G4, ρ3, S4, ?_⟩
        cases hf : fe ρ3 with
        | bad =>
          have : stepX t fe ds[i] ρ' = .bad := by
            unfold stepX
            rw [ha, hp, if_neg (by decide)]
            dsimp only
            rw [hf]
          rw [bindM_bad this] at q'
          exact q'.elim
        | err k ρ5 =>
          have : stepX t fe ds[i] ρ' = .err k (backE ρ' ρ5 t.slots) := by
            unfold stepX
            rw [ha, hp, if_neg (by decide)]
            dsimp only
            rw [hf]
          rw [bindM_err this] at q'
          intro H5 G5 ee5 S5
          exact q' H5 G5 (ee4.trans ee5) (fin (ee4.trans ee5) S5).1
        | ok a ρ5 =>
          cases hz : fzv ρ5 a with
          | none =>
            have : stepX t fe ds[i] ρ' = .bad := by
              unfold stepX
              rw [ha, hp, if_neg (by decide)]
              dsimp only
              rw [hf]
              dsimp only
              rw [hz]
            rw [bindM_bad this] at q'
            exact q'.elim
          | some xx =>
            have : stepX t fe ds[i] ρ' = .ok xx (backE ρ' ρ5 t.slots) := by
              unfold stepX
              rw [ha, hp, if_neg (by decide)]
              dsimp only
              rw [hf]
              dsimp only
              rw [hz]
            rw [bindM_ok this] at q'
            intro H5 G5 ee5 S5 y hy'
            by_cases hl : acc.length < 1000000
            · rw [if_pos hl] at q'
              obtain ⟨f1, f2, f3, f4⟩ := fin (ee4.trans ee5) S5
              have hzz : accV.length < sizeLine := by rw [rA.length]; exact Nat.lt_of_lt_of_le hl (by decide)
              refine ⟨accV, f2, hzz, G5, _, accV ++ [y], acc ++ [xx], (e'.trans ee4).trans ee5, f1.poke f3 h0 f4 f2, upd_same, f3, ?_, f4, Post.mono (ee4.trans ee5) q'⟩
              exact (Rps.mono (ee4.trans ee5) _ _ rA).append (.cons (hy'.fz S5 hz) .nil)
            · rw [if_neg hl] at q'
              exact q'.elim
  · have ei : i = ds.length := by omega
    subst ei
    refine .inl ⟨hJ.st H' gh, ?_⟩
    rw [List.drop_length] at q'
    exact q' H' G' (Same.refl _) S' (.ref D) ⟨D, accV, rfl, hA, gD, rA, h0⟩ fun p ep _ => by cases ep; exact no
theorem s_setLcX {i : Nat} {y : Str} {py : Pos} {elt tg iter : Expr} {scope : Scope} {own : List (Str × Nat)} {pos spos : Pos} (hst : X.stack = X.env :: X.outer) (hfm : X.env.frame = some X.env.locals) (tk : Takes X W) (hK : X.K = b.K) (hv : own.map (·.2) = t.slots) (hc : X.calm = true) (hN : X.N.Nodup) (hy : X.N[i]? = some y) (hyl : X.env.scope.names.lookup y = some .local)
    (hsw : swapsWith (.ListComp elt [⟨tg, iter, [], 0⟩] scope pos) (some (.Name y py)) spos.line X.env = pure true) (hi : PI X tg iter (tI b W fi)) (ok : BlkOk X.N X.env.scope scope own)
    (hg : ∀ (s : Shared) (H : Hp) (C : Addr) (cl : List (Str × Addr)) (fp : List Addr), PG (X.blk s H scope (compEnvC scope cl C X.env) fp) tg (gRaw X.K t))
    (he : ∀ (s : Shared) (H : Hp) (C : Addr) (cl : List (Str × Addr)) (fp : List Addr) (V : WX) (pn : List (Addr × Obj)) (xe : Value → Shared → Prop), Takes ((X.blk s H scope (compEnvC scope cl C X.env) fp).tr pn xe) V → PE ((X.blk s H scope (compEnvC scope cl C X.env) fp).tr pn xe) elt (tE b V fe))
    (hs : ∀ x, foldedSetIterable iter X.env x = pure x := by intro _; rfl) :
    PS X (.Assign [.Name y py] (.ListComp elt [⟨tg, iter, [], 0⟩] scope pos) spos) (tS b W (setM i (lcX fi t fe))) :=
  weakS (ps_setLcX hst hfm tk hc hN hy hyl hsw hi ok hg (fun _ _ _ _ _ => ts_nil) he hs) fun D σ H h => by
    rw [show (own.map fun q => q.2) = t.slots from hv, hK]
    exact lcX_sound (setM_core h)
end
end G8
namespace G8
open PySem L2
/-! texts -/
def strD : List Dt → Option Rv
  | [.int i] => if i.natAbs < 1000000 then some (.d (.str (Str.ofString (toString i)))) else none
  | _ => none
def intSD : List Dt → Option Rv
  | [.str a] => if a.length ≤ 640 then (intText? a).map fun n => .d (.int n) else none
  | _ => none
theorem log_ok {n : Nat} (h : n < 1000000) : n.log2 < 1920 := by
  by_cases h0 : n = 0
  · subst h0
    decide
  · exact (Nat.log2_lt h0).mpr (Nat.lt_of_lt_of_le h (by decide))
theorem d_str {b : Bs} : DoesN b (fun xs H Q => ∃ i, xs = [.int i] ∧ i.natAbs.log2 < 1920 ∧ Q (.str (toString i)) H) strD := fun {c G H ρ σ xs ds z Q} S hx e q => by
  unfold strD at e
  split at e
  · split at e
    · rename_i hl
      cases e
      obtain ⟨v, rfl, h1⟩ := ros1 hx
      rw [h1.int]
      exact ⟨_, rfl, log_ok hl, fin_d S q (.str _)⟩
    · cases e
  · cases e
theorem d_intS {b : Bs} : DoesN b (fun xs H Q => ∃ a n, xs = [.str a] ∧ PySem.intText? a = some n ∧ a.length ≤ 640 ∧ Q (.int n) H) intSD := fun {c G H ρ σ xs ds z Q} S hx e q => by
  unfold intSD at e
  split at e
  · split at e
    · rename_i a hl
      cases hi : intText? a with
      | none => rw [hi] at e; cases e
      | some n =>
        rw [hi] at e
        cases e
        obtain ⟨v, rfl, h1⟩ := ros1 hx
        rw [h1.str]
        exact ⟨a, n, rfl, hi, hl, fin_d S q (.int _)⟩
    · cases e
  · cases e
/-- a sign in a text -/
def inS : Dt → Dt → Option Bool
  | .str a, .str z => (match a.cps.toList with
    | [c] => some (decide (c ∈ z.cps.toList))
    | _ => none)
  | _, _ => none
theorem one_sign {a : Str} {c : Nat} (h : a.cps.toList = [c]) : a = ⟨#[c]⟩ := by
  cases a with
  | mk cps =>
    congr 1
    exact Array.toList_inj.mp h
theorem t_inS {b : Bs} : Tells b (fun x y H Q => ∃ (c : Nat) (z : Str), x = .str ⟨#[c]⟩ ∧ y = .str z ∧ Q (.bl (decide (c ∈ z.cps.toList))) H) inS := fun {c G H ρ σ x y dx dy z Q} S hx hy e q => by
  unfold inS at e
  split at e
  · rename_i a z'
    split at e
    · rename_i ch hc
      cases e
      rw [hx.str, hy.str, one_sign hc]
      exact ⟨ch, z', rfl, rfl, q⟩
    · cases e
  · cases e
/-- the sign at a place -/
def ixSt : Dt → Dt → Option Rv
  | .str z, .int i => if z.length ≤ 1000000 then (atI z.cps.toList i).map fun c => .d (.str ⟨#[c]⟩) else none
  | _, _ => none
theorem d_ixS {b : Bs} : Does2 b rIxS ixSt := fun {c G H ρ σ x y dx dy z Q} S hx hy e q => by
  unfold ixSt at e
  split at e
  · rename_i s i
    split at e
    · rename_i hl
      cases ha : atI s.cps.toList i with
      | none => rw [ha] at e; cases e
      | some ch =>
        rw [ha] at e
        cases e
        rw [hx.str, hy.int]
        exact ⟨s, i, ch, rfl, rfl, Nat.le_trans hl (by decide), ha, fin_d S q (.str _)⟩
    · cases e
  · cases e
def strsO : List Dt → Option (List Str)
  | [] => some []
  | .str s :: ds => (strsO ds).map fun r => s :: r
  | _ => none
theorem strsO_of {K : Fg} {G : Hp} : ∀ {ds : List Dt} {vs : List V} {ss : List Str}, strsO ds = some ss → Rps K G vs ds → vs = ss.map V.str
  | [], _, _, h, r => by cases h; cases r; rfl
  | d :: ds, _, _, h, r => by
    cases r with
    | cons r1 r2 =>
      cases d with
      | str s =>
        have h : (strsO ds).map (fun r => s :: r) = some _ := h
        cases hs : strsO ds with
        | none => rw [hs] at h; cases h
        | some rs =>
          rw [hs] at h
          cases h
          cases r1
          rw [strsO_of hs r2]
          rfl
      | _ => cases h
def joinD (x y : Dt) : Option Dt := match x, y with
  | .str s, .list ds => (strsO ds).bind fun ys => if (ys.map (·.length)).sum + ys.length * s.length ≤ 1000000 then some (.str (Txt.join s ys)) else none
  | _, _ => none
def joinM (fo fa : M Av) : M Av := bindM fo fun o => bindM (optM fun ρ => (res ρ o).bind fun x => match x with
  | .str s => some s
  | _ => none) fun s => bindM fa fun a => optM fun ρ => (res ρ a).bind fun y => (joinD (.str s) y).map Av.d
def splitM (fo fa : M Av) : M Rv := bindM fo fun o => bindM (optM fun ρ => (res ρ o).bind fun x => match x with
  | .str s => some s
  | _ => none) fun s => bindM fa fun a => optM fun ρ => (res ρ a).bind fun y => match y with
  | .str t => if (t.length == 0) = false ∧ s.length ≤ 1000000 then some (.l ((Txt.split s t).map PyData.str)) else none
  | _ => none
theorem Rps.of_strs {K : Fg} {G : Hp} : ∀ ss : List Str, Rps K G (ss.map V.str) (ss.map PyData.str)
  | [] => .nil
  | s :: ss => .cons (.str s) (Rps.of_strs ss)
/-- over the signs of a text -/
def sgnD (s : Str) : List Dt := s.cps.toList.map fun c => .str ⟨#[c]⟩
def itS (fa : M Av) : M (List Dt) := bindM fa fun a => optM fun ρ => (res ρ a).bind fun x => match x with
  | .str s => some (sgnD s)
  | _ => none
theorem yl_str (K : Fg) (G : Hp) (s : Str) : Yl K G (Its s) (sgnD s) := by
  have hl : (sgnD s).length = s.cps.size := by unfold sgnD; simp
  refine ⟨fun i H e hi => ?_, fun i H x H' e hi hy => ?_, fun H e => ?_⟩
  · rw [hl] at hi
    exact hi
  · obtain ⟨rfl, c, hc, rfl⟩ := hy
    refine ⟨rfl, .str ⟨#[c]⟩, ?_, .str _⟩
    unfold sgnD
    rw [List.getElem?_map, Array.getElem?_toList, hc]
    rfl
  · rw [hl]
    exact Nat.le_refl _
section
variable {X : Cx} {b : Bs} {W : WX} {a a2 e o : Expr} {fa fb fo : M Av} {fl : M (List Av)} {pos apos p : Pos}
theorem m_strc (hg : Gl X "str") (hm : X.mg "str" = none) (ha : PA X [e] (tL b W fl)) (hs : starEach [e] X.env = (false, eval e X.env) :: starEach [] X.env := by rfl) : PE X (.Call (.Name "str" p) [e] [] pos) (tV b W (biM strD fl)) :=
  m_ty call_str_int d_str hg hm (by decide +kernel) ha (by decide) (by decide) hs
theorem m_intS (hg : Gl X "int") (hm : X.mg "int" = none) (ha : PA X [e] (tL b W fl)) (hs : starEach [e] X.env = (false, eval e X.env) :: starEach [] X.env := by rfl) : PE X (.Call (.Name "int" p) [e] [] pos) (tV b W (biM intSD fl)) :=
  m_ty call_int_str d_intS hg hm (by decide +kernel) ha (by decide) (by decide) hs
theorem m_inS (ha : PE X a (tE b W fa)) (hb : PE X a2 (tE b W fb)) (hm : behindInMarks .In a2 = false := by rfl) : PE X (.Compare a [.In] [a2] pos) (tE b W (cmpM inS fa fb)) := m_cmpB op_in_sign t_inS ha hb hm
theorem m_ixSt (ha : PE X a (tE b W fa)) (hb : PE X a2 (tE b W fb)) (hs : PlainIx a2) : PE X (.Subscript a a2 pos) (tV b W (bin2 ixSt fa fb)) := m_ix ix_str d_ixS ha hb hs
theorem i_str {tg : Expr} (ha : PE X a (tE b W fa)) : PI X tg a (tI b W (itS fa)) := weakI (pi_str ha) fun σ H R ⟨c, G, ρ, S, q⟩ => ⟨c, G, ρ, S, (Post.bind q).imp fun z ρ1 G1 H1 e1 S1 q1 v hv => by
  obtain ⟨ds, h1, h2⟩ := q1.opt S1
  cases hx : res ρ1 z with
  | none => rw [hx] at h1; cases h1
  | some x =>
    rw [hx] at h1
    cases x with
    | str s =>
      cases h1
      exact ⟨s, (hv.res S1 hx).str, h2 _ (yl_str _ _ s)⟩
    | _ => cases h1⟩
theorem m_join (hK : X.K = b.K) (ho : PE X o (tE b W fo)) (ha : PE X a (tE b W fa)) (hs : starEach [a] X.env = [(false, eval a X.env)] := by rfl) (hb : attributeBase o "join" X.env (eval o X.env) = eval o X.env := by rfl) (hl : (apos.endLine == pos.line) = true := by rfl) :
    PE X (.Call (.Attribute o "join" apos) [a] [] pos) (tE b W (joinM fo fa)) := weakE (pe_join ho ha hs hb hl) fun σ H Q ⟨c, G, ρ, S, q⟩ => ⟨c, G, ρ, S, (Post.bind q).imp fun zo ρ1 G1 H1 e1 S1 q1 v hv => by
  obtain ⟨s, h1, h2⟩ := (Post.bind q1).opt S1
  cases hx : res ρ1 zo with
  | none => rw [hx] at h1; cases h1
  | some x =>
    rw [hx] at h1
    cases x with
    | str s' =>
      cases h1
      have ev := (hv.res S1 hx).str
      refine ⟨⟨s, ev⟩, c, G1, ρ1, S1, (Post.bind h2).imp fun za ρ2 G2 H2 e2 S2 q2 u hu => ?_⟩
      obtain ⟨r, h3, h4⟩ := q2.opt S2
      cases hy : res ρ2 za with
      | none => rw [hy] at h3; cases h3
      | some y =>
        rw [hy] at h3
        cases y with
        | list ds =>
          have h3 : (joinD (.str s) (.list ds)).map Av.d = some r := h3
          unfold joinD at h3
          dsimp only at h3
          cases hss : strsO ds with
          | none => rw [hss] at h3; cases h3
          | some ys =>
            rw [hss, Option.bind_some] at h3
            split at h3
            · rename_i hlen
              cases h3
              obtain ⟨pp, vs, rfl, k1, k2⟩ := (hu.res S2 hy).list S2.gh
              have evs := strsO_of hss k2
              subst evs
              exact ⟨s, pp, ys, ev, rfl, .inl (SqL.of k1), Nat.le_trans hlen (by decide), h4 _ (.str _)⟩
            · cases h3
        | _ => cases h3
    | _ => cases h1⟩
theorem m_split (hK : X.K = b.K) (ho : PE X o (tE b W fo)) (ha : PE X a (tE b W fa)) (hs : starEach [a] X.env = [(false, eval a X.env)] := by rfl) (hb : attributeBase o "split" X.env (eval o X.env) = eval o X.env := by rfl) (hl : (apos.endLine == pos.line) = true := by rfl) :
    PE X (.Call (.Attribute o "split" apos) [a] [] pos) (tV b W (splitM fo fa)) := weakE (pe_split ho ha hs hb hl) fun σ H Q ⟨c, G, ρ, S, q⟩ => ⟨c, G, ρ, S, (Post.bind q).imp fun zo ρ1 G1 H1 e1 S1 q1 v hv => by
  obtain ⟨s, h1, h2⟩ := (Post.bind q1).opt S1
  cases hx : res ρ1 zo with
  | none => rw [hx] at h1; cases h1
  | some x =>
    rw [hx] at h1
    cases x with
    | str s' =>
      cases h1
      have ev := (hv.res S1 hx).str
      refine ⟨⟨s, ev⟩, c, G1, ρ1, S1, (Post.bind h2).imp fun za ρ2 G2 H2 e2 S2 q2 u hu => ?_⟩
      unfold optM at q2
      cases hy : res ρ2 za with
      | none => dsimp only at q2; rw [hy] at q2; exact q2.elim
      | some y =>
        dsimp only at q2
        rw [hy] at q2
        cases y with
        | str t =>
          dsimp only [Option.bind_some] at q2
          split at q2
          · rename_i r hr
            split at hr
            · rename_i hlen
              cases hr
              refine ⟨s, t, ev, by rw [(hu.res S2 hy).str], hlen.1, Nat.le_trans (Nat.add_le_add_right hlen.2 2) (by decide), fun l hl => ?_⟩
              exact q2 _ G2 (Same.refl G2) (S2.alloc hl) (.ref l) ⟨l, _, rfl, upd_same, S2.free hl, Rps.of_strs _, S2.fresh0 hl⟩ fun p' e' _ => by cases e'; exact S2.noOwn hl
            · cases hr
          · exact q2.elim
        | _ => exact q2.elim
    | _ => cases h1⟩
/-! while -/
end
def whileL (ft : M Bool) (fb : M Fl) : Nat → M Fl
  | 0 => badM
  | n + 1 => bindM ft fun k => match k with
    | false => retM .nx
    | true => fun ρ => match fb ρ with
      | .ok .nx ρ' => whileL ft fb n ρ'
      | .ok .ct ρ' => whileL ft fb n ρ'
      | .ok .bk ρ' => .ok .nx ρ'
      | o => o
theorem s_while {X : Cx} {b : Bs} {W : WX} {cnd : Expr} {body : List Stmt} {ft : M Bool} {fb : M Fl} {pos : Pos} (n : Nat) (hp : PassesOwn (model X.prog X.w) X.A X.env X.xe) (hc : PT X cnd (tT b W ft)) (hb : PSs X body (tS b W fb)) : PS X (.While cnd body [] pos) (tS b W (whileL ft fb n)) :=
  weakS (ps_while hp hc hb) fun D σ H h => by
    refine ⟨fun m σ' H' => tS b W (whileL ft fb m) D σ' H', ⟨n, h⟩, fun m σ1 H1 h1 => ?_⟩
    obtain ⟨c, G, ρ, hfn, S, q⟩ := h1
    cases m with
    | zero => exact q.elim
    | succ m =>
      refine ⟨c, G, ρ, S, (PostS.bind σ1 q).imp fun k ρ1 G1 H2 e1 S1 q1 => ?_⟩
      cases k with
      | false => exact iteF (q1 σ1 H2 G1 (Same.refl G1) S1)
      | true =>
        refine iteT ⟨fun σ' H' => tS b W (whileL ft fb m) D σ' H', fun σ' H' h => ⟨m, Nat.lt_succ_self m, h⟩, c, G1, ρ1, hfn, S1, ?_⟩
        dsimp only at q1
        cases e : fb ρ1 with
        | bad => rw [e] at q1; exact q1.elim
        | err kk ρ2 => rw [e] at q1; exact q1
        | ok fl ρ2 =>
          rw [e] at q1
          cases fl with
          | nx => exact fun σ' H' G' e' S' => ⟨c, G', ρ2, hfn, S', PostS.mono e' q1⟩
          | ct => exact fun σ' H' G' e' S' => ⟨c, G', ρ2, hfn, S', PostS.mono e' q1⟩
          | bk => exact q1
          | rt r => exact q1
end G8
namespace K02
open PySem L2 G8
noncomputable section
def top (i : Nat) : Stmt := PySem.Challenge.pw_allrooms_k02_whole_texts.main.body.getD i (.Pass ⟨0, 0, 0, 0⟩)
/-! look_name -/
abbrev s_look_name : Stmt := top 13
theorem sc_look_name : FnScope ["name"] ["name"] (defScope s_look_name) := ⟨rfl, rfl, rfl, by decide +kernel, rfl, by decide +kernel, by decide +kernel⟩
/-! look_row -/
abbrev s_look_row : Stmt := top 14
theorem sc_look_row : FnScope ["row", "name"] ["row"] (defScope s_look_row) := ⟨rfl, rfl, rfl, by decide +kernel, rfl, by decide +kernel, by decide +kernel⟩
/-! written -/
abbrev s_written : Stmt := top 17
theorem sc_written : FnScope ["row", "words", "k", "name", "many"] ["row"] (defScope s_written) := ⟨rfl, rfl, rfl, by decide +kernel, rfl, by decide +kernel, by decide +kernel⟩
def b_written_1 : M Fl :=
    (ifM (andM (cmpT gtI (varM 2) (retM (.d (.int 0)))) (cmpT eqD (frzM (bin2 ixD (varM 0) (varM 2))) (frzM (bin2 ixD (varM 0) (frzM (bin2 subD (varM 2) (retM (.d (.int 1))))))))) (setIt 1 (tupM (consM (frzM (bin2 ixD (frzM (bin2 ixD (varM 1) (frzM (un1 negD (retM (.d (.int 1))))))) (retM (.d (.int 0))))) (consM (frzM (bin2 addD (frzM (bin2 ixD (frzM (bin2 ixD (varM 1) (frzM (un1 negD (retM (.d (.int 1))))))) (retM (.d (.int 1))))) (retM (.d (.int 1))))) (retM [])))) (frzM (un1 negD (retM (.d (.int 1)))))) (exprS (mutM 1 appD (consM (tupM (consM (frzM (bin2 ixD (varM 0) (varM 2))) (consM (retM (.d (.int 1))) (retM [])))) (retM [])))))
theorem b_written_1_ap (ρ : Ev) : b_written_1 ρ =
    (ifM (andM (cmpT gtI (varM 2) (retM (.d (.int 0)))) (cmpT eqD (frzM (bin2 ixD (varM 0) (varM 2))) (frzM (bin2 ixD (varM 0) (frzM (bin2 subD (varM 2) (retM (.d (.int 1))))))))) (setIt 1 (tupM (consM (frzM (bin2 ixD (frzM (bin2 ixD (varM 1) (frzM (un1 negD (retM (.d (.int 1))))))) (retM (.d (.int 0))))) (consM (frzM (bin2 addD (frzM (bin2 ixD (frzM (bin2 ixD (varM 1) (frzM (un1 negD (retM (.d (.int 1))))))) (retM (.d (.int 1))))) (retM (.d (.int 1))))) (retM [])))) (frzM (un1 negD (retM (.d (.int 1)))))) (exprS (mutM 1 appD (consM (tupM (consM (frzM (bin2 ixD (varM 0) (varM 2))) (consM (retM (.d (.int 1))) (retM [])))) (retM []))))) ρ := rfl
def e_written_1 : M Av :=
    (frzM (bin2 addD (frzM (biM strD (consM (varM 3) (retM [])))) (ifM (cmpT gtI (varM 4) (retM (.d (.int 1)))) (frzM (bin2 addD (retM (.d (.str "*"))) (frzM (biM strD (consM (varM 4) (retM [])))))) (retM (.d (.str ""))))))
theorem e_written_1_ap (ρ : Ev) : e_written_1 ρ =
    (frzM (bin2 addD (frzM (biM strD (consM (varM 3) (retM [])))) (ifM (cmpT gtI (varM 4) (retM (.d (.int 1)))) (frzM (bin2 addD (retM (.d (.str "*"))) (frzM (biM strD (consM (varM 4) (retM [])))))) (retM (.d (.str "")))))) ρ := rfl
def f_written : M Fl :=
    (seqM (exprS (callM 1 F_look_row (consM (varM 0) (retM []))))
    (seqM (setM 1 (lstM (retM [])))
    (seqM (forM (rg1 (consM (lenM (varM 0)) (retM []))) (.one 2) b_written_1)
    (withS 1 (retS (dataM (joinM (retM (.d (.str " "))) (frzM (lcM (itM (varM 1)) (.tup [3, 4]) (retM true) e_written_1)))))))))
def F_written : Fn := bodyF 5 f_written
/-! number_in -/
abbrev s_number_in : Stmt := top 18
theorem sc_number_in : FnScope ["word", "sign"] ["word"] (defScope s_number_in) := ⟨rfl, rfl, rfl, by decide +kernel, rfl, by decide +kernel, by decide +kernel⟩
def e_number_in_1 : M Av :=
    (cmpM inS (varM 1) (retM (.d (.str "0123456789"))))
theorem e_number_in_1_ap (ρ : Ev) : e_number_in_1 ρ =
    (cmpM inS (varM 1) (retM (.d (.str "0123456789")))) ρ := rfl
def f_number_in : M Fl :=
    (seqM (ifM (orM (notM (chainT leI leI (retM (.d (.int 1))) (lenM (varM 0)) (retM (.d (.int 2))))) (orM (notM (testM (frzM (biM allD (consM (frzM (lcM (itS (varM 0)) (.one 1) (retM true) e_number_in_1)) (retM [])))))) (andM (cmpT eqD (frzM (bin2 ixSt (varM 0) (retM (.d (.int 0))))) (retM (.d (.str "0")))) (cmpT neD (varM 0) (retM (.d (.str "0"))))))) (raiseM 7) (retM .nx))
    (retS (biM intSD (consM (varM 0) (retM [])))))
def F_number_in : Fn := bodyF 2 f_number_in
/-! read -/
abbrev s_read : Stmt := top 19
theorem sc_read : FnScope ["text", "found", "word", "good", "parts"] ["text"] (defScope s_read) := ⟨rfl, rfl, rfl, by decide +kernel, rfl, by decide +kernel, by decide +kernel⟩
def b_read_1 : M Fl :=
    (seqM (setM 4 (splitM (varM 2) (retM (.d (.str "*")))))
    (seqM (ifM (cmpT gtI (lenM (varM 4)) (retM (.d (.int 2)))) (raiseM 7) (retM .nx))
    (exprS (mutM 1 extD (consM (frzM (bin2 mulD (frzM (lstM (consM (frzM (callM 1 F_number_in (consM (frzM (bin2 ixD (varM 4) (retM (.d (.int 0))))) (retM [])))) (retM [])))) (ifM (cmpT eqD (lenM (varM 4)) (retM (.d (.int 2)))) (frzM (callM 1 F_number_in (consM (frzM (bin2 ixD (varM 4) (retM (.d (.int 1))))) (retM [])))) (retM (.d (.int 1)))))) (retM []))))))
theorem b_read_1_ap (ρ : Ev) : b_read_1 ρ =
    (seqM (setM 4 (splitM (varM 2) (retM (.d (.str "*")))))
    (seqM (ifM (cmpT gtI (lenM (varM 4)) (retM (.d (.int 2)))) (raiseM 7) (retM .nx))
    (exprS (mutM 1 extD (consM (frzM (bin2 mulD (frzM (lstM (consM (frzM (callM 1 F_number_in (consM (frzM (bin2 ixD (varM 4) (retM (.d (.int 0))))) (retM [])))) (retM [])))) (ifM (cmpT eqD (lenM (varM 4)) (retM (.d (.int 2)))) (frzM (callM 1 F_number_in (consM (frzM (bin2 ixD (varM 4) (retM (.d (.int 1))))) (retM [])))) (retM (.d (.int 1)))))) (retM [])))))) ρ := rfl
def f_read : M Fl :=
    (seqM (setM 1 (lstM (retM [])))
    (seqM (forM (itM (frzM (ifM (cmpT neD (varM 0) (retM (.d (.str "")))) (splitM (varM 0) (retM (.d (.str " ")))) (lstM (retM []))))) (.one 2) b_read_1)
    (seqM (setM 3 (dataM (retM (.d (.bool true)))))
    (seqM (tryO g_RoomError (setM 3 (dataM (retM (.d (.bool false))))) (withS 1 (exprS (callM 1 F_look_row (consM (varM 1) (retM []))))))
    (seqM (withS 1 (ifM (orM (notM (testM (varM 3))) (cmpT neD (frzM (callM 1 F_written (consM (varM 1) (retM [])))) (varM 0))) (raiseM 7) (retM .nx)))
    (retO 1))))))
def F_read : Fn := bodyF 5 f_read
/-! _law_cell -/
abbrev s__law_cell : Stmt := top 21
theorem sc__law_cell : FnScope ["script", "k"] ["script", "k"] (defScope s__law_cell) := ⟨rfl, rfl, rfl, by decide +kernel, rfl, by decide +kernel, by decide +kernel⟩
/-! _law_mix -/
abbrev s__law_mix : Stmt := top 22
theorem sc__law_mix : FnScope ["script", "k", "number"] ["script", "k"] (defScope s__law_mix) := ⟨rfl, rfl, rfl, by decide +kernel, rfl, by decide +kernel, by decide +kernel⟩
/-! _law_draw -/
abbrev s__law_draw : Stmt := top 23
theorem sc__law_draw : FnScope ["script", "town", "many"] ["script", "town", "many"] (defScope s__law_draw) := ⟨rfl, rfl, rfl, by decide +kernel, rfl, by decide +kernel, by decide +kernel⟩
/-! _law_pick -/
abbrev s__law_pick : Stmt := top 24
theorem sc__law_pick : FnScope ["script", "town", "some"] ["script", "town", "some"] (defScope s__law_pick) := ⟨rfl, rfl, rfl, by decide +kernel, rfl, by decide +kernel, by decide +kernel⟩
/-! _law_refusal -/
abbrev s__law_refusal : Stmt := top 25
theorem sc__law_refusal : FnScope ["caught", "kinds", "words"] ["caught"] (defScope s__law_refusal) := ⟨rfl, rfl, rfl, by decide +kernel, rfl, by decide +kernel, by decide +kernel⟩
/-! _law_row -/
abbrev s__law_row : Stmt := top 26
theorem sc__law_row : FnScope ["script", "town", "most", "kinds", "many", "found", "k", "name"] ["script", "town", "most", "kinds"] (defScope s__law_row) := ⟨rfl, rfl, rfl, by decide +kernel, rfl, by decide +kernel, by decide +kernel⟩
/-! _law_told -/
abbrev s__law_told : Stmt := top 27
theorem sc__law_told : FnScope ["text", "caught", "found", "e"] ["text"] (defScope s__law_told) := ⟨rfl, rfl, rfl, by decide +kernel, rfl, by decide +kernel, by decide +kernel⟩
def f__law_told : M Fl :=
    (seqM (setM 1 (dataM (retM (.d .none))))
    (seqM (setM 2 (dataM (retM (.d .none))))
    (seqM (tryM g_RoomError 3 1 (setM 2 (callM 1 F_read (consM (varM 0) (retM [])))))
    (withS 2 (retS (ifM (isNT false (varM 1)) (dataM (varM 2)) (callM 1 F__law_refusal (consM (varM 1) (retM [])))))))))
def F__law_told : Fn := bodyF 4 f__law_told
/-! _law_text -/
abbrev s__law_text : Stmt := top 28
theorem sc__law_text : FnScope ["row", "words", "k", "j"] ["row"] (defScope s__law_text) := ⟨rfl, rfl, rfl, by decide +kernel, rfl, by decide +kernel, by decide +kernel⟩
def t__law_text_1 : M Bool :=
    (andM (cmpT ltI (varM 3) (lenM (varM 0))) (cmpT eqD (frzM (bin2 ixD (varM 0) (varM 3))) (frzM (bin2 ixD (varM 0) (varM 2)))))
theorem t__law_text_1_ap (ρ : Ev) : t__law_text_1 ρ =
    (andM (cmpT ltI (varM 3) (lenM (varM 0))) (cmpT eqD (frzM (bin2 ixD (varM 0) (varM 3))) (frzM (bin2 ixD (varM 0) (varM 2))))) ρ := rfl
def b__law_text_1 : M Fl :=
    (setM 3 (bin2 addD (varM 3) (retM (.d (.int 1)))))
theorem b__law_text_1_ap (ρ : Ev) : b__law_text_1 ρ =
    (setM 3 (bin2 addD (varM 3) (retM (.d (.int 1))))) ρ := rfl
def b__law_text_2 : M Fl :=
    (seqM (setM 3 (dataM (varM 2)))
    (seqM (whileL t__law_text_1 b__law_text_1 100)
    (seqM (exprS (mutM 1 appD (consM (frzM (bin2 addD (frzM (biM strD (consM (frzM (bin2 ixD (varM 0) (varM 2))) (retM [])))) (frzM (bin2 ixD (frzM (lstM (consM (retM (.d (.str ""))) (consM (frzM (bin2 addD (retM (.d (.str "*"))) (frzM (biM strD (consM (frzM (bin2 subD (varM 3) (varM 2))) (retM [])))))) (retM []))))) (frzM (biM intD (consM (cmpM gtI (frzM (bin2 subD (varM 3) (varM 2))) (retM (.d (.int 1)))) (retM [])))))))) (retM []))))
    (setM 2 (dataM (varM 3))))))
theorem b__law_text_2_ap (ρ : Ev) : b__law_text_2 ρ =
    (seqM (setM 3 (dataM (varM 2)))
    (seqM (whileL t__law_text_1 b__law_text_1 100)
    (seqM (exprS (mutM 1 appD (consM (frzM (bin2 addD (frzM (biM strD (consM (frzM (bin2 ixD (varM 0) (varM 2))) (retM [])))) (frzM (bin2 ixD (frzM (lstM (consM (retM (.d (.str ""))) (consM (frzM (bin2 addD (retM (.d (.str "*"))) (frzM (biM strD (consM (frzM (bin2 subD (varM 3) (varM 2))) (retM [])))))) (retM []))))) (frzM (biM intD (consM (cmpM gtI (frzM (bin2 subD (varM 3) (varM 2))) (retM (.d (.int 1)))) (retM [])))))))) (retM []))))
    (setM 2 (dataM (varM 3)))))) ρ := rfl
def f__law_text : M Fl :=
    (seqM (setM 1 (lstM (retM [])))
    (seqM (setM 2 (dataM (retM (.d (.int 0)))))
    (seqM (whileL (cmpT ltI (varM 2) (lenM (varM 0))) b__law_text_2 100)
    (retS (dataM (joinM (retM (.d (.str " "))) (varM 1)))))))
def F__law_text : Fn := bodyF 4 f__law_text
/-! _law_read -/
abbrev s__law_read : Stmt := top 29
theorem sc__law_read : FnScope ["text", "numbers", "k", "found", "word", "parts", "part"] ["text"] (defScope s__law_read) := ⟨rfl, rfl, rfl, by decide +kernel, rfl, by decide +kernel, by decide +kernel⟩
def b__law_read_1 : M Fl :=
    (putKM 1 (varM 2) (frzM (biM strD (consM (varM 2) (retM [])))))
theorem b__law_read_1_ap (ρ : Ev) : b__law_read_1 ρ =
    (putKM 1 (varM 2) (frzM (biM strD (consM (varM 2) (retM []))))) ρ := rfl
def b__law_read_2 : M Fl :=
    (seqM (setM 5 (splitM (varM 4) (retM (.d (.str "*")))))
    (seqM (withS 5 (ifM (orM (cmpT gtI (lenM (varM 5)) (retM (.d (.int 2)))) (orM (cmpT neD (frzM (lcM (itM (varM 5)) (.one 6) (testM (inK true 1 (varM 6))) (varM 6))) (frzM (lstM (retM [])))) (cmpT gtI (getK 1 (frzM (bin2 ixD (varM 5) (retM (.d (.int 0)))))) (retM (.d (.int 19)))))) (retS (dataM (retM (.d .none)))) (retM .nx)))
    (setM 3 (bin2 addD (varM 3) (frzM (bin2 mulD (frzM (lstM (consM (getK 1 (frzM (bin2 ixD (varM 5) (retM (.d (.int 0)))))) (retM [])))) (ifM (cmpT eqD (lenM (varM 5)) (retM (.d (.int 2)))) (getK 1 (frzM (bin2 ixD (varM 5) (retM (.d (.int 1)))))) (retM (.d (.int 1))))))))))
theorem b__law_read_2_ap (ρ : Ev) : b__law_read_2 ρ =
    (seqM (setM 5 (splitM (varM 4) (retM (.d (.str "*")))))
    (seqM (withS 5 (ifM (orM (cmpT gtI (lenM (varM 5)) (retM (.d (.int 2)))) (orM (cmpT neD (frzM (lcM (itM (varM 5)) (.one 6) (testM (inK true 1 (varM 6))) (varM 6))) (frzM (lstM (retM [])))) (cmpT gtI (getK 1 (frzM (bin2 ixD (varM 5) (retM (.d (.int 0)))))) (retM (.d (.int 19)))))) (retS (dataM (retM (.d .none)))) (retM .nx)))
    (setM 3 (bin2 addD (varM 3) (frzM (bin2 mulD (frzM (lstM (consM (getK 1 (frzM (bin2 ixD (varM 5) (retM (.d (.int 0)))))) (retM [])))) (ifM (cmpT eqD (lenM (varM 5)) (retM (.d (.int 2)))) (getK 1 (frzM (bin2 ixD (varM 5) (retM (.d (.int 1)))))) (retM (.d (.int 1)))))))))) ρ := rfl
def f__law_read : M Fl :=
    (seqM (setM 1 (retM (.k [])))
    (seqM (forM (rg1 (consM (retM (.d (.int 100))) (retM []))) (.one 2) b__law_read_1)
    (seqM (setM 3 (lstM (retM [])))
    (seqM (ifM (cmpT eqD (varM 0) (retM (.d (.str "")))) (retO 3) (retM .nx))
    (seqM (forM (itM (frzM (splitM (varM 0) (retM (.d (.str " ")))))) (.one 4) b__law_read_2)
    (withS 3 (retS (ifM (andM (cmpT leI (lenM (varM 3)) (retM (.d (.int 24)))) (cmpT eqD (frzM (callM 1 F__law_text (consM (varM 3) (retM [])))) (varM 0))) (dataM (varM 3)) (dataM (retM (.d .none)))))))))))
def F__law_read : Fn := bodyF 7 f__law_read
/-! law -/
abbrev s_law : Stmt := top 30
theorem sc_law : FnScope ["script", "town", "row", "k", "text", "at", "sign", "due"] ["script"] (defScope s_law) := ⟨rfl, rfl, rfl, by decide +kernel, rfl, by decide +kernel, by decide +kernel⟩
def b_law_1 : M Fl :=
    (ifM (cmpT eqD (frzM (callM 3 F__law_draw (consM (varM 0) (consM (varM 1) (consM (retM (.d (.int 3))) (retM [])))))) (retM (.d (.int 0)))) (setIt 2 (frzM (bin2 ixD (varM 2) (varM 3))) (frzM (bin2 addD (varM 3) (retM (.d (.int 1)))))) (retM .nx))
theorem b_law_1_ap (ρ : Ev) : b_law_1 ρ =
    (ifM (cmpT eqD (frzM (callM 3 F__law_draw (consM (varM 0) (consM (varM 1) (consM (retM (.d (.int 3))) (retM [])))))) (retM (.d (.int 0)))) (setIt 2 (frzM (bin2 ixD (varM 2) (varM 3))) (frzM (bin2 addD (varM 3) (retM (.d (.int 1)))))) (retM .nx)) ρ := rfl
def b_law_2 : M Fl :=
    (seqM (setM 5 (callM 3 F__law_draw (consM (varM 0) (consM (varM 1) (consM (frzM (bin2 addD (lenM (varM 4)) (retM (.d (.int 1))))) (retM []))))))
    (seqM (setM 6 (callM 3 F__law_pick (consM (varM 0) (consM (varM 1) (consM (frzM (lstM (consM (retM (.d (.str "0"))) (consM (retM (.d (.str "1"))) (consM (retM (.d (.str "2"))) (consM (retM (.d (.str "9"))) (consM (retM (.d (.str " "))) (consM (retM (.d (.str "*"))) (consM (retM (.d (.str "-"))) (consM (retM (.d (.str "a"))) (consM (retM (.d (.str "\n"))) (consM (retM (.d (.str ""))) (retM []))))))))))))) (retM []))))))
    (seqM (setM 4 (bin2 addD (frzM (bin2 addD (frzM (sliceM (varM 4) partN (partS (varM 5)))) (varM 6))) (frzM (sliceM (varM 4) (partS (frzM (bin2 addD (varM 5) (frzM (callM 3 F__law_draw (consM (varM 0) (consM (varM 1) (consM (retM (.d (.int 2))) (retM []))))))))) partN))))
    (seqM (withS 4 (setM 7 (callM 1 F__law_read (consM (varM 4) (retM [])))))
    (withS 7 (withS 4 (ifM (cmpT neD (frzM (callM 1 F__law_told (consM (varM 4) (retM [])))) (frzM (ifM (isNT true (varM 7)) (dataM (varM 7)) (dataM (tupM (consM (retM (.d (.str "refused"))) (consM (retM (.d (.str "text"))) (retM [])))))))) (retS (dataM (retM (.d (.bool false))))) (retM .nx))))))))
theorem b_law_2_ap (ρ : Ev) : b_law_2 ρ =
    (seqM (setM 5 (callM 3 F__law_draw (consM (varM 0) (consM (varM 1) (consM (frzM (bin2 addD (lenM (varM 4)) (retM (.d (.int 1))))) (retM []))))))
    (seqM (setM 6 (callM 3 F__law_pick (consM (varM 0) (consM (varM 1) (consM (frzM (lstM (consM (retM (.d (.str "0"))) (consM (retM (.d (.str "1"))) (consM (retM (.d (.str "2"))) (consM (retM (.d (.str "9"))) (consM (retM (.d (.str " "))) (consM (retM (.d (.str "*"))) (consM (retM (.d (.str "-"))) (consM (retM (.d (.str "a"))) (consM (retM (.d (.str "\n"))) (consM (retM (.d (.str ""))) (retM []))))))))))))) (retM []))))))
    (seqM (setM 4 (bin2 addD (frzM (bin2 addD (frzM (sliceM (varM 4) partN (partS (varM 5)))) (varM 6))) (frzM (sliceM (varM 4) (partS (frzM (bin2 addD (varM 5) (frzM (callM 3 F__law_draw (consM (varM 0) (consM (varM 1) (consM (retM (.d (.int 2))) (retM []))))))))) partN))))
    (seqM (withS 4 (setM 7 (callM 1 F__law_read (consM (varM 4) (retM [])))))
    (withS 7 (withS 4 (ifM (cmpT neD (frzM (callM 1 F__law_told (consM (varM 4) (retM [])))) (frzM (ifM (isNT true (varM 7)) (dataM (varM 7)) (dataM (tupM (consM (retM (.d (.str "refused"))) (consM (retM (.d (.str "text"))) (retM [])))))))) (retS (dataM (retM (.d (.bool false))))) (retM .nx)))))))) ρ := rfl
def e_law_1 : M Av :=
    (frzM (callM 1 F__law_told (consM (varM 4) (retM []))))
theorem e_law_1_ap (ρ : Ev) : e_law_1 ρ =
    (frzM (callM 1 F__law_told (consM (varM 4) (retM [])))) ρ := rfl
def f_law : M Fl :=
    (seqM (setM 1 (lstM (retM [])))
    (seqM (setM 2 (callM 4 F__law_row (consM (varM 0) (consM (varM 1) (consM (retM (.d (.int 24))) (consM (retM (.d (.int 20))) (retM [])))))))
    (seqM (forM (rg1 (consM (frzM (bin2 subD (lenM (varM 2)) (retM (.d (.int 1))))) (retM []))) (.one 3) b_law_1)
    (seqM (withS 2 (setM 4 (callM 1 F__law_text (consM (varM 2) (retM [])))))
    (seqM (withS 2 (withS 4 (ifM (orM (cmpT neD (frzM (callM 1 F_written (consM (varM 2) (retM [])))) (varM 4)) (cmpT neD (frzM (callM 1 F__law_told (consM (varM 4) (retM [])))) (varM 2))) (retS (dataM (retM (.d (.bool false))))) (retM .nx))))
    (seqM (forM (rg1 (consM (retM (.d (.int 3))) (retM []))) (.one 3) b_law_2)
    (seqM (ifM (orM (cmpT neD (frzM (callM 1 F__law_told (consM (retM (.d (.str "0*25"))) (retM [])))) (tupM (consM (retM (.d (.str "refused"))) (consM (retM (.d (.str "text"))) (retM []))))) (cmpT neD (frzM (callM 1 F__law_told (consM (retM (.d (.str "19*24"))) (retM [])))) (frzM (bin2 mulD (frzM (lstM (consM (retM (.d (.int 19))) (retM [])))) (retM (.d (.int 24))))))) (retS (dataM (retM (.d (.bool false))))) (retM .nx))
    (withS 4 (retS (dataM (cmpM eqD (frzM (lcM (itM (frzM (lstM (consM (retM (.d (.str "1*1"))) (consM (retM (.d (.str "20"))) (consM (retM (.d (.str "1*0"))) (retM []))))))) (.one 4) (retM true) e_law_1)) (frzM (bin2 mulD (frzM (lstM (consM (tupM (consM (retM (.d (.str "refused"))) (consM (retM (.d (.str "text"))) (retM [])))) (retM [])))) (retM (.d (.int 3))))))))))))))))
def F_law : Fn := bodyF 8 f_law
structure Tx (K : Fg) (mg : Str → Option Value) : Prop where
  z_ValueError : mg "ValueError" = none
  z_all : mg "all" = none
  z_int : mg "int" = none
  z_isinstance : mg "isinstance" = none
  z_len : mg "len" = none
  z_range : mg "range" = none
  z_str : mg "str" = none
  c_FIGURES : ∃ t, mg "FIGURES" = some (.str "0123456789" t)
  c_MOST_ASKS : ∃ t, mg "MOST_ASKS" = some (.int 24 t)
  c_MOST_NAME : ∃ t, mg "MOST_NAME" = some (.int 19 t)
  x_BadRow : ExFact K mg 0
  x_BadRoom : ExFact K mg 1
  x_BadRule : ExFact K mg 2
  x_BadPlan : ExFact K mg 3
  x_BadDepths : ExFact K mg 4
  x_BadTurns : ExFact K mg 5
  x_BadAsk : ExFact K mg 6
  x_BadText : ExFact K mg 7
  i_BadAsk : Isi (bs K) (.ref (exC K 6)) (is8 6)
  i_BadDepths : Isi (bs K) (.ref (exC K 4)) (is8 4)
  i_BadPlan : Isi (bs K) (.ref (exC K 3)) (is8 3)
  i_BadRoom : Isi (bs K) (.ref (exC K 1)) (is8 1)
  i_BadRow : Isi (bs K) (.ref (exC K 0)) (is8 0)
  i_BadRule : Isi (bs K) (.ref (exC K 2)) (is8 2)
  i_BadText : Isi (bs K) (.ref (exC K 7)) (is8 7)
  i_BadTurns : Isi (bs K) (.ref (exC K 5)) (is8 5)
  i_ValueError : Isi (bs K) (.type "ValueError") (fun _ => true)
  gc_RoomError : mg "RoomError" = some (.ref (He.ga K "RoomError"))
  e_RoomError : Exs (bs K) (.ref (He.ga K "RoomError")) g_RoomError
  g_look_name : mg "look_name" = some (.ref (He.ga K "look_name"))
  g_look_row : mg "look_row" = some (.ref (He.ga K "look_row"))
  g_written : mg "written" = some (.ref (He.ga K "written"))
  g_number_in : mg "number_in" = some (.ref (He.ga K "number_in"))
  g_read : mg "read" = some (.ref (He.ga K "read"))
  g__law_cell : mg "_law_cell" = some (.ref (He.ga K "_law_cell"))
  g__law_mix : mg "_law_mix" = some (.ref (He.ga K "_law_mix"))
  g__law_draw : mg "_law_draw" = some (.ref (He.ga K "_law_draw"))
  g__law_pick : mg "_law_pick" = some (.ref (He.ga K "_law_pick"))
  g__law_refusal : mg "_law_refusal" = some (.ref (He.ga K "_law_refusal"))
  g__law_row : mg "_law_row" = some (.ref (He.ga K "_law_row"))
  g__law_told : mg "_law_told" = some (.ref (He.ga K "_law_told"))
  g__law_text : mg "_law_text" = some (.ref (He.ga K "_law_text"))
  g__law_read : mg "_law_read" = some (.ref (He.ga K "_law_read"))
  g_law : mg "law" = some (.ref (He.ga K "law"))
  lamNo : (!He.Fa.ok K (.glo "most_held")) = true
  d_look_name : ∃ fd, FunD K "look_name" "look_name" (defArgs s_look_name) (defBody s_look_name) (defScope s_look_name) [] [] (He.ga K "look_name") fd
  d_look_row : ∃ fd, FunD K "look_row" "look_row" (defArgs s_look_row) (defBody s_look_row) (defScope s_look_row) [] [] (He.ga K "look_row") fd
  d_written : ∃ fd, FunD K "written" "written" (defArgs s_written) (defBody s_written) (defScope s_written) [] [] (He.ga K "written") fd
  d_number_in : ∃ fd, FunD K "number_in" "number_in" (defArgs s_number_in) (defBody s_number_in) (defScope s_number_in) [] [] (He.ga K "number_in") fd
  d_read : ∃ fd, FunD K "read" "read" (defArgs s_read) (defBody s_read) (defScope s_read) [] [] (He.ga K "read") fd
  d__law_cell : ∃ fd, FunD K "_law_cell" "_law_cell" (defArgs s__law_cell) (defBody s__law_cell) (defScope s__law_cell) [] [] (He.ga K "_law_cell") fd
  d__law_mix : ∃ fd, FunD K "_law_mix" "_law_mix" (defArgs s__law_mix) (defBody s__law_mix) (defScope s__law_mix) [] [] (He.ga K "_law_mix") fd
  d__law_draw : ∃ fd, FunD K "_law_draw" "_law_draw" (defArgs s__law_draw) (defBody s__law_draw) (defScope s__law_draw) [] [] (He.ga K "_law_draw") fd
  d__law_pick : ∃ fd, FunD K "_law_pick" "_law_pick" (defArgs s__law_pick) (defBody s__law_pick) (defScope s__law_pick) [] [] (He.ga K "_law_pick") fd
  d__law_refusal : ∃ fd, FunD K "_law_refusal" "_law_refusal" (defArgs s__law_refusal) (defBody s__law_refusal) (defScope s__law_refusal) [] [] (He.ga K "_law_refusal") fd
  d__law_row : ∃ fd, FunD K "_law_row" "_law_row" (defArgs s__law_row) (defBody s__law_row) (defScope s__law_row) [] [] (He.ga K "_law_row") fd
  d__law_told : ∃ fd, FunD K "_law_told" "_law_told" (defArgs s__law_told) (defBody s__law_told) (defScope s__law_told) [] [] (He.ga K "_law_told") fd
  d__law_text : ∃ fd, FunD K "_law_text" "_law_text" (defArgs s__law_text) (defBody s__law_text) (defScope s__law_text) [] [] (He.ga K "_law_text") fd
  d__law_read : ∃ fd, FunD K "_law_read" "_law_read" (defArgs s__law_read) (defBody s__law_read) (defScope s__law_read) [] [] (He.ga K "_law_read") fd
  d_law : ∃ fd, FunD K "law" "law" (defArgs s_law) (defBody s_law) (defScope s_law) [] [] (He.ga K "law") fd
section
variable {P : Program} {w : World} {K : Fg} {mg : Str → Option Value} {base : Heap}
theorem ok_look_name (T : Tx K mg) : ∃ fd, FnOk P w K mg base (L2.CX P w) 1 (He.ga K "look_name") fd ["name"] (spF (bs K) 1 F_look_name) ∧ Binds K fd ["name"] [] ∧ PySem.W.keepIn K (.ref (He.ga K "look_name")) = true := by
  obtain ⟨fd, F⟩ := T.d_look_name
  refine ⟨fd, fn_body F sc_look_name (fun cdv A outer s H E hr => ?_), F.bindsN (fun _ _ _ _ _ _ us hl => match us, hl with | [_], _ => rfl), F.kp⟩
  have tk : Takes (cxOf (L2.CX P w) P w K mg base ["name"] "look_name" (defScope s_look_name) (He.ga K "look_name") cdv A outer s H E) (WF E) := takes_of rfl rfl rfl rfl
  have po : PassesOwn (model P w) (A.deeper (PyProof.Rows.envOfC "look_name" (defScope s_look_name) s.heap.objs.size (He.ga K "look_name") cdv)) (PyProof.Rows.envOfC "look_name" (defScope s_look_name) s.heap.objs.size (He.ga K "look_name") cdv) (cxOf (L2.CX P w) P w K mg base ["name"] "look_name" (defScope s_look_name) (He.ga K "look_name") cdv A outer s H E).xe := passes_of (X := cxOf (L2.CX P w) P w K mg base ["name"] "look_name" (defScope s_look_name) (He.ga K "look_name") cdv A outer s H E) rfl
  have hu1 := hu_of hr
  exact (s_one (s_if (m_not (m_chainT op_le t_le op_le t_le m_int (m_var 0 (pv 0)) (m_gint rfl T.c_MOST_NAME))) (s_one (s_raiseX (k := 0) rfl T.x_BadRow rfl rfl rfl tk)) s_nil))
theorem ok_look_row (T : Tx K mg) : ∃ fd, FnOk P w K mg base (L2.CX P w) 2 (He.ga K "look_row") fd ["row"] (spF (bs K) 1 F_look_row) ∧ Binds K fd ["row"] [] ∧ PySem.W.keepIn K (.ref (He.ga K "look_row")) = true := by
  obtain ⟨fd, F⟩ := T.d_look_row
  obtain ⟨fd_look_name, ok_look_name, b_look_name, k_look_name⟩ := ok_look_name (P := P) (w := w) (base := base) T
  refine ⟨fd, fn_body F sc_look_row (fun cdv A outer s H E hr => ?_), F.bindsN (fun _ _ _ _ _ _ us hl => match us, hl with | [_], _ => rfl), F.kp⟩
  have tk : Takes (cxOf (L2.CX P w) P w K mg base ["row", "name"] "look_row" (defScope s_look_row) (He.ga K "look_row") cdv A outer s H E) (WF E) := takes_of rfl rfl rfl rfl
  have po : PassesOwn (model P w) (A.deeper (PyProof.Rows.envOfC "look_row" (defScope s_look_row) s.heap.objs.size (He.ga K "look_row") cdv)) (PyProof.Rows.envOfC "look_row" (defScope s_look_row) s.heap.objs.size (He.ga K "look_row") cdv) (cxOf (L2.CX P w) P w K mg base ["row", "name"] "look_row" (defScope s_look_row) (He.ga K "look_row") cdv A outer s H E).xe := passes_of (X := cxOf (L2.CX P w) P w K mg base ["row", "name"] "look_row" (defScope s_look_row) (He.ga K "look_row") cdv A outer s H E) rfl
  have hu1 := hu_of hr
  exact (s_cons (s_if (m_tcmp op_gt t_gt (m_len rfl rfl T.z_len (m_var 0 (pv 0))) (m_gint rfl T.c_MOST_ASKS) (nomark _)) (s_one (s_raiseX (k := 0) rfl T.x_BadRow rfl rfl rfl tk)) s_nil)
    (s_one (s_for (t := (.one 1)) rfl po rfl (i_list rfl (m_var 0 (pv 0))) (pg_name (i := 1) sc_look_row.nd rfl (by first | exact Or.inl rfl | exact Or.inr rfl)) (s_one (s_expr (m_call ok_look_name (hr.mono (by decide)) rfl T.g_look_name k_look_name b_look_name tk (m_cons (m_var 1 (pv 1)) m_nil)))))))
theorem ok_written (T : Tx K mg) : ∃ fd, FnOk P w K mg base (L2.CX P w) 3 (He.ga K "written") fd ["row"] (spF (bs K) 1 F_written) ∧ Binds K fd ["row"] [] ∧ PySem.W.keepIn K (.ref (He.ga K "written")) = true := by
  obtain ⟨fd, F⟩ := T.d_written
  obtain ⟨fd_look_row, ok_look_row, b_look_row, k_look_row⟩ := ok_look_row (P := P) (w := w) (base := base) T
  refine ⟨fd, fn_body F sc_written (fun cdv A outer s H E hr => ?_), F.bindsN (fun _ _ _ _ _ _ us hl => match us, hl with | [_], _ => rfl), F.kp⟩
  have tk : Takes (cxOf (L2.CX P w) P w K mg base ["row", "words", "k", "name", "many"] "written" (defScope s_written) (He.ga K "written") cdv A outer s H E) (WF E) := takes_of rfl rfl rfl rfl
  have po : PassesOwn (model P w) (A.deeper (PyProof.Rows.envOfC "written" (defScope s_written) s.heap.objs.size (He.ga K "written") cdv)) (PyProof.Rows.envOfC "written" (defScope s_written) s.heap.objs.size (He.ga K "written") cdv) (cxOf (L2.CX P w) P w K mg base ["row", "words", "k", "name", "many"] "written" (defScope s_written) (He.ga K "written") cdv A outer s H E).xe := passes_of (X := cxOf (L2.CX P w) P w K mg base ["row", "words", "k", "name", "many"] "written" (defScope s_written) (He.ga K "written") cdv A outer s H E) rfl
  have hu1 := hu_of hr
  exact (s_cons (s_expr (m_call ok_look_row (hr.mono (by decide)) rfl T.g_look_row k_look_row b_look_row tk (m_cons (m_var 0 (pv 0)) m_nil)))
    (s_cons (s_set (i := 1) sc_written.nd rfl (by first | exact Or.inl rfl | exact Or.inr rfl) (m_lst m_nil))
    (s_cons (s_for (t := (.one 2)) rfl po rfl (i_range1 rfl T.z_range (m_cons (m_len rfl rfl T.z_len (m_var 0 (pv 0))) m_nil)) (pg_name (i := 2) sc_written.nd rfl (by first | exact Or.inl rfl | exact Or.inr rfl)) (s_one (s_if (PW.pt (m_and (m_tcmp op_gt t_gt (m_var 2 (pv 2)) m_int (nomark _)) (m_and1 (m_tcmp (o_eq hr.units) (tells_two _) (m_frz (m_idx rfl (m_var 0 (pv 0)) (m_var 2 (pv 2)))) (m_frz (m_idx rfl (m_var 0 (pv 0)) (m_frz (m_sub (m_var 2 (pv 2)) m_int)))) (nomark _))))) (s_one (s_setIt 1 (ps_asg (m_tup (m_cons (m_frz (m_idx rfl (m_frz (m_idx rfl (m_var 1 (pv 1)) (m_frz (m_neg m_int)))) m_int)) (m_cons (m_frz (m_add (m_frz (m_idx rfl (m_frz (m_idx rfl (m_var 1 (pv 1)) (m_frz (m_neg m_int)))) m_int)) m_int)) m_nil))) (pg_sub (pv 1) (m_frz (m_neg m_int)) set_list)))) (s_one (s_expr (m_mut rfl 1 k_app (pe_bm PySem.F.plainAttrs_list PySem.F.slot_list_append PySem.F.type_list_append mt_append (pv 1) (m_cons (m_tup (m_cons (m_frz (m_idx rfl (m_var 0 (pv 0)) (m_var 2 (pv 2)))) (m_cons m_int m_nil))) m_nil))))))))
    (s_one (s_share 1 (s_ret (m_data (m_join rfl m_str (m_frz (m_lc (t := (.tup [3, 4])) rfl rfl rfl sc_written.nd (i_list rfl (m_var 1 (pv 1))) (blkOk_by (own := [("name", 3), ("many", 4)]) (by kernel_rfl)) (fun _ _ _ _ _ => (pg_tup rfl (pgs_cons (pg_name (i := 3) sc_written.nd rfl (by first | exact Or.inl rfl | exact Or.inr rfl)) (pgs_cons (pg_name (i := 4) sc_written.nd rfl (by first | exact Or.inl rfl | exact Or.inr rfl)) pgs_nil)))) (fun _ _ _ _ _ => ts_nil) (fun _ _ _ _ _ => (m_frz (m_add (m_frz (m_strc rfl T.z_str (m_cons (m_var 3 (pv 3)) m_nil))) (m_ifE (m_tcmp op_gt t_gt (m_var 4 (pv 4)) m_int (nomark _)) (m_frz (m_add m_str (m_frz (m_strc rfl T.z_str (m_cons (m_var 4 (pv 4)) m_nil))))) m_str))))))))))))))
theorem ok_number_in (T : Tx K mg) : ∃ fd, FnOk P w K mg base (L2.CX P w) 1 (He.ga K "number_in") fd ["word"] (spF (bs K) 1 F_number_in) ∧ Binds K fd ["word"] [] ∧ PySem.W.keepIn K (.ref (He.ga K "number_in")) = true := by
  obtain ⟨fd, F⟩ := T.d_number_in
  refine ⟨fd, fn_body F sc_number_in (fun cdv A outer s H E hr => ?_), F.bindsN (fun _ _ _ _ _ _ us hl => match us, hl with | [_], _ => rfl), F.kp⟩
  have tk : Takes (cxOf (L2.CX P w) P w K mg base ["word", "sign"] "number_in" (defScope s_number_in) (He.ga K "number_in") cdv A outer s H E) (WF E) := takes_of rfl rfl rfl rfl
  have po : PassesOwn (model P w) (A.deeper (PyProof.Rows.envOfC "number_in" (defScope s_number_in) s.heap.objs.size (He.ga K "number_in") cdv)) (PyProof.Rows.envOfC "number_in" (defScope s_number_in) s.heap.objs.size (He.ga K "number_in") cdv) (cxOf (L2.CX P w) P w K mg base ["word", "sign"] "number_in" (defScope s_number_in) (He.ga K "number_in") cdv A outer s H E).xe := passes_of (X := cxOf (L2.CX P w) P w K mg base ["word", "sign"] "number_in" (defScope s_number_in) (He.ga K "number_in") cdv A outer s H E) rfl
  have hu1 := hu_of hr
  exact (s_cons (s_if (PW.pt (m_or (m_not (m_chainT op_le t_le op_le t_le m_int (m_len rfl rfl T.z_len (m_var 0 (pv 0))) m_int)) (m_or (m_not (m_test rfl (m_frz (m_all rfl rfl rfl T.z_all (m_cons (m_frz (m_lc (t := (.one 1)) rfl rfl rfl sc_number_in.nd (i_str (m_var 0 (pv 0))) (blkOk_by (own := [("sign", 1)]) (by kernel_rfl)) (fun _ _ _ _ _ => (pg_name (i := 1) sc_number_in.nd rfl (by first | exact Or.inl rfl | exact Or.inr rfl))) (fun _ _ _ _ _ => ts_nil) (fun _ _ _ _ _ => (m_inS (m_var 1 (pv 1)) (m_gstr rfl T.c_FIGURES))))) m_nil))))) (m_or1 (PW.pt (m_and (m_tcmp (o_eq hr.units) (tells_two _) (m_frz (m_ixSt (m_var 0 (pv 0)) m_int (fun _ _ => rfl))) m_str (nomark _)) (m_and1 (m_tcmp (o_ne hr.units) (tells_two _) (m_var 0 (pv 0)) m_str (nomark _))))))))) (s_one (s_raiseX (k := 7) rfl T.x_BadText rfl rfl rfl tk)) s_nil)
    (s_one (s_ret (m_intS rfl T.z_int (m_cons (m_var 0 (pv 0)) m_nil)))))
theorem ok_read (T : Tx K mg) : ∃ fd, FnOk P w K mg base (L2.CX P w) 4 (He.ga K "read") fd ["text"] (spF (bs K) 1 F_read) ∧ Binds K fd ["text"] [] ∧ PySem.W.keepIn K (.ref (He.ga K "read")) = true := by
  obtain ⟨fd, F⟩ := T.d_read
  obtain ⟨fd_look_row, ok_look_row, b_look_row, k_look_row⟩ := ok_look_row (P := P) (w := w) (base := base) T
  obtain ⟨fd_number_in, ok_number_in, b_number_in, k_number_in⟩ := ok_number_in (P := P) (w := w) (base := base) T
  obtain ⟨fd_written, ok_written, b_written, k_written⟩ := ok_written (P := P) (w := w) (base := base) T
  refine ⟨fd, fn_body F sc_read (fun cdv A outer s H E hr => ?_), F.bindsN (fun _ _ _ _ _ _ us hl => match us, hl with | [_], _ => rfl), F.kp⟩
  have tk : Takes (cxOf (L2.CX P w) P w K mg base ["text", "found", "word", "good", "parts"] "read" (defScope s_read) (He.ga K "read") cdv A outer s H E) (WF E) := takes_of rfl rfl rfl rfl
  have po : PassesOwn (model P w) (A.deeper (PyProof.Rows.envOfC "read" (defScope s_read) s.heap.objs.size (He.ga K "read") cdv)) (PyProof.Rows.envOfC "read" (defScope s_read) s.heap.objs.size (He.ga K "read") cdv) (cxOf (L2.CX P w) P w K mg base ["text", "found", "word", "good", "parts"] "read" (defScope s_read) (He.ga K "read") cdv A outer s H E).xe := passes_of (X := cxOf (L2.CX P w) P w K mg base ["text", "found", "word", "good", "parts"] "read" (defScope s_read) (He.ga K "read") cdv A outer s H E) rfl
  have hu1 := hu_of hr
  exact (s_cons (s_set (i := 1) sc_read.nd rfl (by first | exact Or.inl rfl | exact Or.inr rfl) (m_lst m_nil))
    (s_cons (s_for (t := (.one 2)) rfl po rfl (i_list rfl (m_frz (m_ifV (m_tcmp (o_ne hr.units) (tells_two _) (m_var 0 (pv 0)) m_str (nomark _)) (m_split rfl (m_var 0 (pv 0)) m_str) (m_lst m_nil)))) (pg_name (i := 2) sc_read.nd rfl (by first | exact Or.inl rfl | exact Or.inr rfl)) (s_cons (s_set (i := 4) sc_read.nd rfl (by first | exact Or.inl rfl | exact Or.inr rfl) (m_split rfl (m_var 2 (pv 2)) m_str))
    (s_cons (s_if (m_tcmp op_gt t_gt (m_len rfl rfl T.z_len (m_var 4 (pv 4))) m_int (nomark _)) (s_one (s_raiseX (k := 7) rfl T.x_BadText rfl rfl rfl tk)) s_nil)
    (s_one (s_expr (m_mut rfl 1 k_ext (pe_bm PySem.F.plainAttrs_list PySem.F.slot_list_extend PySem.F.type_list_extend mt_extend (pv 1) (m_cons (m_frz (m_mul (m_frz (m_lst (m_cons (m_frz (m_call ok_number_in (hr.mono (by decide)) rfl T.g_number_in k_number_in b_number_in tk (m_cons (m_frz (m_idx rfl (m_var 4 (pv 4)) m_int)) m_nil))) m_nil))) (m_ifE (m_tcmp (o_eq hr.units) (tells_two _) (m_len rfl rfl T.z_len (m_var 4 (pv 4))) m_int (nomark _)) (m_frz (m_call ok_number_in (hr.mono (by decide)) rfl T.g_number_in k_number_in b_number_in tk (m_cons (m_frz (m_idx rfl (m_var 4 (pv 4)) m_int)) m_nil))) m_int))) m_nil))))))))
    (s_cons (s_set (i := 3) sc_read.nd rfl (by first | exact Or.inl rfl | exact Or.inr rfl) (m_data m_bl))
    (s_cons (s_tryO rfl rfl rfl ⟨rfl, by decide, .inl T.gc_RoomError⟩ tk T.e_RoomError (noerr_set _ _) (fun _ _ _ tk' po' => (s_one (s_share 1 (s_expr (m_call ok_look_row (hr.mono (by decide)) rfl T.g_look_row k_look_row b_look_row tk' (m_cons (m_var 1 (pv 1)) m_nil)))))) (fun _ _ _ => (s_one (s_set (i := 3) sc_read.nd rfl (by first | exact Or.inl rfl | exact Or.inr rfl) (m_data m_bl)))))
    (s_cons (s_share 1 (s_if (PW.pt (m_or (m_not (m_test rfl (m_var 3 (pv 3)))) (m_or1 (m_tcmp (o_ne hr.units) (tells_two _) (m_frz (m_call ok_written (hr.mono (by decide)) rfl T.g_written k_written b_written tk (m_cons (m_var 1 (pv 1)) m_nil))) (m_var 0 (pv 0)) (nomark _))))) (s_one (s_raiseX (k := 7) rfl T.x_BadText rfl rfl rfl tk)) s_nil))
    (s_one (s_retO 1 (pv 1))))))))
theorem ok__law_cell (T : Tx K mg) : ∃ fd, FnOk P w K mg base (L2.CX P w) 1 (He.ga K "_law_cell") fd ["script", "k"] (spF (bs K) 2 F__law_cell) ∧ Binds K fd ["script", "k"] [] ∧ PySem.W.keepIn K (.ref (He.ga K "_law_cell")) = true := by
  obtain ⟨fd, F⟩ := T.d__law_cell
  refine ⟨fd, fn_body F sc__law_cell (fun cdv A outer s H E hr => ?_), F.bindsN (fun _ _ _ _ _ _ us hl => match us, hl with | [_, _], _ => rfl), F.kp⟩
  have tk : Takes (cxOf (L2.CX P w) P w K mg base ["script", "k"] "_law_cell" (defScope s__law_cell) (He.ga K "_law_cell") cdv A outer s H E) (WF E) := takes_of rfl rfl rfl rfl
  have po : PassesOwn (model P w) (A.deeper (PyProof.Rows.envOfC "_law_cell" (defScope s__law_cell) s.heap.objs.size (He.ga K "_law_cell") cdv)) (PyProof.Rows.envOfC "_law_cell" (defScope s__law_cell) s.heap.objs.size (He.ga K "_law_cell") cdv) (cxOf (L2.CX P w) P w K mg base ["script", "k"] "_law_cell" (defScope s__law_cell) (He.ga K "_law_cell") cdv A outer s H E).xe := passes_of (X := cxOf (L2.CX P w) P w K mg base ["script", "k"] "_law_cell" (defScope s__law_cell) (He.ga K "_law_cell") cdv A outer s H E) rfl
  have hu1 := hu_of hr
  exact (s_cons (s_if (m_test rfl (m_var 0 (pv 0))) (s_one (s_ret (m_data (m_ixS rfl 0 (pv 0) (m_frz (m_mod (m_var 1 (pv 1)) (m_len rfl rfl T.z_len (m_var 0 (pv 0))))))))) s_nil)
    (s_one (s_ret (m_data m_int))))
theorem ok__law_mix (T : Tx K mg) : ∃ fd, FnOk P w K mg base (L2.CX P w) 2 (He.ga K "_law_mix") fd ["script", "k"] (spF (bs K) 2 F__law_mix) ∧ Binds K fd ["script", "k"] [] ∧ PySem.W.keepIn K (.ref (He.ga K "_law_mix")) = true := by
  obtain ⟨fd, F⟩ := T.d__law_mix
  obtain ⟨fd__law_cell, ok__law_cell, b__law_cell, k__law_cell⟩ := ok__law_cell (P := P) (w := w) (base := base) T
  refine ⟨fd, fn_body F sc__law_mix (fun cdv A outer s H E hr => ?_), F.bindsN (fun _ _ _ _ _ _ us hl => match us, hl with | [_, _], _ => rfl), F.kp⟩
  have tk : Takes (cxOf (L2.CX P w) P w K mg base ["script", "k", "number"] "_law_mix" (defScope s__law_mix) (He.ga K "_law_mix") cdv A outer s H E) (WF E) := takes_of rfl rfl rfl rfl
  have po : PassesOwn (model P w) (A.deeper (PyProof.Rows.envOfC "_law_mix" (defScope s__law_mix) s.heap.objs.size (He.ga K "_law_mix") cdv)) (PyProof.Rows.envOfC "_law_mix" (defScope s__law_mix) s.heap.objs.size (He.ga K "_law_mix") cdv) (cxOf (L2.CX P w) P w K mg base ["script", "k", "number"] "_law_mix" (defScope s__law_mix) (He.ga K "_law_mix") cdv A outer s H E).xe := passes_of (X := cxOf (L2.CX P w) P w K mg base ["script", "k", "number"] "_law_mix" (defScope s__law_mix) (He.ga K "_law_mix") cdv A outer s H E) rfl
  have hu1 := hu_of hr
  exact (s_cons (s_set (i := 2) sc__law_mix.nd rfl (by first | exact Or.inl rfl | exact Or.inr rfl) (m_mod (m_frz (m_add (m_frz (m_call ok__law_cell (hr.mono (by decide)) rfl T.g__law_cell k__law_cell b__law_cell tk (m_cons (m_var 0 (pv 0)) (m_cons (m_var 1 (pv 1)) m_nil)))) (m_frz (m_mul m_int (m_frz (m_add (m_var 1 (pv 1)) m_int)))))) m_int))
    (s_cons (s_set (i := 2) sc__law_mix.nd rfl (by first | exact Or.inl rfl | exact Or.inr rfl) (m_mod (m_frz (m_pow (m_var 2 (pv 2)) m_int)) m_int))
    (s_one (s_ret (m_mod (m_frz (m_add (m_frz (m_mul (m_frz (m_fdiv (m_var 2 (pv 2)) m_int)) m_int)) (m_var 2 (pv 2)))) m_int)))))
theorem ok__law_draw (T : Tx K mg) : ∃ fd, FnOk P w K mg base (L2.CX P w) 3 (He.ga K "_law_draw") fd ["script", "town", "many"] (spF (bs K) 3 F__law_draw) ∧ Binds K fd ["script", "town", "many"] [] ∧ PySem.W.keepIn K (.ref (He.ga K "_law_draw")) = true := by
  obtain ⟨fd, F⟩ := T.d__law_draw
  obtain ⟨fd__law_mix, ok__law_mix, b__law_mix, k__law_mix⟩ := ok__law_mix (P := P) (w := w) (base := base) T
  refine ⟨fd, fn_body F sc__law_draw (fun cdv A outer s H E hr => ?_), F.bindsN (fun _ _ _ _ _ _ us hl => match us, hl with | [_, _, _], _ => rfl), F.kp⟩
  have tk : Takes (cxOf (L2.CX P w) P w K mg base ["script", "town", "many"] "_law_draw" (defScope s__law_draw) (He.ga K "_law_draw") cdv A outer s H E) (WF E) := takes_of rfl rfl rfl rfl
  have po : PassesOwn (model P w) (A.deeper (PyProof.Rows.envOfC "_law_draw" (defScope s__law_draw) s.heap.objs.size (He.ga K "_law_draw") cdv)) (PyProof.Rows.envOfC "_law_draw" (defScope s__law_draw) s.heap.objs.size (He.ga K "_law_draw") cdv) (cxOf (L2.CX P w) P w K mg base ["script", "town", "many"] "_law_draw" (defScope s__law_draw) (He.ga K "_law_draw") cdv A outer s H E).xe := passes_of (X := cxOf (L2.CX P w) P w K mg base ["script", "town", "many"] "_law_draw" (defScope s__law_draw) (He.ga K "_law_draw") cdv A outer s H E) rfl
  have hu1 := hu_of hr
  exact (s_cons (s_expr (m_mut rfl 1 k_app (pe_bm PySem.F.plainAttrs_list PySem.F.slot_list_append PySem.F.type_list_append mt_append (pv 1) (m_cons m_int m_nil))))
    (s_one (s_ret (m_mod (m_frz (m_fdiv (m_frz (m_call ok__law_mix (hr.mono (by decide)) rfl T.g__law_mix k__law_mix b__law_mix tk (m_cons (m_var 0 (pv 0)) (m_cons (m_len rfl rfl T.z_len (m_var 1 (pv 1))) m_nil)))) m_int)) (m_var 2 (pv 2))))))
theorem ok__law_pick (T : Tx K mg) : ∃ fd, FnOk P w K mg base (L2.CX P w) 4 (He.ga K "_law_pick") fd ["script", "town", "some"] (spF (bs K) 3 F__law_pick) ∧ Binds K fd ["script", "town", "some"] [] ∧ PySem.W.keepIn K (.ref (He.ga K "_law_pick")) = true := by
  obtain ⟨fd, F⟩ := T.d__law_pick
  obtain ⟨fd__law_draw, ok__law_draw, b__law_draw, k__law_draw⟩ := ok__law_draw (P := P) (w := w) (base := base) T
  refine ⟨fd, fn_body F sc__law_pick (fun cdv A outer s H E hr => ?_), F.bindsN (fun _ _ _ _ _ _ us hl => match us, hl with | [_, _, _], _ => rfl), F.kp⟩
  have tk : Takes (cxOf (L2.CX P w) P w K mg base ["script", "town", "some"] "_law_pick" (defScope s__law_pick) (He.ga K "_law_pick") cdv A outer s H E) (WF E) := takes_of rfl rfl rfl rfl
  have po : PassesOwn (model P w) (A.deeper (PyProof.Rows.envOfC "_law_pick" (defScope s__law_pick) s.heap.objs.size (He.ga K "_law_pick") cdv)) (PyProof.Rows.envOfC "_law_pick" (defScope s__law_pick) s.heap.objs.size (He.ga K "_law_pick") cdv) (cxOf (L2.CX P w) P w K mg base ["script", "town", "some"] "_law_pick" (defScope s__law_pick) (He.ga K "_law_pick") cdv A outer s H E).xe := passes_of (X := cxOf (L2.CX P w) P w K mg base ["script", "town", "some"] "_law_pick" (defScope s__law_pick) (He.ga K "_law_pick") cdv A outer s H E) rfl
  have hu1 := hu_of hr
  exact (s_one (s_ret (m_idx rfl (m_var 2 (pv 2)) (m_frz (m_call ok__law_draw (hr.mono (by decide)) rfl T.g__law_draw k__law_draw b__law_draw tk (m_cons (m_var 0 (pv 0)) (m_cons (m_var 1 (pv 1)) (m_cons (m_len rfl rfl T.z_len (m_var 2 (pv 2))) m_nil))))))))
theorem ok__law_refusal (T : Tx K mg) : ∃ fd, FnOk P w K mg base (L2.CX P w) 1 (He.ga K "_law_refusal") fd ["caught"] (spF (bs K) 1 F__law_refusal) ∧ Binds K fd ["caught"] [] ∧ PySem.W.keepIn K (.ref (He.ga K "_law_refusal")) = true := by
  obtain ⟨fd, F⟩ := T.d__law_refusal
  refine ⟨fd, fn_body F sc__law_refusal (fun cdv A outer s H E hr => ?_), F.bindsN (fun _ _ _ _ _ _ us hl => match us, hl with | [_], _ => rfl), F.kp⟩
  have tk : Takes (cxOf (L2.CX P w) P w K mg base ["caught", "kinds", "words"] "_law_refusal" (defScope s__law_refusal) (He.ga K "_law_refusal") cdv A outer s H E) (WF E) := takes_of rfl rfl rfl rfl
  have po : PassesOwn (model P w) (A.deeper (PyProof.Rows.envOfC "_law_refusal" (defScope s__law_refusal) s.heap.objs.size (He.ga K "_law_refusal") cdv)) (PyProof.Rows.envOfC "_law_refusal" (defScope s__law_refusal) s.heap.objs.size (He.ga K "_law_refusal") cdv) (cxOf (L2.CX P w) P w K mg base ["caught", "kinds", "words"] "_law_refusal" (defScope s__law_refusal) (He.ga K "_law_refusal") cdv A outer s H E).xe := passes_of (X := cxOf (L2.CX P w) P w K mg base ["caught", "kinds", "words"] "_law_refusal" (defScope s__law_refusal) (He.ga K "_law_refusal") cdv A outer s H E) rfl
  have hu1 := hu_of hr
  exact (s_cons (s_if (m_tisN (m_var 0 (pv 0))) (s_one (s_ret (m_data (m_tup (m_cons m_str m_nil))))) s_nil)
    (s_cons (s_set (i := 1) sc__law_refusal.nd rfl (by first | exact Or.inl rfl | exact Or.inr rfl) (m_lst (m_cons (m_isi rfl 0 T.i_BadRow (pv 0) (pe_glob rfl (T.x_BadRow).g (v := .ref (exC K 0)) rfl) (fun _ h => h) rfl T.z_isinstance) (m_cons (m_isi rfl 0 T.i_BadRoom (pv 0) (pe_glob rfl (T.x_BadRoom).g (v := .ref (exC K 1)) rfl) (fun _ h => h) rfl T.z_isinstance) (m_cons (m_isi rfl 0 T.i_BadRule (pv 0) (pe_glob rfl (T.x_BadRule).g (v := .ref (exC K 2)) rfl) (fun _ h => h) rfl T.z_isinstance) m_nil)))))
    (s_cons (s_set (i := 1) sc__law_refusal.nd rfl (by first | exact Or.inl rfl | exact Or.inr rfl) (m_add (m_var 1 (pv 1)) (m_frz (m_lst (m_cons (m_isi rfl 0 T.i_BadPlan (pv 0) (pe_glob rfl (T.x_BadPlan).g (v := .ref (exC K 3)) rfl) (fun _ h => h) rfl T.z_isinstance) (m_cons (m_isi rfl 0 T.i_BadDepths (pv 0) (pe_glob rfl (T.x_BadDepths).g (v := .ref (exC K 4)) rfl) (fun _ h => h) rfl T.z_isinstance) (m_cons (m_isi rfl 0 T.i_BadTurns (pv 0) (pe_glob rfl (T.x_BadTurns).g (v := .ref (exC K 5)) rfl) (fun _ h => h) rfl T.z_isinstance) m_nil)))))))
    (s_cons (s_set (i := 1) sc__law_refusal.nd rfl (by first | exact Or.inl rfl | exact Or.inr rfl) (m_add (m_var 1 (pv 1)) (m_frz (m_lst (m_cons (m_isi rfl 0 T.i_BadAsk (pv 0) (pe_glob rfl (T.x_BadAsk).g (v := .ref (exC K 6)) rfl) (fun _ h => h) rfl T.z_isinstance) (m_cons (m_isi rfl 0 T.i_BadText (pv 0) (pe_glob rfl (T.x_BadText).g (v := .ref (exC K 7)) rfl) (fun _ h => h) rfl T.z_isinstance) m_nil))))))
    (s_cons (s_if (PW.pt (m_or (m_tcmp (o_ne hr.units) (tells_two _) (m_count rfl hr.units (m_var 1 (pv 1)) (m_cons m_bl m_nil) rfl (fun h1 h2 h3 => pe_bm PySem.F.plainAttrs_list PySem.F.slot_list_count PySem.F.type_list_count h1 h2 h3)) m_int (nomark _)) (m_or1 (m_not (m_test rfl (m_isi rfl 0 T.i_ValueError (pv 0) (pe_bltn rfl T.z_ValueError (by decide +kernel) (v := .ty "ValueError") rfl) (fun _ h => h) rfl T.z_isinstance)))))) (s_one (s_ret (m_data (m_tup (m_cons m_str m_nil))))) s_nil)
    (s_cons (s_set (i := 2) sc__law_refusal.nd rfl (by first | exact Or.inl rfl | exact Or.inr rfl) (m_lst (m_cons m_str (m_cons m_str (m_cons m_str (m_cons m_str (m_cons m_str (m_cons m_str (m_cons m_str (m_cons m_str m_nil))))))))))
    (s_one (s_ret (m_data (m_tup (m_cons m_str (m_cons (m_frz (m_idx rfl (m_var 2 (pv 2)) (m_index rfl hr.units (m_var 1 (pv 1)) (m_cons m_bl m_nil) (fun h1 h2 h3 => pe_bm PySem.F.plainAttrs_list PySem.F.slot_list_index PySem.F.type_list_index h1 h2 h3)))) m_nil))))))))))))
theorem ok__law_row (T : Tx K mg) : ∃ fd, FnOk P w K mg base (L2.CX P w) 4 (He.ga K "_law_row") fd ["script", "town", "most", "kinds"] (spF (bs K) 4 F__law_row) ∧ Binds K fd ["script", "town", "most", "kinds"] [] ∧ PySem.W.keepIn K (.ref (He.ga K "_law_row")) = true := by
  obtain ⟨fd, F⟩ := T.d__law_row
  obtain ⟨fd__law_draw, ok__law_draw, b__law_draw, k__law_draw⟩ := ok__law_draw (P := P) (w := w) (base := base) T
  refine ⟨fd, fn_body F sc__law_row (fun cdv A outer s H E hr => ?_), F.bindsN (fun _ _ _ _ _ _ us hl => match us, hl with | [_, _, _, _], _ => rfl), F.kp⟩
  have tk : Takes (cxOf (L2.CX P w) P w K mg base ["script", "town", "most", "kinds", "many", "found", "k", "name"] "_law_row" (defScope s__law_row) (He.ga K "_law_row") cdv A outer s H E) (WF E) := takes_of rfl rfl rfl rfl
  have po : PassesOwn (model P w) (A.deeper (PyProof.Rows.envOfC "_law_row" (defScope s__law_row) s.heap.objs.size (He.ga K "_law_row") cdv)) (PyProof.Rows.envOfC "_law_row" (defScope s__law_row) s.heap.objs.size (He.ga K "_law_row") cdv) (cxOf (L2.CX P w) P w K mg base ["script", "town", "most", "kinds", "many", "found", "k", "name"] "_law_row" (defScope s__law_row) (He.ga K "_law_row") cdv A outer s H E).xe := passes_of (X := cxOf (L2.CX P w) P w K mg base ["script", "town", "most", "kinds", "many", "found", "k", "name"] "_law_row" (defScope s__law_row) (He.ga K "_law_row") cdv A outer s H E) rfl
  have hu1 := hu_of hr
  exact (s_cons (s_set (i := 4) sc__law_row.nd rfl (by first | exact Or.inl rfl | exact Or.inr rfl) (m_add m_int (m_frz (m_call ok__law_draw (hr.mono (by decide)) rfl T.g__law_draw k__law_draw b__law_draw tk (m_cons (m_var 0 (pv 0)) (m_cons (m_var 1 (pv 1)) (m_cons (m_var 3 (pv 3)) m_nil)))))))
    (s_cons (s_set (i := 5) sc__law_row.nd rfl (by first | exact Or.inl rfl | exact Or.inr rfl) (m_lst m_nil))
    (s_cons (s_for (t := (.one 6)) rfl po rfl (i_range1 rfl T.z_range (m_cons (m_frz (m_call ok__law_draw (hr.mono (by decide)) rfl T.g__law_draw k__law_draw b__law_draw tk (m_cons (m_var 0 (pv 0)) (m_cons (m_var 1 (pv 1)) (m_cons (m_frz (m_add (m_var 2 (pv 2)) m_int)) m_nil))))) m_nil)) (pg_name (i := 6) sc__law_row.nd rfl (by first | exact Or.inl rfl | exact Or.inr rfl)) (s_cons (s_set (i := 7) sc__law_row.nd rfl (by first | exact Or.inl rfl | exact Or.inr rfl) (m_call ok__law_draw (hr.mono (by decide)) rfl T.g__law_draw k__law_draw b__law_draw tk (m_cons (m_var 0 (pv 0)) (m_cons (m_var 1 (pv 1)) (m_cons (m_var 4 (pv 4)) m_nil)))))
    (s_cons (s_if (PW.pt (m_and (m_tcmp (o_ne hr.units) (tells_two _) (m_var 5 (pv 5)) (m_frz (m_lst m_nil)) (nomark _)) (m_and1 (m_tcmp (o_eq hr.units) (tells_two _) (m_frz (m_call ok__law_draw (hr.mono (by decide)) rfl T.g__law_draw k__law_draw b__law_draw tk (m_cons (m_var 0 (pv 0)) (m_cons (m_var 1 (pv 1)) (m_cons m_int m_nil))))) m_int (nomark _))))) (s_one (s_set (i := 7) sc__law_row.nd rfl (by first | exact Or.inl rfl | exact Or.inr rfl) (m_idx rfl (m_var 5 (pv 5)) (m_frz (m_call ok__law_draw (hr.mono (by decide)) rfl T.g__law_draw k__law_draw b__law_draw tk (m_cons (m_var 0 (pv 0)) (m_cons (m_var 1 (pv 1)) (m_cons (m_len rfl rfl T.z_len (m_var 5 (pv 5))) m_nil)))))))) s_nil)
    (s_one (s_expr (m_mut rfl 5 k_app (pe_bm PySem.F.plainAttrs_list PySem.F.slot_list_append PySem.F.type_list_append mt_append (pv 5) (m_cons (m_var 7 (pv 7)) m_nil))))))))
    (s_one (s_retO 5 (pv 5))))))
theorem ok__law_told (T : Tx K mg) : ∃ fd, FnOk P w K mg base (L2.CX P w) 5 (He.ga K "_law_told") fd ["text"] (spF (bs K) 1 F__law_told) ∧ Binds K fd ["text"] [] ∧ PySem.W.keepIn K (.ref (He.ga K "_law_told")) = true := by
  obtain ⟨fd, F⟩ := T.d__law_told
  obtain ⟨fd__law_refusal, ok__law_refusal, b__law_refusal, k__law_refusal⟩ := ok__law_refusal (P := P) (w := w) (base := base) T
  obtain ⟨fd_read, ok_read, b_read, k_read⟩ := ok_read (P := P) (w := w) (base := base) T
  refine ⟨fd, fn_body F sc__law_told (fun cdv A outer s H E hr => ?_), F.bindsN (fun _ _ _ _ _ _ us hl => match us, hl with | [_], _ => rfl), F.kp⟩
  have tk : Takes (cxOf (L2.CX P w) P w K mg base ["text", "caught", "found", "e"] "_law_told" (defScope s__law_told) (He.ga K "_law_told") cdv A outer s H E) (WF E) := takes_of rfl rfl rfl rfl
  have po : PassesOwn (model P w) (A.deeper (PyProof.Rows.envOfC "_law_told" (defScope s__law_told) s.heap.objs.size (He.ga K "_law_told") cdv)) (PyProof.Rows.envOfC "_law_told" (defScope s__law_told) s.heap.objs.size (He.ga K "_law_told") cdv) (cxOf (L2.CX P w) P w K mg base ["text", "caught", "found", "e"] "_law_told" (defScope s__law_told) (He.ga K "_law_told") cdv A outer s H E).xe := passes_of (X := cxOf (L2.CX P w) P w K mg base ["text", "caught", "found", "e"] "_law_told" (defScope s__law_told) (He.ga K "_law_told") cdv A outer s H E) rfl
  have hu1 := hu_of hr
  exact (s_cons (s_set (i := 1) sc__law_told.nd rfl (by first | exact Or.inl rfl | exact Or.inr rfl) (m_data m_non))
    (s_cons (s_set (i := 2) sc__law_told.nd rfl (by first | exact Or.inl rfl | exact Or.inr rfl) (m_data m_non))
    (s_cons (s_try (j := 1) (i := 3) rfl rfl rfl rfl sc__law_told.nd rfl rfl ⟨rfl, by decide, .inl T.gc_RoomError⟩ tk T.e_RoomError rfl rfl (fun _ _ _ tk' po' => (s_one (s_set (i := 2) sc__law_told.nd rfl (by first | exact Or.inl rfl | exact Or.inr rfl) (m_call ok_read (hr.mono (by decide)) rfl T.g_read k_read b_read tk' (m_cons (m_var 0 (pv 0)) m_nil))))) (fun _ _ _ => ps_set (i := 1) sc__law_told.nd rfl (Or.inl rfl) (pv 3)))
    (s_one (s_share 2 (s_ret (m_ifV (m_tisN (m_var 1 (pv 1))) (m_data (m_var 2 (pv 2))) (m_call ok__law_refusal (hr.mono (by decide)) rfl T.g__law_refusal k__law_refusal b__law_refusal tk (m_cons (m_var 1 (pv 1)) m_nil)))))))))
theorem ok__law_text (T : Tx K mg) : ∃ fd, FnOk P w K mg base (L2.CX P w) 1 (He.ga K "_law_text") fd ["row"] (spF (bs K) 1 F__law_text) ∧ Binds K fd ["row"] [] ∧ PySem.W.keepIn K (.ref (He.ga K "_law_text")) = true := by
  obtain ⟨fd, F⟩ := T.d__law_text
  refine ⟨fd, fn_body F sc__law_text (fun cdv A outer s H E hr => ?_), F.bindsN (fun _ _ _ _ _ _ us hl => match us, hl with | [_], _ => rfl), F.kp⟩
  have tk : Takes (cxOf (L2.CX P w) P w K mg base ["row", "words", "k", "j"] "_law_text" (defScope s__law_text) (He.ga K "_law_text") cdv A outer s H E) (WF E) := takes_of rfl rfl rfl rfl
  have po : PassesOwn (model P w) (A.deeper (PyProof.Rows.envOfC "_law_text" (defScope s__law_text) s.heap.objs.size (He.ga K "_law_text") cdv)) (PyProof.Rows.envOfC "_law_text" (defScope s__law_text) s.heap.objs.size (He.ga K "_law_text") cdv) (cxOf (L2.CX P w) P w K mg base ["row", "words", "k", "j"] "_law_text" (defScope s__law_text) (He.ga K "_law_text") cdv A outer s H E).xe := passes_of (X := cxOf (L2.CX P w) P w K mg base ["row", "words", "k", "j"] "_law_text" (defScope s__law_text) (He.ga K "_law_text") cdv A outer s H E) rfl
  have hu1 := hu_of hr
  exact (s_cons (s_set (i := 1) sc__law_text.nd rfl (by first | exact Or.inl rfl | exact Or.inr rfl) (m_lst m_nil))
    (s_cons (s_set (i := 2) sc__law_text.nd rfl (by first | exact Or.inl rfl | exact Or.inr rfl) (m_data m_int))
    (s_cons (s_while 100 po (m_tcmp op_lt t_lt (m_var 2 (pv 2)) (m_len rfl rfl T.z_len (m_var 0 (pv 0))) (nomark _)) (s_cons (s_set (i := 3) sc__law_text.nd rfl (by first | exact Or.inl rfl | exact Or.inr rfl) (m_data (m_var 2 (pv 2))))
    (s_cons (s_while 100 po (PW.pt (m_and (m_tcmp op_lt t_lt (m_var 3 (pv 3)) (m_len rfl rfl T.z_len (m_var 0 (pv 0))) (nomark _)) (m_and1 (m_tcmp (o_eq hr.units) (tells_two _) (m_frz (m_idx rfl (m_var 0 (pv 0)) (m_var 3 (pv 3)))) (m_frz (m_idx rfl (m_var 0 (pv 0)) (m_var 2 (pv 2)))) (nomark _))))) (s_one (s_set (i := 3) sc__law_text.nd rfl (by first | exact Or.inl rfl | exact Or.inr rfl) (m_add (m_var 3 (pv 3)) m_int))))
    (s_cons (s_expr (m_mut rfl 1 k_app (pe_bm PySem.F.plainAttrs_list PySem.F.slot_list_append PySem.F.type_list_append mt_append (pv 1) (m_cons (m_frz (m_add (m_frz (m_strc rfl T.z_str (m_cons (m_frz (m_idx rfl (m_var 0 (pv 0)) (m_var 2 (pv 2)))) m_nil))) (m_frz (m_idx rfl (m_frz (m_lst (m_cons m_str (m_cons (m_frz (m_add m_str (m_frz (m_strc rfl T.z_str (m_cons (m_frz (m_sub (m_var 3 (pv 3)) (m_var 2 (pv 2)))) m_nil))))) m_nil)))) (m_frz (m_intc rfl T.z_int (m_cons (m_gt (m_frz (m_sub (m_var 3 (pv 3)) (m_var 2 (pv 2)))) m_int) m_nil))))))) m_nil))))
    (s_one (s_set (i := 2) sc__law_text.nd rfl (by first | exact Or.inl rfl | exact Or.inr rfl) (m_data (m_var 3 (pv 3)))))))))
    (s_one (s_ret (m_data (m_join rfl m_str (m_var 1 (pv 1)))))))))
theorem ok__law_read (T : Tx K mg) : ∃ fd, FnOk P w K mg base (L2.CX P w) 2 (He.ga K "_law_read") fd ["text"] (spF (bs K) 1 F__law_read) ∧ Binds K fd ["text"] [] ∧ PySem.W.keepIn K (.ref (He.ga K "_law_read")) = true := by
  obtain ⟨fd, F⟩ := T.d__law_read
  obtain ⟨fd__law_text, ok__law_text, b__law_text, k__law_text⟩ := ok__law_text (P := P) (w := w) (base := base) T
  refine ⟨fd, fn_body F sc__law_read (fun cdv A outer s H E hr => ?_), F.bindsN (fun _ _ _ _ _ _ us hl => match us, hl with | [_], _ => rfl), F.kp⟩
  have tk : Takes (cxOf (L2.CX P w) P w K mg base ["text", "numbers", "k", "found", "word", "parts", "part"] "_law_read" (defScope s__law_read) (He.ga K "_law_read") cdv A outer s H E) (WF E) := takes_of rfl rfl rfl rfl
  have po : PassesOwn (model P w) (A.deeper (PyProof.Rows.envOfC "_law_read" (defScope s__law_read) s.heap.objs.size (He.ga K "_law_read") cdv)) (PyProof.Rows.envOfC "_law_read" (defScope s__law_read) s.heap.objs.size (He.ga K "_law_read") cdv) (cxOf (L2.CX P w) P w K mg base ["text", "numbers", "k", "found", "word", "parts", "part"] "_law_read" (defScope s__law_read) (He.ga K "_law_read") cdv A outer s H E).xe := passes_of (X := cxOf (L2.CX P w) P w K mg base ["text", "numbers", "k", "found", "word", "parts", "part"] "_law_read" (defScope s__law_read) (He.ga K "_law_read") cdv A outer s H E) rfl
  have hu1 := hu_of hr
  exact (s_cons (s_set (i := 1) sc__law_read.nd rfl (by first | exact Or.inl rfl | exact Or.inr rfl) m_newK)
    (s_cons (s_for (t := (.one 2)) rfl po rfl (i_range1 rfl T.z_range (m_cons m_int m_nil)) (pg_name (i := 2) sc__law_read.nd rfl (by first | exact Or.inl rfl | exact Or.inr rfl)) (s_one (s_putK hu1 1 (pv 1) (m_var 2 (pv 2)) (m_frz (m_strc rfl T.z_str (m_cons (m_var 2 (pv 2)) m_nil))))))
    (s_cons (s_set (i := 3) sc__law_read.nd rfl (by first | exact Or.inl rfl | exact Or.inr rfl) (m_lst m_nil))
    (s_cons (s_if (m_tcmp (o_eq hr.units) (tells_two _) (m_var 0 (pv 0)) m_str (nomark _)) (s_one (s_retO 3 (pv 3))) s_nil)
    (s_cons (s_for (t := (.one 4)) rfl po rfl (i_list rfl (m_frz (m_split rfl (m_var 0 (pv 0)) m_str))) (pg_name (i := 4) sc__law_read.nd rfl (by first | exact Or.inl rfl | exact Or.inr rfl)) (s_cons (s_set (i := 5) sc__law_read.nd rfl (by first | exact Or.inl rfl | exact Or.inr rfl) (m_split rfl (m_var 4 (pv 4)) m_str))
    (s_cons (s_share 5 (s_if (PW.pt (m_or (m_tcmp op_gt t_gt (m_len rfl rfl T.z_len (m_var 5 (pv 5))) m_int (nomark _)) (m_or (m_tcmp (o_ne hr.units) (tells_two _) (m_frz (m_lc (t := (.one 6)) rfl rfl rfl sc__law_read.nd (i_list rfl (m_var 5 (pv 5))) (blkOk_by (own := [("part", 6)]) (by kernel_rfl)) (fun _ _ _ _ _ => (pg_name (i := 6) sc__law_read.nd rfl (by first | exact Or.inl rfl | exact Or.inr rfl))) (fun _ _ _ _ _ => (ts_one (m_tinKN hu1 1 (m_var 6 (pv 6)) (pv 1)))) (fun _ _ _ _ _ => (m_var 6 (pv 6))))) (m_frz (m_lst m_nil)) (nomark _)) (m_or1 (m_tcmp op_gt t_gt (m_getK hu1 (fun _ _ => rfl) 1 (pv 1) (m_frz (m_idx rfl (m_var 5 (pv 5)) m_int))) m_int (nomark _)))))) (s_one (s_ret (m_data m_non))) s_nil))
    (s_one (s_set (i := 3) sc__law_read.nd rfl (by first | exact Or.inl rfl | exact Or.inr rfl) (m_add (m_var 3 (pv 3)) (m_frz (m_mul (m_frz (m_lst (m_cons (m_getK hu1 (fun _ _ => rfl) 1 (pv 1) (m_frz (m_idx rfl (m_var 5 (pv 5)) m_int))) m_nil))) (m_ifE (m_tcmp (o_eq hr.units) (tells_two _) (m_len rfl rfl T.z_len (m_var 5 (pv 5))) m_int (nomark _)) (m_getK hu1 (fun _ _ => rfl) 1 (pv 1) (m_frz (m_idx rfl (m_var 5 (pv 5)) m_int))) m_int)))))))))
    (s_one (s_share 3 (s_ret (m_ifV (PW.pt (m_and (m_tcmp op_le t_le (m_len rfl rfl T.z_len (m_var 3 (pv 3))) m_int (nomark _)) (m_and1 (m_tcmp (o_eq hr.units) (tells_two _) (m_frz (m_call ok__law_text (hr.mono (by decide)) rfl T.g__law_text k__law_text b__law_text tk (m_cons (m_var 3 (pv 3)) m_nil))) (m_var 0 (pv 0)) (nomark _))))) (m_data (m_var 3 (pv 3))) (m_data m_non))))))))))
theorem okF_law {fd : FuncData} (T : Tx K mg) (F : FunD K "law" "law" (defArgs s_law) (defBody s_law) (defScope s_law) [] [] (He.ga K "law") fd) : FnOk P w K mg base (L2.CX P w) 6 (He.ga K "law") fd ["script"] (spF (bs K) 1 F_law) := by
  obtain ⟨fd__law_draw, ok__law_draw, b__law_draw, k__law_draw⟩ := ok__law_draw (P := P) (w := w) (base := base) T
  obtain ⟨fd__law_pick, ok__law_pick, b__law_pick, k__law_pick⟩ := ok__law_pick (P := P) (w := w) (base := base) T
  obtain ⟨fd__law_read, ok__law_read, b__law_read, k__law_read⟩ := ok__law_read (P := P) (w := w) (base := base) T
  obtain ⟨fd__law_row, ok__law_row, b__law_row, k__law_row⟩ := ok__law_row (P := P) (w := w) (base := base) T
  obtain ⟨fd__law_text, ok__law_text, b__law_text, k__law_text⟩ := ok__law_text (P := P) (w := w) (base := base) T
  obtain ⟨fd__law_told, ok__law_told, b__law_told, k__law_told⟩ := ok__law_told (P := P) (w := w) (base := base) T
  obtain ⟨fd_written, ok_written, b_written, k_written⟩ := ok_written (P := P) (w := w) (base := base) T
  refine fn_body F sc_law (fun cdv A outer s H E hr => ?_)
  have tk : Takes (cxOf (L2.CX P w) P w K mg base ["script", "town", "row", "k", "text", "at", "sign", "due"] "law" (defScope s_law) (He.ga K "law") cdv A outer s H E) (WF E) := takes_of rfl rfl rfl rfl
  have po : PassesOwn (model P w) (A.deeper (PyProof.Rows.envOfC "law" (defScope s_law) s.heap.objs.size (He.ga K "law") cdv)) (PyProof.Rows.envOfC "law" (defScope s_law) s.heap.objs.size (He.ga K "law") cdv) (cxOf (L2.CX P w) P w K mg base ["script", "town", "row", "k", "text", "at", "sign", "due"] "law" (defScope s_law) (He.ga K "law") cdv A outer s H E).xe := passes_of (X := cxOf (L2.CX P w) P w K mg base ["script", "town", "row", "k", "text", "at", "sign", "due"] "law" (defScope s_law) (He.ga K "law") cdv A outer s H E) rfl
  have hu1 := hu_of hr
  exact (s_cons (s_set (i := 1) sc_law.nd rfl (by first | exact Or.inl rfl | exact Or.inr rfl) (m_lst m_nil))
    (s_cons (s_set (i := 2) sc_law.nd rfl (by first | exact Or.inl rfl | exact Or.inr rfl) (m_call ok__law_row (hr.mono (by decide)) rfl T.g__law_row k__law_row b__law_row tk (m_cons (m_var 0 (pv 0)) (m_cons (m_var 1 (pv 1)) (m_cons m_int (m_cons m_int m_nil))))))
    (s_cons (s_for (t := (.one 3)) rfl po rfl (i_range1 rfl T.z_range (m_cons (m_frz (m_sub (m_len rfl rfl T.z_len (m_var 2 (pv 2))) m_int)) m_nil)) (pg_name (i := 3) sc_law.nd rfl (by first | exact Or.inl rfl | exact Or.inr rfl)) (s_one (s_if (m_tcmp (o_eq hr.units) (tells_two _) (m_frz (m_call ok__law_draw (hr.mono (by decide)) rfl T.g__law_draw k__law_draw b__law_draw tk (m_cons (m_var 0 (pv 0)) (m_cons (m_var 1 (pv 1)) (m_cons m_int m_nil))))) m_int (nomark _)) (s_one (s_setIt 2 (ps_asg (m_frz (m_idx rfl (m_var 2 (pv 2)) (m_var 3 (pv 3)))) (pg_sub (pv 2) (m_frz (m_add (m_var 3 (pv 3)) m_int)) set_list)))) s_nil)))
    (s_cons (s_share 2 (s_set (i := 4) sc_law.nd rfl (by first | exact Or.inl rfl | exact Or.inr rfl) (m_call ok__law_text (hr.mono (by decide)) rfl T.g__law_text k__law_text b__law_text tk (m_cons (m_var 2 (pv 2)) m_nil))))
    (s_cons (s_share 2 (s_share 4 (s_if (PW.pt (m_or (m_tcmp (o_ne hr.units) (tells_two _) (m_frz (m_call ok_written (hr.mono (by decide)) rfl T.g_written k_written b_written tk (m_cons (m_var 2 (pv 2)) m_nil))) (m_var 4 (pv 4)) (nomark _)) (m_or1 (m_tcmp (o_ne hr.units) (tells_two _) (m_frz (m_call ok__law_told (hr.mono (by decide)) rfl T.g__law_told k__law_told b__law_told tk (m_cons (m_var 4 (pv 4)) m_nil))) (m_var 2 (pv 2)) (nomark _))))) (s_one (s_ret (m_data m_bl))) s_nil)))
    (s_cons (s_for (t := (.one 3)) rfl po rfl (i_range1 rfl T.z_range (m_cons m_int m_nil)) (pg_name (i := 3) sc_law.nd rfl (by first | exact Or.inl rfl | exact Or.inr rfl)) (s_cons (s_set (i := 5) sc_law.nd rfl (by first | exact Or.inl rfl | exact Or.inr rfl) (m_call ok__law_draw (hr.mono (by decide)) rfl T.g__law_draw k__law_draw b__law_draw tk (m_cons (m_var 0 (pv 0)) (m_cons (m_var 1 (pv 1)) (m_cons (m_frz (m_add (m_len rfl rfl T.z_len (m_var 4 (pv 4))) m_int)) m_nil)))))
    (s_cons (s_set (i := 6) sc_law.nd rfl (by first | exact Or.inl rfl | exact Or.inr rfl) (m_call ok__law_pick (hr.mono (by decide)) rfl T.g__law_pick k__law_pick b__law_pick tk (m_cons (m_var 0 (pv 0)) (m_cons (m_var 1 (pv 1)) (m_cons (m_frz (m_lst (m_cons m_str (m_cons m_str (m_cons m_str (m_cons m_str (m_cons m_str (m_cons m_str (m_cons m_str (m_cons m_str (m_cons m_str (m_cons m_str m_nil)))))))))))) m_nil)))))
    (s_cons (s_set (i := 4) sc_law.nd rfl (by first | exact Or.inl rfl | exact Or.inr rfl) (m_add (m_frz (m_add (m_frz (m_slice rfl sl_any (m_var 4 (pv 4)) p_none (p_some (m_var 5 (pv 5))))) (m_var 6 (pv 6)))) (m_frz (m_slice rfl sl_any (m_var 4 (pv 4)) (p_some (m_frz (m_add (m_var 5 (pv 5)) (m_frz (m_call ok__law_draw (hr.mono (by decide)) rfl T.g__law_draw k__law_draw b__law_draw tk (m_cons (m_var 0 (pv 0)) (m_cons (m_var 1 (pv 1)) (m_cons m_int m_nil)))))))) p_none))))
    (s_cons (s_share 4 (s_set (i := 7) sc_law.nd rfl (by first | exact Or.inl rfl | exact Or.inr rfl) (m_call ok__law_read (hr.mono (by decide)) rfl T.g__law_read k__law_read b__law_read tk (m_cons (m_var 4 (pv 4)) m_nil))))
    (s_one (s_share 7 (s_share 4 (s_if (m_tcmp (o_ne hr.units) (tells_two _) (m_frz (m_call ok__law_told (hr.mono (by decide)) rfl T.g__law_told k__law_told b__law_told tk (m_cons (m_var 4 (pv 4)) m_nil))) (m_frz (m_ifV (m_tnotN (m_var 7 (pv 7))) (m_data (m_var 7 (pv 7))) (m_data (m_tup (m_cons m_str (m_cons m_str m_nil)))))) (nomark _)) (s_one (s_ret (m_data m_bl))) s_nil)))))))))
    (s_cons (s_if (PW.pt (m_or (m_tcmp (o_ne hr.units) (tells_two _) (m_frz (m_call ok__law_told (hr.mono (by decide)) rfl T.g__law_told k__law_told b__law_told tk (m_cons m_str m_nil))) (m_tup (m_cons m_str (m_cons m_str m_nil))) (nomark _)) (m_or1 (m_tcmp (o_ne hr.units) (tells_two _) (m_frz (m_call ok__law_told (hr.mono (by decide)) rfl T.g__law_told k__law_told b__law_told tk (m_cons m_str m_nil))) (m_frz (m_mul (m_frz (m_lst (m_cons m_int m_nil))) m_int)) (nomark _))))) (s_one (s_ret (m_data m_bl))) s_nil)
    (s_one (s_share 4 (s_ret (m_data (m_eq hr.units rfl (m_frz (m_lc (t := (.one 4)) rfl rfl rfl sc_law.nd (i_list rfl (m_frz (m_lst (m_cons m_str (m_cons m_str (m_cons m_str m_nil)))))) (blkOk_by (own := [("text", 4)]) (by kernel_rfl)) (fun _ _ _ _ _ => (pg_name (i := 4) sc_law.nd rfl (by first | exact Or.inl rfl | exact Or.inr rfl))) (fun _ _ _ _ _ => ts_nil) (fun _ _ _ _ _ => (m_frz (m_call ok__law_told (hr.mono (by decide)) rfl T.g__law_told k__law_told b__law_told takes0 (m_cons (m_var 4 (pv 4)) m_nil)))))) (m_frz (m_mul (m_frz (m_lst (m_cons (m_tup (m_cons m_str (m_cons m_str m_nil))) m_nil))) m_int))))))))))))))
end
/-! the head -/
def fa : List (Fg → Bool) := [fun K => He.Fa.ok K (.free "ValueError"),
  fun K => He.Fa.ok K (.free "all"),
  fun K => He.Fa.ok K (.free "int"),
  fun K => He.Fa.ok K (.free "isinstance"),
  fun K => He.Fa.ok K (.free "len"),
  fun K => He.Fa.ok K (.free "range"),
  fun K => He.Fa.ok K (.free "str"),
  fun K => He.Fa.ok K (.str "FIGURES" "0123456789"),
  fun K => He.Fa.ok K (.int "MOST_ASKS" 24),
  fun K => He.Fa.ok K (.int "MOST_NAME" 19),
  fExc 0,
  fExc 1,
  fExc 2,
  fExc 3,
  fExc 4,
  fExc 5,
  fExc 6,
  fExc 7,
  fAll,
  fKit (fun K => .ref (exC K 6)) (is8 6),
  fKit (fun K => .ref (exC K 4)) (is8 4),
  fKit (fun K => .ref (exC K 3)) (is8 3),
  fKit (fun K => .ref (exC K 1)) (is8 1),
  fKit (fun K => .ref (exC K 0)) (is8 0),
  fKit (fun K => .ref (exC K 2)) (is8 2),
  fKit (fun K => .ref (exC K 7)) (is8 7),
  fKit (fun K => .ref (exC K 5)) (is8 5),
  fKit (fun _ => .type "ValueError") (fun _ => true),
  fun K => He.Fa.ok K (.glo "RoomError"),
  fExm (fun K => .ref (He.ga K "RoomError")) g_RoomError,
  fun K => He.Fa.ok K (.glo "look_name"),
  fun K => He.Fa.ok K (.glo "look_row"),
  fun K => He.Fa.ok K (.glo "written"),
  fun K => He.Fa.ok K (.glo "number_in"),
  fun K => He.Fa.ok K (.glo "read"),
  fun K => He.Fa.ok K (.glo "_law_cell"),
  fun K => He.Fa.ok K (.glo "_law_mix"),
  fun K => He.Fa.ok K (.glo "_law_draw"),
  fun K => He.Fa.ok K (.glo "_law_pick"),
  fun K => He.Fa.ok K (.glo "_law_refusal"),
  fun K => He.Fa.ok K (.glo "_law_row"),
  fun K => He.Fa.ok K (.glo "_law_told"),
  fun K => He.Fa.ok K (.glo "_law_text"),
  fun K => He.Fa.ok K (.glo "_law_read"),
  fun K => He.Fa.ok K (.glo "law"),
  fun K => !He.Fa.ok K (.glo "most_held")]
def fn : List He.DefD := [⟨("look_name", none), "look_name", "look_name", defArgs s_look_name, defBody s_look_name, defScope s_look_name, [], []⟩,
  ⟨("look_row", none), "look_row", "look_row", defArgs s_look_row, defBody s_look_row, defScope s_look_row, [], []⟩,
  ⟨("written", none), "written", "written", defArgs s_written, defBody s_written, defScope s_written, [], []⟩,
  ⟨("number_in", none), "number_in", "number_in", defArgs s_number_in, defBody s_number_in, defScope s_number_in, [], []⟩,
  ⟨("read", none), "read", "read", defArgs s_read, defBody s_read, defScope s_read, [], []⟩,
  ⟨("_law_cell", none), "_law_cell", "_law_cell", defArgs s__law_cell, defBody s__law_cell, defScope s__law_cell, [], []⟩,
  ⟨("_law_mix", none), "_law_mix", "_law_mix", defArgs s__law_mix, defBody s__law_mix, defScope s__law_mix, [], []⟩,
  ⟨("_law_draw", none), "_law_draw", "_law_draw", defArgs s__law_draw, defBody s__law_draw, defScope s__law_draw, [], []⟩,
  ⟨("_law_pick", none), "_law_pick", "_law_pick", defArgs s__law_pick, defBody s__law_pick, defScope s__law_pick, [], []⟩,
  ⟨("_law_refusal", none), "_law_refusal", "_law_refusal", defArgs s__law_refusal, defBody s__law_refusal, defScope s__law_refusal, [], []⟩,
  ⟨("_law_row", none), "_law_row", "_law_row", defArgs s__law_row, defBody s__law_row, defScope s__law_row, [], []⟩,
  ⟨("_law_told", none), "_law_told", "_law_told", defArgs s__law_told, defBody s__law_told, defScope s__law_told, [], []⟩,
  ⟨("_law_text", none), "_law_text", "_law_text", defArgs s__law_text, defBody s__law_text, defScope s__law_text, [], []⟩,
  ⟨("_law_read", none), "_law_read", "_law_read", defArgs s__law_read, defBody s__law_read, defScope s__law_read, [], []⟩,
  ⟨("law", none), "law", "law", defArgs s_law, defBody s_law, defScope s_law, [], []⟩]
theorem tx {K : Fg} {h : Heap} {mg : Str → Option Value} (X : K.In h) (G : h.Ns mainGlobals mg) (c : SaysM fa fn K) : Tx K mg where
  z_ValueError := He.free_ok X G (c.fact 0)
  z_all := He.free_ok X G (c.fact 1)
  z_int := He.free_ok X G (c.fact 2)
  z_isinstance := He.free_ok X G (c.fact 3)
  z_len := He.free_ok X G (c.fact 4)
  z_range := He.free_ok X G (c.fact 5)
  z_str := He.free_ok X G (c.fact 6)
  c_FIGURES := He.str_ok X G (c.fact 7)
  c_MOST_ASKS := He.int_ok X G (c.fact 8)
  c_MOST_NAME := He.int_ok X G (c.fact 9)
  x_BadRow := exFact X G (c.fact 10)
  x_BadRoom := exFact X G (c.fact 11)
  x_BadRule := exFact X G (c.fact 12)
  x_BadPlan := exFact X G (c.fact 13)
  x_BadDepths := exFact X G (c.fact 14)
  x_BadTurns := exFact X G (c.fact 15)
  x_BadAsk := exFact X G (c.fact 16)
  x_BadText := exFact X G (c.fact 17)
  i_BadAsk := fKit_of (cv := fun K => .ref (exC K 6)) (is8_ge 6) (c.fact 18) (c.fact 19)
  i_BadDepths := fKit_of (cv := fun K => .ref (exC K 4)) (is8_ge 4) (c.fact 18) (c.fact 20)
  i_BadPlan := fKit_of (cv := fun K => .ref (exC K 3)) (is8_ge 3) (c.fact 18) (c.fact 21)
  i_BadRoom := fKit_of (cv := fun K => .ref (exC K 1)) (is8_ge 1) (c.fact 18) (c.fact 22)
  i_BadRow := fKit_of (cv := fun K => .ref (exC K 0)) (is8_ge 0) (c.fact 18) (c.fact 23)
  i_BadRule := fKit_of (cv := fun K => .ref (exC K 2)) (is8_ge 2) (c.fact 18) (c.fact 24)
  i_BadText := fKit_of (cv := fun K => .ref (exC K 7)) (is8_ge 7) (c.fact 18) (c.fact 25)
  i_BadTurns := fKit_of (cv := fun K => .ref (exC K 5)) (is8_ge 5) (c.fact 18) (c.fact 26)
  i_ValueError := fKit_of (cv := fun _ => .type "ValueError") (fun _ _ => rfl) (c.fact 18) (c.fact 27)
  gc_RoomError := He.glo_ok X G (c.fact 28)
  e_RoomError := fExm_of (cv := fun K => .ref (He.ga K "RoomError")) (fun _ _ => rfl) (c.fact 29)
  g_look_name := He.glo_ok X G (c.fact 30)
  g_look_row := He.glo_ok X G (c.fact 31)
  g_written := He.glo_ok X G (c.fact 32)
  g_number_in := He.glo_ok X G (c.fact 33)
  g_read := He.glo_ok X G (c.fact 34)
  g__law_cell := He.glo_ok X G (c.fact 35)
  g__law_mix := He.glo_ok X G (c.fact 36)
  g__law_draw := He.glo_ok X G (c.fact 37)
  g__law_pick := He.glo_ok X G (c.fact 38)
  g__law_refusal := He.glo_ok X G (c.fact 39)
  g__law_row := He.glo_ok X G (c.fact 40)
  g__law_told := He.glo_ok X G (c.fact 41)
  g__law_text := He.glo_ok X G (c.fact 42)
  g__law_read := He.glo_ok X G (c.fact 43)
  g_law := He.glo_ok X G (c.fact 44)
  lamNo := (c.fact 45)
  d_look_name := c.def_ 0
  d_look_row := c.def_ 1
  d_written := c.def_ 2
  d_number_in := c.def_ 3
  d_read := c.def_ 4
  d__law_cell := c.def_ 5
  d__law_mix := c.def_ 6
  d__law_draw := c.def_ 7
  d__law_pick := c.def_ 8
  d__law_refusal := c.def_ 9
  d__law_row := c.def_ 10
  d__law_told := c.def_ 11
  d__law_text := c.def_ 12
  d__law_read := c.def_ 13
  d_law := c.def_ 14
abbrev R : PySem.W.OpenRow := PySem.W.OpenLaw.row PySem.Challenge.rw_allrooms_k02_whole_texts
abbrev hk : PySem.W.Hook := hookM 5 fa fn
def ob (s : PySem.W.SharedT) : He.AlD := obsMG 5 fa fn (HandSHeadRun.getT s)
theorem ob_eq (s : PySem.W.SharedT) : ob s = hk.obs s.abs := obsMG_eq (HandSHeadRun.getT_eq s)
def loose : List Str := "RoomError" :: "BadRow" :: "BadRoom" :: "BadRule" :: "BadPlan" :: "BadDepths" :: "BadTurns" :: "BadAsk" :: "BadText" :: "MOST_ASKS" :: "MOST_NAME" :: "look_name" :: "look_row" :: "FIGURES" :: "written" :: "number_in" :: "read" :: "_law_cell" :: "_law_mix" :: "_law_draw" :: "_law_pick" :: "_law_refusal" :: "_law_row" :: "_law_told" :: "_law_text" :: "_law_read" :: []
theorem run (w : World) : HandSHeadRun.RunEq R (PySem.W.view R.prog [30]) hk ob 4000 loose w := by
  intro os
  kernel_rfl
end
end K02
namespace G8
open PySem L2
/-! what the common parts of the laws do -/
theorem draw_eq (ns : List Int) (xs : List Dt) (m : Int) (hm : 0 < m) (hk : xs.length < 999999) : F__law_draw [.scr ns, .ls true xs, .d (.int m)] = .ok (.d (.int (drw ns (xs.length + 1) m))) [none, some (.ls true (xs ++ [.int 0])), none] := Fdraw_eq ns xs m hm hk
def wordN : Nat → Str
  | 0 => "row"
  | 1 => "room"
  | 2 => "rule"
  | 3 => "plan"
  | 4 => "depths"
  | 5 => "turns"
  | 6 => "ask"
  | _ => "text"
def refD (k : Nat) : Dt := .tuple [.str "refused", .str (wordN k)]
theorem refusal_eq (k : Nat) (h : k < 8) : F__law_refusal [.ex k] = .ok (.d (refD k)) [none] := by
  match k, h with
  | 0, _ => rfl
  | 1, _ => rfl
  | 2, _ => rfl
  | 3, _ => rfl
  | 4, _ => rfl
  | 5, _ => rfl
  | 6, _ => rfl
  | 7, _ => rfl
  | k + 8, h => omega
/-! depths.how_many -/
def stir : Nat → Nat → Nat
  | 0, 0 => 1
  | 0, _ + 1 => 0
  | _ + 1, 0 => 0
  | k + 1, m + 1 => stir k (m + 1) * (m + 1) + stir k m
theorem stir_big : ∀ (k m : Nat), k < m → stir k m = 0
  | 0, m + 1, _ => rfl
  | k + 1, m + 1, h => by
    rw [stir, stir_big k (m + 1) (by omega), stir_big k m (by omega)]
    simp
def ways (k f : Nat) : List Dt := (List.range (f + 1)).map fun m => PyData.int ((stir k m : Nat) : Int)
theorem ways_len (k f : Nat) : (ways k f).length = f + 1 := by simp [ways]
theorem ways_at (k f m : Nat) (h : m ≤ f) : atI (ways k f) (m : Int) = some (.int (stir k m : Nat)) := by
  rw [G8.atI_nat, ways, List.getElem?_map, List.getElem?_range (by omega)]
  rfl
theorem ways0 (f : Nat) : PyData.int 1 :: List.replicate f (PyData.int 0) = ways 0 f := by
  apply List.ext_getElem?
  intro i
  cases i with
  | zero => simp [ways, stir]
  | succ i =>
    by_cases h : i < f
    · simp [ways, List.getElem?_replicate, h, stir]
    · simp [ways, List.getElem?_replicate, h]
theorem how_step (f a k m : Nat) (x3 : Option Sv) (hm : m ≤ f) (hf : f ≤ 20) : stepL (.one 4) (retM true) e_how_many_1 (.int (m : Int)) [some (.d (.int f)), some (.d (.int a)), some (.ls false (ways k f)), x3, none]
    = .ok (some (.int (stir (k + 1) m : Nat))) [some (.d (.int f)), some (.d (.int a)), some (.ls false (ways k f)), x3, none] := by
  have sm : G8.small64 (m : Int) = true := small_nat (by omega)
  have w1 := ways_at k f m hm
  cases m with
  | zero =>
    simp at sm w1
    simp [stepL_ap, e_how_many_1, w1, sm, stir]
  | succ m =>
    have w2 := ways_at k f m (by omega)
    have e1 : ((m : Int) + 1 - 1) = m := by omega
    simp at w1 sm
    have p1 : (0 : Int) < (m : Int) + 1 := by omega
    simp [stepL_ap, e_how_many_1, w1, sm, w2, e1, stir, p1]
theorem how_ok (f a : Nat) (ha : a ≤ 24) (hf : f ≤ a) (hf2 : f ≤ 20) : F_how_many [.d (.int f), .d (.int a)] = .ok (.d (.int (stir a f : Nat))) [none, none] := by
  have hm : mid (a : Int) = true := mid_nat (by omega)
  have hm1 : mid ((f : Int) + 1) = true := mid_nat (n := f + 1) (by omega)
  have c0 : (a : Int) ≤ 24 := by omega
  have c1 : (f : Int) ≤ (if (20 : Int) < (a : Int) then (20 : Int) else (a : Int)) := by split <;> omega
  have c2 : (f : Int) ≤ 1000 := by omega
  have c3 : mid (f : Int) = true := mid_nat (by omega)
  have c5 : (List.replicate f [PyData.int 0]).flatten = List.replicate f (PyData.int 0) := by simp
  have c4 : 1 + f ≤ 1000000 := by omega
  have t1 : ((f : Int) + 1).toNat = f + 1 := by omega
  have wl := ways_at a f f (Nat.le_refl f)
  obtain ⟨ρ', h1, x3, h2, h3⟩ := forL_inv (t := .one 3) (body := b_how_many_1) (fun (i : Nat) => PyData.int (i : Int)) (fun k ρ => ∃ x3, ownAt (some x3) = false ∧ ρ = [some (.d (.int f)), some (.d (.int a)), some (.ls false (ways k f)), x3, none]) (List.range a) 0
    [some (.d (.int f)), some (.d (.int a)), some (.ls false (ways 0 f)), none, none] ⟨none, rfl, rfl⟩ (by
      rintro i x ρ hx ⟨x3, h3, rfl⟩
      refine ⟨_, .inl ?_, some (.d (.int x)), rfl, rfl⟩
      have cp := compL_map (t := .one 4) (ft := retM true) (fe := e_how_many_1) (ρ := [some (.d (.int f)), some (.d (.int a)), some (.ls false (ways (0 + i) f)), some (.d (.int x)), none]) (fun (i : Nat) => PyData.int (i : Int)) (fun m => .int (stir (0 + i + 1) m : Nat)) (List.range (f + 1)) (by simp; omega)
        (fun m hm => how_step f a (0 + i) m _ (by simp at hm; omega) hf2)
      rw [show (List.range (f + 1)).map (fun m => PyData.int ((stir (0 + i + 1) m : Nat) : Int)) = ways (0 + i + 1) f from rfl] at cp
      simp only [Nat.zero_add] at cp ⊢
      simp [roundM_ap, b_how_many_1, h3, hm1, rangeD0, cp, t1])
  subst h3
  simp at h1
  simp [F_how_many, f_how_many, bodyF_ap, c0, c1, c2, c3, c4, c5, hm, rangeD0, h1, ways0, wl]
theorem how_bad (f a : Int) (h : ¬ (0 ≤ a ∧ a ≤ 24 ∧ 0 ≤ f ∧ f ≤ a ∧ f ≤ 20)) : F_how_many [.d (.int f), .d (.int a)] = .err 4 [none, none] := by
  by_cases h1 : 0 ≤ a
  · by_cases h2 : a ≤ 24
    · by_cases h3 : 0 ≤ f
      · have c1 : ¬ f ≤ (if (20 : Int) < a then (20 : Int) else a) := by split <;> omega
        simp [F_how_many, f_how_many, bodyF_ap, h1, h2, h3, c1]
      · simp [F_how_many, f_how_many, bodyF_ap, h1, h2, h3]
    · simp [F_how_many, f_how_many, bodyF_ap, h1, h2]
  · simp [F_how_many, f_how_many, bodyF_ap, h1]
end G8
namespace G8
open PySem L2
/-! rows -/
def il (xs : List Int) : Dt := .list (xs.map PyData.int)
theorem il_eq (xs : List Int) : il xs = .list (xs.map PyData.int) := rfl
theorem nice_il (n : Nat) (xs : List Int) : nice (n + 1) (il xs) := nice_ints n xs
def okName (n : Int) : Prop := 0 ≤ n ∧ n ≤ 19
instance (n : Int) : Decidable (okName n) := by unfold okName; infer_instance
def okRow (xs : List Int) : Prop := xs.length ≤ 24 ∧ ∀ x ∈ xs, okName x
instance (xs : List Int) : Decidable (okRow xs) := by unfold okRow; infer_instance
theorem look_name_ok {n : Int} (h : okName n) : F_look_name [.d (.int n)] = .ok (.d .none) [none] := by
  simp [F_look_name, f_look_name, bodyF_ap, h.1, h.2]
theorem look_name_bad {n : Int} (h : ¬ okName n) : F_look_name [.d (.int n)] = .err 0 [none] := by
  unfold okName at h
  by_cases h1 : 0 ≤ n
  · have h2 : ¬ n ≤ 19 := fun z => h ⟨h1, z⟩
    simp [F_look_name, f_look_name, bodyF_ap, h1, h2]
  · simp [F_look_name, f_look_name, bodyF_ap, h1]
theorem look_loop (r : Dt) : ∀ (xs : List Int) (x1 : Option Sv), ownAt (some x1) = false → ∃ x1', forL (.one 1) b_look_row_1 (xs.map PyData.int) [some (.d r), x1] = if (∀ x ∈ xs, okName x) then .ok .nx [some (.d r), x1'] else .err 0 [some (.d r), x1']
  | [], x1, _ => ⟨x1, by simp⟩
  | x :: xs, x1, h => by
    by_cases hx : okName x
    · obtain ⟨x1', e⟩ := look_loop r xs (some (.d (.int x))) rfl
      refine ⟨x1', ?_⟩
      rw [List.map_cons, forL_round]
      simp [roundM_ap, b_look_row_1_ap, h, look_name_ok hx, e, hx]
    · refine ⟨some (.d (.int x)), ?_⟩
      rw [List.map_cons, forL_round]
      simp [roundM_ap, b_look_row_1_ap, h, look_name_bad hx, hx]
theorem look_row_ok {xs : List Int} (h : okRow xs) : F_look_row [.d (il xs)] = .ok (.d .none) [none] := by
  obtain ⟨x1', e⟩ := look_loop (.list (xs.map PyData.int)) xs none rfl
  rw [if_pos h.2] at e
  have h1 : ¬ (24 : Int) < (xs.length : Int) := by have := h.1; omega
  simp [F_look_row, f_look_row, bodyF_ap, il, e, h1]
theorem look_row_bad {xs : List Int} (h : ¬ okRow xs) : F_look_row [.d (il xs)] = .err 0 [none] := by
  obtain ⟨x1', e⟩ := look_loop (.list (xs.map PyData.int)) xs none rfl
  by_cases hl : xs.length ≤ 24
  · have h1 : ¬ (24 : Int) < (xs.length : Int) := by omega
    rw [if_neg (fun z => h ⟨hl, z⟩)] at e
    simp [F_look_row, f_look_row, bodyF_ap, il, e, h1]
  · have h1 : (24 : Int) < (xs.length : Int) := by omega
    simp [F_look_row, f_look_row, bodyF_ap, il, h1]
theorem look_room_ok {n : Int} (h : 0 ≤ n ∧ n ≤ 12) : F_look_room [.d (.int n)] = .ok (.d .none) [none] := by
  simp [F_look_room, f_look_room, bodyF_ap, h.1, h.2]
theorem look_room_bad {n : Int} (h : ¬ (0 ≤ n ∧ n ≤ 12)) : F_look_room [.d (.int n)] = .err 1 [none] := by
  by_cases h1 : 0 ≤ n
  · have h2 : ¬ n ≤ 12 := fun z => h ⟨h1, z⟩
    simp [F_look_room, f_look_room, bodyF_ap, h1, h2]
  · simp [F_look_room, f_look_room, bodyF_ap, h1]
/-! names, in the order of first asks -/
def uniq : List Int → List Int → List Int
  | [], acc => acc
  | x :: xs, acc => uniq xs (if x ∈ acc then acc else acc ++ [x])
theorem names_loop (r : Dt) : ∀ (xs acc : List Int) (x2 : Option Sv), acc.length + xs.length < 1000000 → ownAt (some x2) = false →
    ∃ x2', forL (.one 2) b_names_1 (xs.map PyData.int) [some (.d r), some (.ls false (acc.map PyData.int)), x2] = .ok .nx [some (.d r), some (.ls false ((uniq xs acc).map PyData.int)), x2']
  | [], acc, x2, _, _ => ⟨x2, by simp [uniq]⟩
  | x :: xs, acc, x2, hl, h => by
    have hi := ninD_ints x acc
    by_cases hx : x ∈ acc
    · obtain ⟨x2', e⟩ := names_loop r xs acc (some (.d (.int x))) (by simp at hl; omega) rfl
      refine ⟨x2', ?_⟩
      rw [List.map_cons, forL_round]
      simp [hx] at hi
      simp [roundM_ap, b_names_1_ap, h, hi, e, uniq, hx]
    · obtain ⟨x2', e⟩ := names_loop r xs (acc ++ [x]) (some (.d (.int x))) (by simp at hl ⊢; omega) rfl
      refine ⟨x2', ?_⟩
      rw [List.map_cons, forL_round]
      simp [hx] at hi
      have h3 : acc.length < 1000000 := by simp at hl; omega
      simp at e
      simp [roundM_ap, b_names_1_ap, h, hi, e, uniq, hx, appD, h3]
theorem names_ok {xs : List Int} (h : okRow xs) : F_names [.d (il xs)] = .ok (.l ((uniq xs []).map PyData.int)) [none] := by
  obtain ⟨x2', e⟩ := names_loop (.list (xs.map PyData.int)) xs [] none (by have := h.1; simp; omega) rfl
  have l := look_row_ok h
  simp [il] at l
  simp at e
  simp [F_names, f_names, bodyF_ap, il, l, e]
theorem names_bad {xs : List Int} (h : ¬ okRow xs) : F_names [.d (il xs)] = .err 0 [none] := by
  have l := look_row_bad h
  simp [il] at l
  simp [F_names, f_names, bodyF_ap, il, l]
end G8
namespace G8
open PySem L2
/-! lists of ints as data -/
theorem atI_ints {xs : List Int} {k : Nat} {x : Int} (h : xs[k]? = some x) : atI (xs.map PyData.int) (k : Int) = some (.int x) := by
  rw [G8.atI_nat, List.getElem?_map, h]
  rfl
theorem countD_ints (xs : List Int) (x : Int) : countD (xs.map PyData.int) (.int x) = some ((xs.count x : Nat) : Int) := by
  unfold countD
  rw [List.countP_map]
  congr 3
theorem indexD_ints {xs : List Int} {x : Int} (h : x ∈ xs) : indexD (xs.map PyData.int) (.int x) = some ((xs.idxOf x : Nat) : Int) := by
  unfold indexD SeqAt.dataPlace
  rw [List.findIdx?_map]
  have e : (fun y => PyData.eqv y (PyData.int x)) ∘ PyData.int = fun y => y == x := by
    funext y
    rw [Function.comp_apply, eqv_ii]
    by_cases q : y = x <;> simp [q]
  rw [e, List.findIdx?_eq_some_of_exists ⟨x, h, by simp⟩]
  rfl
theorem cut_take {xs : List Dt} (k : Nat) : cutD xs none (some (k : Int)) = xs.take k := by
  unfold cutD
  rw [HT.sIx_none, HT.sIx_nat]
  simp [List.take_eq_take_iff]
theorem cut_drop {xs : List Dt} (k : Nat) : cutD xs (some (k : Int)) none = xs.drop k := by
  unfold cutD
  rw [HT.sIx_none, HT.sIx_nat]
  by_cases h : k ≤ xs.length
  · rw [Nat.min_eq_left h, List.take_of_length_le (by simp)]
  · rw [Nat.min_eq_right (by omega), List.drop_eq_nil_of_le (Nat.le_refl _), List.drop_eq_nil_of_le (by omega)]
    simp
theorem alikeB_ints (xs : List Int) : alikeB (xs.map PyData.int) = true := by
  unfold alikeB
  rw [Bool.and_eq_true, List.all_eq_true, List.all_eq_true]
  refine ⟨fun x hx => List.all_eq_true.mpr fun y hy => ?_, fun x hx => ?_⟩
  · obtain ⟨i, _, rfl⟩ := List.mem_map.mp hx
    obtain ⟨j, _, rfl⟩ := List.mem_map.mp hy
    rw [PySem.W.alike]
  · obtain ⟨i, _, rfl⟩ := List.mem_map.mp hx
    rfl
theorem max_ints (x : Int) (xs : List Int) : bestD PySem.W.maxD [.list (.int x :: xs.map PyData.int)] = some (.d (.int (xs.foldl max x))) := by
  have e1 : alikeB (.int x :: xs.map PyData.int) = true := alikeB_ints (x :: xs)
  have e2 : shalL (.int x :: xs.map PyData.int) = true := shalL_ints (x :: xs)
  show (if shalL (.int x :: xs.map PyData.int) && alikeB (.int x :: xs.map PyData.int) then some (Rv.d (PySem.W.maxD (.int x) (xs.map PyData.int))) else none) = _
  rw [e1, e2, PySem.W.maxD_ints]
  rfl
theorem min_ints (x : Int) (xs : List Int) : bestD PySem.W.minD [.list (.int x :: xs.map PyData.int)] = some (.d (.int (xs.foldl min x))) := by
  have e1 : alikeB (.int x :: xs.map PyData.int) = true := alikeB_ints (x :: xs)
  have e2 : shalL (.int x :: xs.map PyData.int) = true := shalL_ints (x :: xs)
  show (if shalL (.int x :: xs.map PyData.int) && alikeB (.int x :: xs.map PyData.int) then some (Rv.d (PySem.W.minD (.int x) (xs.map PyData.int))) else none) = _
  rw [e1, e2, PySem.W.minD_ints]
  rfl
/-! caches.last_of, next_of -/
def occ (row : List Int) (k : Nat) (x : Int) : List Nat := (List.range k).filter fun j => decide (row[j]? = some x)
def lastIx (row : List Int) (k : Nat) (x : Int) : Nat := (occ row k x).getLastD 0
theorem foldl_max_last : ∀ (xs : List Nat) (x : Nat), (x :: xs).Pairwise (· < ·) → (xs.map fun (i : Nat) => (i : Int)).foldl max (x : Int) = ((xs.getLastD x : Nat) : Int)
  | [], x, _ => rfl
  | y :: ys, x, h => by
    have h1 : x < y := (List.pairwise_cons.mp h).1 y (List.mem_cons_self ..)
    rw [List.map_cons, List.foldl_cons, show max (x : Int) (y : Int) = (y : Int) by omega, foldl_max_last ys y (List.pairwise_cons.mp h).2]
    cases ys <;> rfl
theorem last_step (row : List Int) (k : Nat) (x : Int) (j : Nat) (hj : j < row.length) : stepL (.one 3) t_last_of_1 (varM 3) (.int (j : Int)) [some (.d (il row)), some (.d (.int (k : Int))), some (.d (.int x)), none]
    = .ok (if row[j]? = some x then some (.int (j : Int)) else none) [some (.d (il row)), some (.d (.int (k : Int))), some (.d (.int x)), none] := by
  have e := atI_ints (List.getElem?_eq_getElem hj)
  rw [List.getElem?_eq_getElem hj]
  by_cases hx : row[j] = x
  · simp [stepL_ap, t_last_of_1_ap, il, e, hx]
  · simp [stepL_ap, t_last_of_1_ap, il, e, hx]
theorem last_of_ok (row : List Int) (k : Nat) (x : Int) (hk : k ≤ row.length) (hl : row.length ≤ 24) (hx : x ∈ row.take k) : F_last_of [.d (il row), .d (.int (k : Int)), .d (.int x)] = .ok (.d (.int (lastIx row k x : Nat))) [none, none, none] := by
  have hm : mid (k : Int) = true := mid_nat (by omega)
  have cp := compL_fmap (t := .one 3) (ft := t_last_of_1) (fe := varM 3) (ρ := [some (.d (il row)), some (.d (.int (k : Int))), some (.d (.int x)), none]) (fun (i : Nat) => PyData.int (i : Int)) (fun j => if row[j]? = some x then some (.int (j : Int)) else none) (List.range k) (by simp; omega)
    (fun j hj => last_step row k x j (by have := List.mem_range.mp hj; omega))
  have ef : (List.range k).filterMap (fun (j : Nat) => if row[j]? = some x then some (PyData.int (j : Int)) else none) = ((occ row k x).map fun (i : Nat) => (i : Int)).map PyData.int := by
    unfold occ
    rw [List.map_map, ← List.filterMap_eq_map, List.filterMap_filter]
    congr 1
    funext j
    by_cases h : row[j]? = some x <;> simp [h]
  rw [ef] at cp
  obtain ⟨y, ys, ho⟩ : ∃ y ys, occ row k x = y :: ys := by
    obtain ⟨j, hj, e⟩ := List.mem_iff_getElem.mp hx
    rw [List.length_take] at hj
    rw [List.getElem_take] at e
    have : j ∈ occ row k x := by
      unfold occ
      rw [List.mem_filter, List.mem_range, decide_eq_true_eq]
      exact ⟨by omega, by rw [List.getElem?_eq_getElem (by omega), e]⟩
    cases h : occ row k x with
    | nil => rw [h] at this; cases this
    | cons y ys => exact ⟨y, ys, rfl⟩
  have pw : (occ row k x).Pairwise (· < ·) := List.Pairwise.filter _ List.pairwise_lt_range
  rw [ho] at pw
  have mx := max_ints (y : Int) (ys.map fun (i : Nat) => (i : Int))
  rw [foldl_max_last ys y pw] at mx
  have el : lastIx row k x = ys.getLastD y := by
    unfold lastIx
    rw [ho]
    cases ys <;> rfl
  rw [ho] at cp
  simp only [List.map_cons] at cp mx
  rw [el]
  simp at cp mx
  simp [F_last_of, f_last_of, bodyF_ap, hm, rangeD0, cp, mx]
/-! stacks.moved, by any order -/
def lt2 (p q : Int × Int) : Bool := HT.lexLt [p.1, p.2] [q.1, q.2]
def mv (lt : Int → Int → Bool) (name : Int) : List Int → List Int → Option Int → List Int × Option Int
  | [], found, c => (found, c)
  | o :: rest, found, c => if o = name then (found, c) else (match c with
    | none => mv lt name rest found (some o)
    | some d => if lt o d then mv lt name rest (found ++ [d]) (some o) else mv lt name rest (found ++ [o]) (some d))
def moveP (lt : Int → Int → Bool) (name : Int) (stack : List Int) : List Int :=
  let r := mv lt name stack [name] none
  let f := r.1 ++ r.2.toList
  f ++ stack.drop f.length
def optI : Option Int → Dt
  | none => .none
  | some i => .int i
theorem moved_loop (rule : Str) (row : List Int) (k : Int) (name : Int) (st : Dt) (rk : Int → Int × Int) : ∀ (xs found : List Int) (c : Option Int) (x7 : Option Sv), found.length + xs.length < 1000000 → ownAt (some x7) = false →
    (∀ x, (x ∈ xs ∨ c = some x) → F_rank [.d (.str rule), .d (il row), .d (.int k), .d (.int x)] = .ok (.d (.tuple [.int (rk x).1, .int (rk x).2])) [none, none, none, none]) →
    ∃ x7', forL (.one 7) b_moved_1 (xs.map PyData.int) [some (.d (.str rule)), some (.d (il row)), some (.d (.int k)), some (.d st), some (.d (.int name)), some (.ls false (found.map PyData.int)), some (.d (optI c)), x7]
      = .ok .nx [some (.d (.str rule)), some (.d (il row)), some (.d (.int k)), some (.d st), some (.d (.int name)), some (.ls false ((mv (fun a b => lt2 (rk a) (rk b)) name xs found c).1.map PyData.int)), some (.d (optI (mv (fun a b => lt2 (rk a) (rk b)) name xs found c).2)), x7']
  | [], found, c, x7, _, _, _ => ⟨x7, by simp [mv]⟩
  | x :: xs, found, c, x7, hl, h, hr => by
    have hl1 : found.length < 1000000 := by simp at hl; omega
    by_cases hn : x = name
    · refine ⟨some (.d (.int x)), ?_⟩
      rw [List.map_cons, forL_round]
      simp [roundM_ap, b_moved_1_ap, h, hn, mv]
    · cases c with
      | none =>
        obtain ⟨x7', e⟩ := moved_loop rule row k name st rk xs found (some x) (some (.d (.int x))) (by simp at hl; omega) rfl (fun y hy => hr y (by
          rcases hy with hy | hy
          · exact .inl (List.mem_cons_of_mem _ hy)
          · cases hy; exact .inl (List.mem_cons_self ..)))
        refine ⟨x7', ?_⟩
        rw [List.map_cons, forL_round]
        simp [roundM_ap, b_moved_1_ap, h, hn, mv, optI]
        exact e
      | some d =>
        have r1 := hr x (.inl (List.mem_cons_self ..))
        have r2 := hr d (.inr rfl)
        by_cases hlt : lt2 (rk x) (rk d) = true
        · obtain ⟨x7', e⟩ := moved_loop rule row k name st rk xs (found ++ [d]) (some x) (some (.d (.int x))) (by simp at hl ⊢; omega) rfl (fun y hy => hr y (by
            rcases hy with hy | hy
            · exact .inl (List.mem_cons_of_mem _ hy)
            · cases hy; exact .inl (List.mem_cons_self ..)))
          refine ⟨x7', ?_⟩
          rw [List.map_cons, forL_round]
          unfold lt2 at hlt
          simp [roundM_ap, b_moved_1_ap, h, hn, mv, optI, r1, r2, intsOf, hlt, appD, hl1, lt2]
          simp [optI, lt2] at e
          exact e
        · obtain ⟨x7', e⟩ := moved_loop rule row k name st rk xs (found ++ [x]) (some d) (some (.d (.int x))) (by simp at hl ⊢; omega) rfl (fun y hy => hr y (by
            rcases hy with hy | hy
            · exact .inl (List.mem_cons_of_mem _ hy)
            · exact .inr hy))
          refine ⟨x7', ?_⟩
          rw [List.map_cons, forL_round]
          unfold lt2 at hlt
          simp [roundM_ap, b_moved_1_ap, h, hn, mv, optI, r1, r2, intsOf, hlt, appD, hl1, lt2]
          simp [optI, lt2] at e
          exact e
end G8
namespace G8
open PySem L2
theorem mv_len (lt : Int → Int → Bool) (name : Int) : ∀ (xs found : List Int) (c : Option Int), (mv lt name xs found c).1.length ≤ found.length + xs.length
  | [], found, c => by simp [mv]
  | x :: xs, found, c => by
    cases c with
    | none =>
      have h1 := mv_len lt name xs found (some x)
      by_cases h : x = name
      · simp [mv, h]
      · simp [mv, h]; omega
    | some d =>
      have h1 := mv_len lt name xs (found ++ [d]) (some x)
      have h2 := mv_len lt name xs (found ++ [x]) (some d)
      simp at h1 h2
      by_cases h : x = name
      · simp [mv, h]
      · by_cases hl : lt x d = true
        · simp [mv, h, hl]; omega
        · simp [mv, h, hl]; omega
theorem moved_ok (rule : Str) (row stack : List Int) (k : Nat) (name : Int) (rk : Int → Int × Int) (hk : row[k]? = some name) (hl : stack.length < 1000)
    (hr : ∀ x ∈ stack, F_rank [.d (.str rule), .d (il row), .d (.int (k : Int)), .d (.int x)] = .ok (.d (.tuple [.int (rk x).1, .int (rk x).2])) [none, none, none, none]) :
    F_moved [.d (.str rule), .d (il row), .d (.int (k : Int)), .d (il stack)] = .ok (.l ((moveP (fun a b => lt2 (rk a) (rk b)) name stack).map PyData.int)) [none, none, none, none] := by
  obtain ⟨x7', e⟩ := moved_loop rule row k name (il stack) rk stack [name] none none (by simp; omega) rfl (fun x hx => hr x (by
    rcases hx with hx | hx
    · exact hx
    · cases hx))
  have e1 := atI_ints hk
  have hlen := mv_len (fun a b => lt2 (rk a) (rk b)) name stack [name] none
  unfold moveP
  generalize hmv : mv (fun a b => lt2 (rk a) (rk b)) name stack [name] none = r at e hlen
  obtain ⟨f, c⟩ := r
  simp at hlen
  simp [il, optI] at e
  cases c with
  | none =>
    have sz : f.length + (stack.length - f.length) ≤ 1000000 := by omega
    have ct := cut_drop (xs := stack.map PyData.int) f.length
    simp [F_moved, f_moved, bodyF_ap, il, e1, e, optI, slD, ct, sz]
  | some d =>
    have h1 : f.length < 1000000 := by omega
    have sz : f.length + 1 + (stack.length - (f.length + 1)) ≤ 1000000 := by omega
    have ct := cut_drop (xs := stack.map PyData.int) (f.length + 1)
    simp at ct
    simp [F_moved, f_moved, bodyF_ap, il, e1, e, optI, slD, appD, h1, ct, sz]
/-! stacks.walked -/
/-- the stack ahead of each ask, by an order for each time -/
def stackAt (lt : Nat → Int → Int → Bool) (row : List Int) : Nat → List Int
  | 0 => []
  | k + 1 => match row[k]? with
    | some name => moveP (lt k) name (stackAt lt row k)
    | none => stackAt lt row k
def depthAt (lt : Nat → Int → Int → Bool) (row : List Int) (k : Nat) : Option Int := match row[k]? with
  | some name => if name ∈ stackAt lt row k then some ((stackAt lt row k).idxOf name + 1 : Nat) else none
  | none => none
def ol (xs : List (Option Int)) : Dt := .list (xs.map optI)
def depthsP (lt : Nat → Int → Int → Bool) (row : List Int) (n : Nat) : List (Option Int) := (List.range n).map (depthAt lt row)
theorem depthsP_succ (lt : Nat → Int → Int → Bool) (row : List Int) (n : Nat) : depthsP lt row (n + 1) = depthsP lt row n ++ [depthAt lt row n] := by
  unfold depthsP
  rw [List.range_succ, List.map_append]
  rfl
theorem walked_ok (rule : Str) (row : List Int) (rk : Nat → Int → Int × Int) (hl : row.length ≤ 24) (hst : ∀ k, k ≤ row.length → (stackAt (fun k a b => lt2 (rk k a) (rk k b)) row k).length < 1000)
    (hr : ∀ k, k < row.length → ∀ x ∈ stackAt (fun k a b => lt2 (rk k a) (rk k b)) row k, F_rank [.d (.str rule), .d (il row), .d (.int (k : Int)), .d (.int x)] = .ok (.d (.tuple [.int (rk k x).1, .int (rk k x).2])) [none, none, none, none]) :
    F_walked [.d (.str rule), .d (il row)] = .ok (.d (.tuple [ol (depthsP (fun k a b => lt2 (rk k a) (rk k b)) row row.length), il (stackAt (fun k a b => lt2 (rk k a) (rk k b)) row row.length)])) [none, none] := by
  have hm : mid (row.length : Int) = true := mid_nat (by omega)
  generalize hlt : (fun k a b => lt2 (rk k a) (rk k b)) = lt at hst hr ⊢
  obtain ⟨ρ', h1, x4, h2, h3⟩ := forL_inv (t := .one 4) (body := b_walked_1) (fun (i : Nat) => PyData.int (i : Int)) (fun n ρ => ∃ x4, ownAt (some x4) = false ∧ ρ = [some (.d (.str rule)), some (.d (il row)), some (.ls false ((stackAt lt row n).map PyData.int)), some (.ls false ((depthsP lt row n).map optI)), x4])
    (List.range row.length) 0 [some (.d (.str rule)), some (.d (il row)), some (.ls false []), some (.ls false []), none] ⟨none, rfl, rfl⟩ (by
      rintro i x ρ hx ⟨x4, h4, rfl⟩
      have hxn : x < row.length := List.mem_range.mp (List.mem_of_getElem? hx)
      have hix : x = 0 + i := by
        rw [List.getElem?_range (by
          have := (List.getElem?_eq_some_iff.mp hx).1
          simpa using this)] at hx
        cases hx
        omega
      subst hix
      have hn := List.getElem?_eq_getElem hxn
      have e1 := atI_ints hn
      have mo := moved_ok rule row (stackAt lt row (0 + i)) (0 + i) row[0 + i] (rk (0 + i)) hn (hst _ (by omega)) (hr _ hxn)
      have eq1 : (fun a b => lt2 (rk (0 + i) a) (rk (0 + i) b)) = lt (0 + i) := by rw [← hlt]
      rw [eq1] at mo
      have es : stackAt lt row (0 + i + 1) = moveP (lt (0 + i)) row[0 + i] (stackAt lt row (0 + i)) := by
        rw [stackAt, hn]
      have ed := depthsP_succ lt row (0 + i)
      have hdl : (depthsP lt row (0 + i)).length < 1000000 := by simp [depthsP]; omega
      have hin := inD_ints row[0 + i] (stackAt lt row (0 + i))
      simp only [Nat.zero_add] at *
      refine ⟨_, .inl ?_, some (.d (.int (i : Int))), rfl, rfl⟩
      rw [es, ed]
      by_cases hmem : row[i] ∈ stackAt lt row i
      · have hid := indexD_ints hmem
        have da : depthAt lt row i = some ((stackAt lt row i).idxOf row[i] + 1 : Nat) := by
          unfold depthAt
          rw [hn]
          simp [hmem]
        simp [hmem] at hin
        simp [il] at mo e1
        simp [roundM_ap, b_walked_1_ap, h4, il, e1, hin, lookD, hid, appD, hdl, mo, da, optI]
      · have da : depthAt lt row i = none := by
          unfold depthAt
          rw [hn]
          simp [hmem]
        simp [hmem] at hin
        simp [il] at mo e1
        simp [roundM_ap, b_walked_1_ap, h4, il, e1, hin, appD, hdl, mo, da, optI])
  subst h3
  simp [il] at h1
  simp [F_walked, f_walked, bodyF_ap, il, ol, hm, rangeD0, h1]
end G8
namespace G8
open PySem L2
/-! the rule "last" -/
theorem rank_last (row : List Int) (k : Nat) (x : Int) (hk : k ≤ row.length) (hl : row.length ≤ 24) (hx : x ∈ row.take k) :
    F_rank [.d (.str "last"), .d (il row), .d (.int (k : Int)), .d (.int x)] = .ok (.d (.tuple [.int (lastIx row k x : Nat), .int 0])) [none, none, none, none] := by
  have h := last_of_ok row k x hk hl hx
  simp [F_rank, f_rank, bodyF_ap, h]
def push (s : List Int) (x : Int) : List Int := x :: s.erase x
def lru (xs : List Int) : List Int := xs.foldl push []
theorem lru_snoc (xs : List Int) (x : Int) : lru (xs ++ [x]) = push (lru xs) x := by simp [lru]
theorem push_nodup {s : List Int} (h : s.Nodup) (x : Int) : (push s x).Nodup := by
  unfold push
  rw [List.nodup_cons]
  exact ⟨h.not_mem_erase, h.erase x⟩
theorem mem_push (s : List Int) (x y : Int) : y ∈ push s x ↔ y = x ∨ y ∈ s := by
  unfold push
  rw [List.mem_cons]
  by_cases h : y = x
  · simp [h]
  · simp [h, List.mem_erase_of_ne h]
theorem snocInd {α : Type} {P : List α → Prop} (h0 : P []) (h1 : ∀ xs x, P xs → P (xs ++ [x])) (l : List α) : P l := by
  have key : ∀ l : List α, P l.reverse := fun l => by
    induction l with
    | nil => exact h0
    | cons x xs ih =>
      rw [List.reverse_cons]
      exact h1 _ _ ih
  have := key l.reverse
  rwa [List.reverse_reverse] at this
theorem lru_all (xs : List Int) : (lru xs).Nodup ∧ ∀ y, y ∈ lru xs ↔ y ∈ xs := by
  induction xs using snocInd with
  | h0 => simp [lru]
  | h1 xs x ih =>
    rw [lru_snoc]
    refine ⟨push_nodup ih.1 x, fun y => ?_⟩
    rw [mem_push, ih.2]
    simp [or_comm]
theorem lru_len (xs : List Int) : (lru xs).length ≤ xs.length := by
  induction xs using snocInd with
  | h0 => simp [lru]
  | h1 xs x ih =>
    rw [lru_snoc]
    unfold push
    have := List.length_erase_le (a := x) (l := lru xs)
    simp; omega
theorem occ_succ (row : List Int) (k : Nat) (x : Int) : occ row (k + 1) x = occ row k x ++ if row[k]? = some x then [k] else [] := by
  unfold occ
  rw [List.range_succ, List.filter_append]
  congr 1
  by_cases h : row[k]? = some x <;> simp [h]
theorem lastIx_succ (row : List Int) (k : Nat) (x : Int) : lastIx row (k + 1) x = if row[k]? = some x then k else lastIx row k x := by
  unfold lastIx
  rw [occ_succ]
  by_cases h : row[k]? = some x <;> simp [h]
theorem occ_mem {row : List Int} {k : Nat} {x : Int} {j : Nat} : j ∈ occ row k x ↔ j < k ∧ row[j]? = some x := by
  unfold occ
  rw [List.mem_filter, List.mem_range, decide_eq_true_eq]
theorem lastIx_lt {row : List Int} {k : Nat} {x : Int} (hk : 0 < k) : lastIx row k x < k := by
  unfold lastIx
  cases h : (occ row k x).getLast? with
  | none =>
    rw [List.getLastD_eq_getLast?, h]
    exact hk
  | some j =>
    rw [List.getLastD_eq_getLast?, h]
    exact (occ_mem.mp (List.mem_of_getLast? h)).1
theorem lru_desc (row : List Int) : ∀ k, k ≤ row.length → (lru (row.take k)).Pairwise fun a b => lastIx row k b < lastIx row k a
  | 0, _ => by simp [lru]
  | k + 1, h => by
    have ih := lru_desc row k (by omega)
    have hk : row[k]? = some row[k] := List.getElem?_eq_getElem (by omega)
    rw [List.take_succ, hk]
    show (lru (row.take k ++ [row[k]])).Pairwise _
    rw [lru_snoc]
    unfold push
    have hne : ∀ b, b ∈ (lru (row.take k)).erase row[k] → b ≠ row[k] ∧ b ∈ lru (row.take k) := fun b hb => by
      rw [(lru_all (row.take k)).1.mem_erase_iff] at hb
      exact hb
    have hl : ∀ b, b ≠ row[k] → lastIx row (k + 1) b = lastIx row k b := fun b hb => by
      rw [lastIx_succ, hk, if_neg]
      intro e
      cases e
      exact hb rfl
    have hkk : lastIx row (k + 1) row[k] = k := by
      rw [lastIx_succ, if_pos hk]
    rw [List.pairwise_cons]
    refine ⟨fun b hb => ?_, ?_⟩
    · obtain ⟨h1, h2⟩ := hne b hb
      rw [hl b h1, hkk]
      refine lastIx_lt ?_
      cases k with
      | zero => simp [lru] at h2
      | succ k => omega
    · have p : ((lru (row.take k)).erase row[k]).Pairwise fun a b => lastIx row k b < lastIx row k a := ih.sublist (List.erase_sublist ..)
      refine List.Pairwise.imp_of_mem (fun {a b} ha hb hab => ?_) p
      rw [hl a (hne a ha).1, hl b (hne b hb).1]
      exact hab
/-- a stack in order is turned as by putting the name ahead -/
theorem mv_desc (lt : Int → Int → Bool) (name : Int) : ∀ (xs found : List Int) (d : Int), (d :: xs).Pairwise (fun a b => lt b a = true) →
    (mv lt name xs found (some d)).1 ++ (mv lt name xs found (some d)).2.toList = found ++ d :: xs.takeWhile (fun x => decide (x ≠ name))
  | [], found, d, _ => by simp [mv]
  | x :: xs, found, d, h => by
    by_cases hn : x = name
    · simp [mv, hn]
    · have h1 : lt x d = true := (List.pairwise_cons.mp h).1 x (List.mem_cons_self ..)
      have ih := mv_desc lt name xs (found ++ [d]) x (List.pairwise_cons.mp h).2
      simp [mv, hn, h1]
      simp at ih
      exact ih
theorem drop_while (name : Int) : ∀ (xs : List Int), xs.takeWhile (fun x => decide (x ≠ name)) ++ xs.drop ((xs.takeWhile (fun x => decide (x ≠ name))).length + 1) = xs.erase name
  | [] => rfl
  | x :: xs => by
    by_cases h : x = name
    · simp [h]
    · have := drop_while name xs
      simp at this
      simp [h, List.erase_cons_tail, this]
theorem moveP_desc (lt : Int → Int → Bool) (name : Int) (xs : List Int) (h : xs.Pairwise (fun a b => lt b a = true)) : moveP lt name xs = push xs name := by
  unfold moveP push
  have key : (mv lt name xs [name] none).1 ++ (mv lt name xs [name] none).2.toList = name :: xs.takeWhile (fun x => decide (x ≠ name)) := by
    cases xs with
    | nil => simp [mv]
    | cons x xs =>
      by_cases hn : x = name
      · simp [mv, hn]
      · have := mv_desc lt name xs [name] x h
        simp [mv, hn]
        simp at this
        exact this
  dsimp only
  rw [key, ← drop_while name xs]
  rfl
def rkLast (row : List Int) (k : Nat) (x : Int) : Int × Int := ((lastIx row k x : Nat), 0)
theorem lt2_last (row : List Int) (k : Nat) (a b : Int) : lt2 (rkLast row k a) (rkLast row k b) = decide (lastIx row k a < lastIx row k b) := by
  unfold lt2 rkLast
  rw [HT.lexLt_cons, HT.lexLt_cons, HT.lexLt_nil_nil]
  by_cases h : lastIx row k a = lastIx row k b
  · simp [h]
  · rw [if_neg (by omega)]
    simp
theorem stackAt_last (row : List Int) : ∀ k, k ≤ row.length → stackAt (fun k a b => lt2 (rkLast row k a) (rkLast row k b)) row k = lru (row.take k)
  | 0, _ => by simp [stackAt, lru]
  | k + 1, h => by
    have hk : row[k]? = some row[k] := List.getElem?_eq_getElem (by omega)
    rw [stackAt, hk, stackAt_last row k (by omega), List.take_succ, hk]
    show moveP _ row[k] _ = lru (row.take k ++ [row[k]])
    rw [lru_snoc, moveP_desc]
    refine (lru_desc row k (by omega)).imp fun {a b} h => ?_
    rw [lt2_last]
    exact decide_eq_true h
/-- the depth of an ask, by the rule "last" -/
def depL (row : List Int) (k : Nat) : Option Int := match row[k]? with
  | some name => if name ∈ lru (row.take k) then some ((lru (row.take k)).idxOf name + 1 : Nat) else none
  | none => none
def depsL (row : List Int) : List (Option Int) := (List.range row.length).map (depL row)
theorem walked_last (row : List Int) (hl : row.length ≤ 24) : F_walked [.d (.str "last"), .d (il row)] = .ok (.d (.tuple [ol (depsL row), il (lru row)])) [none, none] := by
  have hs := stackAt_last row
  have w := walked_ok "last" row (rkLast row) hl (fun k hk => by
    rw [hs k hk]
    have := lru_len (row.take k)
    simp at this
    omega) (fun k hk x hx => by
    rw [hs k (by omega)] at hx
    exact rank_last row k x (by omega) hl ((lru_all _).2 x |>.mp hx))
  rw [hs row.length (Nat.le_refl _), List.take_length] at w
  have e : depthsP (fun k a b => lt2 (rkLast row k a) (rkLast row k b)) row row.length = depsL row := by
    unfold depthsP depsL
    refine List.map_congr_left fun k hk => ?_
    have hk := List.mem_range.mp hk
    unfold depthAt depL
    rw [hs k (by omega)]
    all_goals (cases row[k]? <;> rfl)
  rw [e] at w
  exact w
theorem rule_last : F_look_stacked [.d (.str "last")] = .ok (.d .none) [none] := by rfl
theorem depths_last {row : List Int} (h : okRow row) : F_depths [.d (.str "last"), .d (il row)] = .ok (.d (ol (depsL row))) [none, none] := by
  have w := walked_last row h.1
  have l := look_row_ok h
  have r := rule_last
  simp [F_depths, f_depths, bodyF_ap, l, r, w, show atI [ol (depsL row), il (lru row)] 0 = some (ol (depsL row)) from rfl]
theorem stack_last {row : List Int} (h : okRow row) : F_stack [.d (.str "last"), .d (il row)] = .ok (.d (il (lru row))) [none, none] := by
  have w := walked_last row h.1
  have l := look_row_ok h
  have r := rule_last
  simp [F_stack, f_stack, bodyF_ap, l, r, w, show atI [ol (depsL row), il (lru row)] 1 = some (il (lru row)) from rfl]
end G8
namespace G8
open PySem L2
/-! depths.can_be -/
def canGo : List (Option Int) → Int → Option Int
  | [], f => some f
  | none :: r, f => canGo r (f + 1)
  | some d :: r, f => if 1 ≤ d ∧ d ≤ f then canGo r f else none
def canB (s : List (Option Int)) : Bool := decide (s.length ≤ 24) && (match canGo s 0 with
  | some f => decide (f ≤ 20)
  | none => false)
@[simp] theorem isNone_oi_n : isNone (optI none) = true := rfl
@[simp] theorem isNone_oi_s (i : Int) : isNone (optI (some i)) = false := rfl
@[simp] theorem intD_b (k : Bool) : intD [.bool k] = some (.d (.int (if k then 1 else 0))) := rfl
theorem can_loop (r : Dt) : ∀ (xs : List (Option Int)) (f : Int) (x2 : Option Sv), ownAt (some x2) = false →
    ∃ ρ', forL (.one 2) b_can_be_1 (xs.map optI) [some (.d r), some (.d (.int f)), x2] = (match canGo xs f with
      | some g => .ok .nx [some (.d r), some (.d (.int g)), ρ']
      | none => .ok (.rt (.d (.bool false))) [some (.d r), some (.d (.int f)), ρ']) ∨ ∃ f', canGo xs f = none ∧ forL (.one 2) b_can_be_1 (xs.map optI) [some (.d r), some (.d (.int f)), x2] = .ok (.rt (.d (.bool false))) [some (.d r), some (.d (.int f')), ρ']
  | [], f, x2, _ => ⟨x2, .inl (by simp [canGo])⟩
  | none :: xs, f, x2, h => by
    obtain ⟨ρ', e⟩ := can_loop r xs (f + 1) (some (.d .none)) rfl
    refine ⟨ρ', ?_⟩
    rw [List.map_cons, forL_round]
    have rd : roundM (.one 2) b_can_be_1 (optI none) [some (.d r), some (.d (.int f)), x2] = .ok .nx [some (.d r), some (.d (.int (f + 1))), some (.d .none)] := by
      simp [roundM_ap, b_can_be_1_ap, h, optI]
    rw [rd, canGo]
    dsimp only
    rcases e with e | ⟨f', e1, e2⟩
    · cases hc : canGo xs (f + 1) with
      | none => rw [hc] at e; exact .inr ⟨f + 1, rfl, e⟩
      | some g => rw [hc] at e; exact .inl e
    · exact .inr ⟨f', e1, e2⟩
  | some d :: xs, f, x2, h => by
    by_cases hd : 1 ≤ d ∧ d ≤ f
    · obtain ⟨ρ', e⟩ := can_loop r xs f (some (.d (.int d))) rfl
      refine ⟨ρ', ?_⟩
      rw [List.map_cons, forL_round]
      have rd : roundM (.one 2) b_can_be_1 (optI (some d)) [some (.d r), some (.d (.int f)), x2] = .ok .nx [some (.d r), some (.d (.int f)), some (.d (.int d))] := by
        simp [roundM_ap, b_can_be_1_ap, h, optI, hd.1, hd.2]
      rw [rd, canGo, if_pos hd]
      exact e
    · refine ⟨some (.d (.int d)), .inl ?_⟩
      rw [List.map_cons, forL_round]
      have rd : roundM (.one 2) b_can_be_1 (optI (some d)) [some (.d r), some (.d (.int f)), x2] = .ok (.rt (.d (.bool false))) [some (.d r), some (.d (.int f)), some (.d (.int d))] := by
        by_cases h1 : 1 ≤ d
        · have h2 : ¬ d ≤ f := fun z => hd ⟨h1, z⟩
          simp [roundM_ap, b_can_be_1_ap, h, optI, h1, h2]
        · simp [roundM_ap, b_can_be_1_ap, h, optI, h1]
      rw [rd, canGo, if_neg hd]
theorem can_be_eq (s : List (Option Int)) : F_can_be [.d (ol s)] = .ok (.d (.bool (canB s))) [none] := by
  by_cases hl : s.length ≤ 24
  · have h1 : ¬ (24 : Int) < (s.length : Int) := by omega
    obtain ⟨ρ', e⟩ := can_loop (.list (s.map optI)) s 0 none rfl
    unfold canB
    cases hc : canGo s 0 with
    | none =>
      have e : ∃ f', forL (.one 2) b_can_be_1 (s.map optI) [some (.d (.list (s.map optI))), some (.d (.int 0)), none] = .ok (.rt (.d (.bool false))) [some (.d (.list (s.map optI))), some (.d (.int f')), ρ'] := by
        rcases e with e | ⟨f', _, e⟩
        · rw [hc] at e; exact ⟨0, e⟩
        · exact ⟨f', e⟩
      obtain ⟨f', e⟩ := e
      simp [F_can_be, f_can_be, bodyF_ap, ol, h1, e]
    | some g =>
      rcases e with e | ⟨f', e1, e⟩
      · rw [hc] at e
        simp [F_can_be, f_can_be, bodyF_ap, ol, h1, e, hl]
      · rw [hc] at e1; cases e1
  · have h1 : (24 : Int) < (s.length : Int) := by omega
    simp [F_can_be, f_can_be, bodyF_ap, ol, h1, canB, hl]
end G8
namespace G8
open PySem L2
/-! depths.row_of -/
def rowStep (row : List Int) : Option Int → List Int
  | none => row ++ [((lru row).length : Int)]
  | some d => row ++ [(lru row).getD (d - 1).toNat 0]
def rowP (s : List (Option Int)) : List Int := s.foldl rowStep []
/-- the names of a row are 0, 1, .. in some order -/
def Full (row : List Int) : Prop := ∀ y ∈ row, 0 ≤ y ∧ y < ((lru row).length : Int)
theorem push_new {s : List Int} {x : Int} (h : x ∉ s) : push s x = x :: s := by
  unfold push
  rw [List.erase_of_not_mem h]
theorem full_none {row : List Int} (h : Full row) : ((lru row).length : Int) ∉ lru row := fun hm => by
  have := h _ (((lru_all row).2 _).mp hm)
  omega
theorem lru_none {row : List Int} (h : Full row) : lru (rowStep row none) = ((lru row).length : Int) :: lru row := by
  unfold rowStep
  rw [lru_snoc, push_new (full_none h)]
theorem erase_nth : ∀ {l : List Int} {n : Nat} (h : l.Nodup) (hn : n < l.length), l.erase l[n] = l.eraseIdx n
  | x :: xs, 0, h, _ => by simp
  | x :: xs, n + 1, h, hn => by
    have hn' : n < xs.length := by simpa using hn
    have hne : x ≠ xs[n] := fun e => (List.nodup_cons.mp h).1 (e ▸ List.getElem_mem hn')
    have ih := erase_nth (List.nodup_cons.mp h).2 hn'
    rw [List.getElem_cons_succ, List.erase_cons_tail (by simpa using hne), ih]
    rfl
theorem map_eraseN {α β : Type} (f : α → β) : ∀ (l : List α) (n : Nat), (l.map f).eraseIdx n = (l.eraseIdx n).map f
  | [], _ => rfl
  | x :: xs, 0 => rfl
  | x :: xs, n + 1 => by
    show f x :: (xs.map f).eraseIdx n = _
    rw [map_eraseN f xs n]
    rfl
theorem lru_some {row : List Int} {n : Nat} (hd : n < (lru row).length) : rowStep row (some ((n : Int) + 1)) = row ++ [(lru row)[n]] ∧ lru (rowStep row (some ((n : Int) + 1))) = (lru row)[n] :: (lru row).eraseIdx n := by
  have e : (lru row).getD ((n : Int) + 1 - 1).toNat 0 = (lru row)[n] := by
    rw [show ((n : Int) + 1 - 1).toNat = n by omega, List.getD_eq_getElem?_getD, List.getElem?_eq_getElem hd]
    rfl
  have e1 : rowStep row (some ((n : Int) + 1)) = row ++ [(lru row)[n]] := by
    show row ++ [(lru row).getD ((n : Int) + 1 - 1).toNat 0] = _
    rw [e]
  refine ⟨e1, ?_⟩
  rw [e1, lru_snoc]
  unfold push
  rw [erase_nth (lru_all row).1 hd]
theorem pred_of {d : Int} {m : Nat} (h : 1 ≤ d ∧ d ≤ (m : Int)) : ∃ n : Nat, d = (n : Int) + 1 ∧ n < m := ⟨(d - 1).toNat, by omega, by omega⟩
theorem full_step {row : List Int} (h : Full row) (o : Option Int) (ho : ∀ d, o = some d → 1 ≤ d ∧ d ≤ ((lru row).length : Int)) : Full (rowStep row o) ∧ ((lru (rowStep row o)).length : Int) = ((lru row).length : Int) + (if o = none then 1 else 0) := by
  cases o with
  | none =>
    have e := lru_none h
    have el : (lru (rowStep row none)).length = (lru row).length + 1 := by rw [e]; rfl
    refine ⟨fun y hy => ?_, by rw [el]; simp⟩
    rw [el]
    have hy' : y ∈ row ++ [((lru row).length : Int)] := hy
    rw [List.mem_append, List.mem_singleton] at hy'
    rcases hy' with hy' | hy'
    · have := h y hy'
      omega
    · omega
  | some d =>
    obtain ⟨n, rfl, hd⟩ := pred_of (ho d rfl)
    obtain ⟨e1, e2⟩ := lru_some hd
    have el : (lru (rowStep row (some ((n : Int) + 1)))).length = (lru row).length := by
      rw [e2, List.length_cons, List.length_eraseIdx, if_pos hd]
      omega
    refine ⟨fun y hy => ?_, by rw [el]; simp⟩
    rw [el]
    rw [e1, List.mem_append, List.mem_singleton] at hy
    rcases hy with hy | hy
    · exact h y hy
    · rw [hy]
      exact h _ (((lru_all row).2 _).mp (List.getElem_mem hd))
theorem row_loop (r : Dt) : ∀ (xs : List (Option Int)) (row : List Int) (g : Int) (x4 x5 : Option Sv), Full row → canGo xs ((lru row).length : Int) = some g → row.length + xs.length ≤ 1000 → ownAt (some x4) = false → ownAt (some x5) = false →
    ∃ x4' x5', forL (.one 4) b_row_of_1 (xs.map optI) [some (.d r), some (.ls false ((lru row).map PyData.int)), some (.ls false (row.map PyData.int)), some (.d (.int ((lru row).length : Int))), x4, x5]
      = .ok .nx [some (.d r), some (.ls false ((lru (xs.foldl rowStep row)).map PyData.int)), some (.ls false ((xs.foldl rowStep row).map PyData.int)), some (.d (.int ((lru (xs.foldl rowStep row)).length : Int))), x4', x5']
  | [], row, g, x4, x5, _, _, _, _, _ => ⟨x4, x5, by simp⟩
  | none :: xs, row, g, x4, x5, hf, hg, hl, h4, h5 => by
    obtain ⟨f1, f2⟩ := full_step hf none (fun d e => by cases e)
    simp at f2
    rw [canGo, ← f2] at hg
    obtain ⟨x4', x5', e⟩ := row_loop r xs (rowStep row none) g (some (.d .none)) (some (.d (.int ((lru row).length : Int)))) f1 hg (by simp [rowStep] at hl ⊢; omega) rfl rfl
    refine ⟨x4', x5', ?_⟩
    rw [List.map_cons, forL_round]
    have l5 : refAt (some x5) = false := by
      cases x5 with
      | none => rfl
      | some s => cases s <;> first | rfl | cases h5
    have e1 := lru_none hf
    have e2 : rowStep row none = row ++ [((lru row).length : Int)] := rfl
    have hl1 : (lru row).length < 1000000 := by have := lru_len row; simp at hl; omega
    have hl2 : row.length < 1000000 := by simp at hl; omega
    have rd : roundM (.one 4) b_row_of_1 (optI none) [some (.d r), some (.ls false ((lru row).map PyData.int)), some (.ls false (row.map PyData.int)), some (.d (.int ((lru row).length : Int))), x4, x5]
        = .ok .nx [some (.d r), some (.ls false ((lru (rowStep row none)).map PyData.int)), some (.ls false ((rowStep row none).map PyData.int)), some (.d (.int ((lru (rowStep row none)).length : Int))), some (.d .none), some (.d (.int ((lru row).length : Int)))] := by
      rw [e1, e2]
      simp [roundM_ap, b_row_of_1_ap, h4, l5, optI, insD, appD, hl1, hl2, mid]
    rw [rd]
    exact e
  | some d :: xs, row, g, x4, x5, hf, hg, hl, h4, h5 => by
    rw [canGo] at hg
    by_cases hd : 1 ≤ d ∧ d ≤ ((lru row).length : Int)
    · rw [if_pos hd] at hg
      obtain ⟨f1, f2⟩ := full_step hf (some d) (fun d' e => by cases e; exact hd)
      simp at f2
      obtain ⟨n, rfl, hdl⟩ := pred_of hd
      obtain ⟨e1, e2⟩ := lru_some hdl
      obtain ⟨x4', x5', e⟩ := row_loop r xs (rowStep row (some ((n : Int) + 1))) g (some (.d (.int ((n : Int) + 1)))) (some (.d (.int (lru row)[n]))) f1 (by rw [f2]; exact hg) (by simp [rowStep] at hl ⊢; omega) rfl rfl
      refine ⟨x4', x5', ?_⟩
      rw [List.map_cons, forL_round]
      have l5 : refAt (some x5) = false := by
        cases x5 with
        | none => rfl
        | some s => cases s <;> first | rfl | cases h5
      have hl1 : (lru row).length < 1000000 := by have := lru_len row; simp at hl; omega
      have hl2 : row.length < 1000000 := by simp at hl; omega
      have hmd : mid (n : Int) = true := mid_nat (by omega)
      have hl4 : ((lru row).eraseIdx n).length < 1000000 := by
        have := List.length_eraseIdx_le (lru row) n
        omega
      have s1 : (n : Int) + 1 - 1 = n := by omega
      have rd : roundM (.one 4) b_row_of_1 (optI (some ((n : Int) + 1))) [some (.d r), some (.ls false ((lru row).map PyData.int)), some (.ls false (row.map PyData.int)), some (.d (.int ((lru row).length : Int))), x4, x5]
          = .ok .nx [some (.d r), some (.ls false ((lru (rowStep row (some ((n : Int) + 1)))).map PyData.int)), some (.ls false ((rowStep row (some ((n : Int) + 1))).map PyData.int)), some (.d (.int ((lru (rowStep row (some ((n : Int) + 1)))).length : Int))), some (.d (.int ((n : Int) + 1))), some (.d (.int (lru row)[n]))] := by
        rw [f2, e2, e1]
        simp [roundM_ap, b_row_of_1_ap, h4, l5, optI, insD, appD, popAtD, hl2, hmd, hdl, map_eraseN, hl4, s1, show mid 0 = true from rfl]
      rw [rd]
      exact e
    · rw [if_neg hd] at hg
      cases hg
theorem full_nil : Full [] := fun y hy => by cases hy
theorem row_of_ok {s : List (Option Int)} (h : canB s = true) : F_row_of [.d (ol s)] = .ok (.l ((rowP s).map PyData.int)) [none] := by
  have c := can_be_eq s
  rw [h] at c
  unfold canB at h
  rw [Bool.and_eq_true, decide_eq_true_eq] at h
  obtain ⟨hl, h⟩ := h
  cases hc : canGo s 0 with
  | none => rw [hc] at h; cases h
  | some g =>
    obtain ⟨x4, x5, e⟩ := row_loop (ol s) s [] g none none full_nil (by simpa [lru] using hc) (by simp; omega) rfl rfl
    simp [lru] at e
    have e0 : itM (varM 0) [some (.d (ol s)), some (.ls false []), some (.ls false []), some (.d (.int 0)), none, none] = .ok (s.map optI) [some (.d (ol s)), some (.ls false []), some (.ls false []), some (.d (.int 0)), none, none] := by
      simp [ol]
    simp [F_row_of, f_row_of, bodyF_ap, c, rowP]
    simp [ol] at e ⊢
    simp [e]
theorem row_of_bad {s : List (Option Int)} (h : canB s = false) : F_row_of [.d (ol s)] = .err 4 [none] := by
  have c := can_be_eq s
  rw [h] at c
  simp [F_row_of, f_row_of, bodyF_ap, c]
end G8
namespace G8
open PySem L2
/-! plain laws of depths and rows -/
def dep1 (s : List Int) (x : Int) : Option Int := if x ∈ s then some ((s.idxOf x : Int) + 1) else none
theorem depsL_snoc (row : List Int) (x : Int) : depsL (row ++ [x]) = depsL row ++ [dep1 (lru row) x] := by
  unfold depsL
  rw [List.length_append, List.length_singleton, List.range_succ, List.map_append]
  congr 1
  · refine List.map_congr_left fun k hk => ?_
    have hk := List.mem_range.mp hk
    unfold depL
    rw [List.getElem?_append_left hk, List.take_append_of_le_length (by omega)]
  · show [depL (row ++ [x]) row.length] = _
    unfold depL dep1
    rw [List.getElem?_append_right (Nat.le_refl _), Nat.sub_self, List.take_append_of_le_length (Nat.le_refl _), List.take_length]
    simp
theorem dep_none {row : List Int} (h : Full row) : dep1 (lru row) ((lru row).length : Int) = none := by
  unfold dep1
  rw [if_neg (full_none h)]
theorem idxOf_nth : ∀ {l : List Int} {n : Nat} (h : l.Nodup) (hn : n < l.length), l.idxOf l[n] = n
  | x :: xs, 0, h, _ => by simp
  | x :: xs, n + 1, h, hn => by
    have hn' : n < xs.length := by simpa using hn
    have hne : x ≠ xs[n] := fun e => (List.nodup_cons.mp h).1 (e ▸ List.getElem_mem hn')
    have ih := idxOf_nth (List.nodup_cons.mp h).2 hn'
    have hb : (x == xs[n]) = false := by simpa using hne
    simp [List.idxOf_cons, hb, ih]
theorem dep_some {row : List Int} {n : Nat} (h : n < (lru row).length) : dep1 (lru row) (lru row)[n] = some ((n : Int) + 1) := by
  unfold dep1
  rw [if_pos (List.getElem_mem h), idxOf_nth (lru_all row).1 h]
theorem deps_row : ∀ (xs : List (Option Int)) (row : List Int) (g : Int), Full row → canGo xs ((lru row).length : Int) = some g → depsL (xs.foldl rowStep row) = depsL row ++ xs
  | [], row, g, _, _ => by simp
  | none :: xs, row, g, hf, hg => by
    obtain ⟨f1, f2⟩ := full_step hf none (fun d e => by cases e)
    simp at f2
    rw [canGo, ← f2] at hg
    rw [List.foldl_cons, deps_row xs _ g f1 hg]
    show depsL (row ++ [((lru row).length : Int)]) ++ xs = _
    rw [depsL_snoc, dep_none hf, List.append_assoc]
    rfl
  | some d :: xs, row, g, hf, hg => by
    rw [canGo] at hg
    by_cases hd : 1 ≤ d ∧ d ≤ ((lru row).length : Int)
    · rw [if_pos hd] at hg
      obtain ⟨f1, f2⟩ := full_step hf (some d) (fun d' e => by cases e; exact hd)
      simp at f2
      obtain ⟨n, rfl, hdl⟩ := pred_of hd
      obtain ⟨e1, e2⟩ := lru_some hdl
      rw [List.foldl_cons, deps_row xs _ g f1 (by rw [f2]; exact hg), e1, depsL_snoc, dep_some hdl, List.append_assoc]
      rfl
    · rw [if_neg hd] at hg
      cases hg
theorem canB_go {s : List (Option Int)} (h : canB s = true) : s.length ≤ 24 ∧ ∃ g, canGo s 0 = some g ∧ g ≤ 20 := by
  unfold canB at h
  rw [Bool.and_eq_true, decide_eq_true_eq] at h
  obtain ⟨hl, h⟩ := h
  cases hc : canGo s 0 with
  | none => rw [hc] at h; cases h
  | some g =>
    rw [hc] at h
    exact ⟨hl, g, rfl, of_decide_eq_true h⟩
theorem deps_rowP {s : List (Option Int)} (h : canB s = true) : depsL (rowP s) = s := by
  obtain ⟨_, g, hg, _⟩ := canB_go h
  have := deps_row s [] g full_nil (by simpa [lru] using hg)
  show depsL (s.foldl rowStep []) = s
  rw [this]
  rfl
/-! renaming -/
def nms (xs : List Int) : List Int := uniq xs []
def renP (xs : List Int) : List Int := xs.map fun x => ((nms xs).idxOf x : Int)
theorem uniq_snoc : ∀ (xs acc : List Int) (x : Int), uniq (xs ++ [x]) acc = if x ∈ uniq xs acc then uniq xs acc else uniq xs acc ++ [x]
  | [], acc, x => rfl
  | y :: ys, acc, x => uniq_snoc ys _ x
theorem nms_snoc (xs : List Int) (x : Int) : nms (xs ++ [x]) = if x ∈ nms xs then nms xs else nms xs ++ [x] := uniq_snoc xs [] x
theorem nms_all (xs : List Int) : (nms xs).Nodup ∧ (∀ y, y ∈ nms xs ↔ y ∈ xs) ∧ (nms xs).length = (lru xs).length := by
  induction xs using snocInd with
  | h0 => simp [nms, uniq, lru]
  | h1 xs x ih =>
    obtain ⟨i1, i2, i3⟩ := ih
    rw [nms_snoc, lru_snoc]
    by_cases h : x ∈ nms xs
    · rw [if_pos h]
      have hx := (i2 x).mp h
      refine ⟨i1, fun y => ?_, ?_⟩
      · rw [i2 y, List.mem_append, List.mem_singleton]
        exact ⟨.inl, fun z => z.elim id fun e => e ▸ hx⟩
      · unfold push
        rw [i3, List.length_cons, List.length_erase_of_mem (((lru_all xs).2 x).mpr hx)]
        have := List.length_pos_of_mem (((lru_all xs).2 x).mpr hx)
        omega
    · rw [if_neg h]
      have hx : x ∉ xs := fun z => h ((i2 x).mpr z)
      refine ⟨?_, fun y => ?_, ?_⟩
      · rw [List.nodup_append]
        refine ⟨i1, by simp, fun a ha b hb => ?_⟩
        rw [List.mem_singleton] at hb
        rintro rfl
        exact h (hb ▸ ha)
      · simp [i2 y]
      · rw [push_new (fun z => hx (((lru_all xs).2 x).mp z))]
        simp [i3]
theorem ren_snoc (xs : List Int) (x : Int) : renP (xs ++ [x]) = renP xs ++ [if x ∈ xs then ((nms xs).idxOf x : Int) else ((lru xs).length : Int)] := by
  obtain ⟨i1, i2, i3⟩ := nms_all xs
  unfold renP
  rw [List.map_append, nms_snoc]
  by_cases h : x ∈ nms xs
  · rw [if_pos h, if_pos ((i2 x).mp h)]
    rfl
  · rw [if_neg h, if_neg (fun z => h ((i2 x).mpr z))]
    congr 1
    · refine List.map_congr_left fun y hy => ?_
      rw [List.idxOf_append, if_pos ((i2 y).mpr hy)]
    · show [(((nms xs ++ [x]).idxOf x : Nat) : Int)] = _
      rw [List.idxOf_append, if_neg h, ← i3]
      simp
theorem map_erase_inj (f : Int → Int) : ∀ (s : List Int) (x : Int), (∀ a ∈ s, ∀ b, (b ∈ s ∨ b = x) → f a = f b → a = b) → (s.map f).erase (f x) = (s.erase x).map f
  | [], _, _ => rfl
  | y :: s, x, h => by
    by_cases e : y = x
    · subst e; simp
    · have hne : f y ≠ f x := fun z => e (h y (List.mem_cons_self ..) x (.inr rfl) z)
      rw [List.map_cons, List.erase_cons_tail (by simpa using hne), List.erase_cons_tail (by simpa using e), List.map_cons, map_erase_inj f s x fun a ha b hb => h a (List.mem_cons_of_mem _ ha) b (hb.imp (List.mem_cons_of_mem _) id)]
theorem lru_map (f : Int → Int) (xs : List Int) (h : ∀ a ∈ xs, ∀ b ∈ xs, f a = f b → a = b) : lru (xs.map f) = (lru xs).map f := by
  induction xs using snocInd with
  | h0 => rfl
  | h1 xs x ih =>
    have ih := ih fun a ha b hb => h a (List.mem_append_left _ ha) b (List.mem_append_left _ hb)
    rw [List.map_append, List.map_singleton, lru_snoc, lru_snoc, ih]
    unfold push
    rw [List.map_cons, map_erase_inj]
    intro a ha b hb
    refine h a (List.mem_append_left _ (((lru_all xs).2 a).mp ha)) b ?_
    rcases hb with hb | hb
    · exact List.mem_append_left _ (((lru_all xs).2 b).mp hb)
    · exact List.mem_append_right _ (by simp [hb])
theorem idxOf_inj {l : List Int} {a b : Int} (ha : a ∈ l) (hb : b ∈ l) (h : l.idxOf a = l.idxOf b) : a = b := by
  have h1 := List.getElem_idxOf (List.idxOf_lt_length_of_mem ha)
  have h2 := List.getElem_idxOf (List.idxOf_lt_length_of_mem hb)
  rw [← h1, ← h2]
  congr 1
theorem lru_ren (xs : List Int) : lru (renP xs) = (lru xs).map fun x => ((nms xs).idxOf x : Int) := by
  unfold renP
  refine lru_map _ _ fun a ha b hb e => ?_
  obtain ⟨_, i2, _⟩ := nms_all xs
  exact idxOf_inj ((i2 a).mpr ha) ((i2 b).mpr hb) (by omega)
theorem rowP_deps (row : List Int) : rowP (depsL row) = renP row := by
  induction row using snocInd with
  | h0 => rfl
  | h1 xs x ih =>
    rw [depsL_snoc, ren_snoc]
    unfold rowP at ih ⊢
    rw [List.foldl_append, ih, List.foldl_cons, List.foldl_nil]
    unfold dep1
    by_cases h : x ∈ xs
    · have hm := ((lru_all xs).2 x).mpr h
      rw [if_pos hm, if_pos h]
      have hi := List.idxOf_lt_length_of_mem hm
      have := (lru_some (row := renP xs) (n := (lru xs).idxOf x) (by rw [lru_ren]; simpa using hi)).1
      rw [this]
      congr 2
      have e : ∀ (l : List Int) (hl : l = (lru xs).map fun x => ((nms xs).idxOf x : Int)) (hh : (lru xs).idxOf x < l.length), l[(lru xs).idxOf x] = ((nms xs).idxOf x : Int) := by
        intro l hl hh
        subst hl
        rw [List.getElem_map, List.getElem_idxOf]
      exact e _ (lru_ren xs) _
    · rw [if_neg (fun z => h (((lru_all xs).2 x).mp z)), if_neg h]
      show renP xs ++ [((lru (renP xs)).length : Int)] = _
      rw [lru_ren, List.length_map]
theorem ren_rowP {s : List (Option Int)} (h : canB s = true) : renP (rowP s) = rowP s := by
  rw [← rowP_deps, deps_rowP h]
theorem canGo_snoc : ∀ (xs : List (Option Int)) (f : Int) (o : Option Int), canGo (xs ++ [o]) f = (canGo xs f).bind fun g => canGo [o] g
  | [], f, o => rfl
  | none :: xs, f, o => by
    show canGo (xs ++ [o]) (f + 1) = _
    rw [canGo_snoc xs]
    rfl
  | some d :: xs, f, o => by
    show (if 1 ≤ d ∧ d ≤ f then canGo (xs ++ [o]) f else none) = (if 1 ≤ d ∧ d ≤ f then canGo xs f else none).bind _
    split
    · exact canGo_snoc xs f o
    · rfl
theorem canGo_deps (row : List Int) : canGo (depsL row) 0 = some ((lru row).length : Int) := by
  induction row using snocInd with
  | h0 => rfl
  | h1 xs x ih =>
    rw [depsL_snoc, canGo_snoc, ih, lru_snoc]
    show canGo [dep1 (lru xs) x] ((lru xs).length : Int) = _
    unfold dep1
    by_cases h : x ∈ lru xs
    · have hi := List.idxOf_lt_length_of_mem h
      rw [if_pos h]
      show (if 1 ≤ ((lru xs).idxOf x : Int) + 1 ∧ ((lru xs).idxOf x : Int) + 1 ≤ ((lru xs).length : Int) then some ((lru xs).length : Int) else none) = _
      rw [if_pos ⟨by omega, by omega⟩]
      unfold push
      rw [List.length_cons, List.length_erase_of_mem h]
      congr 1
      omega
    · rw [if_neg h, push_new h]
      show some (((lru xs).length : Int) + 1) = _
      simp
theorem nodup_le : ∀ {l m : List Int}, l.Nodup → (∀ x ∈ l, x ∈ m) → l.length ≤ m.length
  | [], m, _, _ => Nat.zero_le _
  | x :: l, m, h, hs => by
    have hx := hs x (List.mem_cons_self ..)
    obtain ⟨h1, h2⟩ := List.nodup_cons.mp h
    have := nodup_le (m := m.erase x) h2 fun y hy => (List.mem_erase_of_ne (show y ≠ x from fun e => h1 (e ▸ hy))).mpr (hs y (List.mem_cons_of_mem _ hy))
    rw [List.length_erase_of_mem hx] at this
    have := List.length_pos_of_mem hx
    simp; omega
theorem lru_len_eq {a b : List Int} (h : ∀ x, x ∈ a ↔ x ∈ b) : (lru a).length = (lru b).length := by
  have h1 := nodup_le (lru_all a).1 (m := lru b) fun x hx => ((lru_all b).2 x).mpr ((h x).mp (((lru_all a).2 x).mp hx))
  have h2 := nodup_le (lru_all b).1 (m := lru a) fun x hx => ((lru_all a).2 x).mpr ((h x).mpr (((lru_all b).2 x).mp hx))
  omega
theorem lru_le_names {row : List Int} (h : ∀ x ∈ row, okName x) : (lru row).length ≤ 20 := by
  have := nodup_le (lru_all row).1 (m := (List.range 20).map fun (i : Nat) => (i : Int)) fun x hx => by
    have hx := h x (((lru_all row).2 x).mp hx)
    refine List.mem_map.mpr ⟨x.toNat, List.mem_range.mpr ?_, ?_⟩
    · have := hx.1; have := hx.2; omega
    · exact Int.toNat_of_nonneg hx.1
  simpa using this
theorem depsL_len (row : List Int) : (depsL row).length = row.length := by simp [depsL]
theorem canB_deps {row : List Int} (h : okRow row) : canB (depsL row) = true := by
  unfold canB
  rw [canGo_deps, depsL_len]
  have := lru_le_names h.2
  simp [h.1]
  omega
theorem deps_ren (row : List Int) : depsL (renP row) = depsL row := by
  rw [← rowP_deps]
  have := deps_row (depsL row) [] _ full_nil (by simpa [lru] using canGo_deps row)
  show depsL ((depsL row).foldl rowStep []) = _
  rw [this]
  rfl
theorem alike_iff (a b : List Int) : renP a = renP b ↔ depsL a = depsL b := by
  constructor
  · intro h
    rw [← deps_ren a, h, deps_ren]
  · intro h
    rw [← rowP_deps a, h, rowP_deps]
/-- a row behind a stack -/
theorem foldl_push (s : List Int) (hs : s.Nodup) (xs : List Int) : xs.foldl push s = lru xs ++ s.filter fun y => decide (y ∉ xs) := by
  induction xs using snocInd with
  | h0 =>
    simp only [List.foldl_nil, lru, List.nil_append, List.not_mem_nil, not_false_eq_true, decide_true]
    rw [List.filter_eq_self.mpr (fun _ _ => rfl)]
  | h1 xs x ih =>
    rw [List.foldl_append, ih, lru_snoc]
    show push (lru xs ++ s.filter fun y => decide (y ∉ xs)) x = _
    unfold push
    rw [List.cons_append]
    congr 1
    by_cases h : x ∈ lru xs
    · have hx := ((lru_all xs).2 x).mp h
      rw [List.erase_append_left _ h]
      congr 1
      refine List.filter_congr fun y _ => ?_
      simp only [List.mem_append, List.mem_singleton]
      by_cases e : y = x
      · simp [e, hx]
      · simp [e]
    · have hx : x ∉ xs := fun z => h (((lru_all xs).2 x).mpr z)
      rw [List.erase_append_right _ h, List.erase_of_not_mem h]
      congr 1
      have hf : (s.filter fun y => decide (y ∉ xs)).Nodup := hs.filter _
      rw [hf.erase_eq_filter, List.filter_filter]
      refine List.filter_congr fun y _ => ?_
      simp only [List.mem_append, List.mem_singleton]
      by_cases e : y = x
      · simp [e]
      · simp [e]
/-- the depth of an ask is the number of names since -/
theorem dep_since (pre rest : List Int) (x : Int) (h : x ∉ rest) : dep1 (lru (pre ++ x :: rest)) x = some ((lru (x :: rest)).length : Int) := by
  have e1 : lru (pre ++ x :: rest) = rest.foldl push (push (lru pre) x) := by
    unfold lru
    rw [List.foldl_append, List.foldl_cons]
  have n1 := push_nodup (lru_all pre).1 x
  have hl : x ∉ lru rest := fun z => h (((lru_all rest).2 x).mp z)
  have e2 : lru (x :: rest) = lru rest ++ [x] := by
    show rest.foldl push (push [] x) = _
    rw [foldl_push _ (by simp [push])]
    simp [push, h]
  rw [e1, foldl_push _ n1, e2]
  unfold push dep1
  rw [List.filter_cons_of_pos (by simpa using h), if_pos (by simp), List.idxOf_append, if_neg hl]
  simp
end G8
namespace G8
open PySem L2
/-! equality of lists of ints, of depths -/
theorem eqvA_self_of {xs ys : List Dt} (h : xs = ys) (hp : ∀ x ∈ xs, nice 60 x) : PyData.eqvAll xs ys = true := by
  subst h
  exact PySem.SeqAt.eqvAll_refl_plain xs (nice_all hp).1
theorem shal_il (xs : List Int) : shal (.list (xs.map PyData.int)) = true := shal_nice (nice_up (nice_ints 0 xs) (by decide))
theorem eqD_il (xs ys : List Int) : eqD (.list (xs.map PyData.int)) (.list (ys.map PyData.int)) = some (decide (xs = ys)) := by
  unfold eqD
  rw [shal_il, shal_il, eqv_ll, eqvA_ints]
  rfl
theorem neD_il (xs ys : List Int) : neD (.list (xs.map PyData.int)) (.list (ys.map PyData.int)) = some (!decide (xs = ys)) := by
  unfold neD
  rw [shal_il, shal_il, eqv_ll, eqvA_ints]
  rfl
theorem eqD_iln (xs : List Int) : eqD (.list (xs.map PyData.int)) (.list []) = some (decide (xs = [])) := eqD_il xs []
theorem neD_iln (xs : List Int) : neD (.list (xs.map PyData.int)) (.list []) = some (!decide (xs = [])) := neD_il xs []
theorem nice_oi (n : Nat) (o : Option Int) : nice n (optI o) := by
  cases o with
  | none => exact nice_none n
  | some i => exact nice_int n i
theorem nice_ol (n : Nat) (xs : List (Option Int)) : nice (n + 1) (.list (xs.map optI)) := nice_list fun x hx => by
  obtain ⟨i, _, rfl⟩ := List.mem_map.mp hx
  exact nice_oi n i
theorem eqv_oi (a b : Option Int) : PyData.eqv (optI a) (optI b) = decide (a = b) := by
  cases a <;> cases b <;> simp [optI]
theorem eqvA_ol : ∀ (xs ys : List (Option Int)), PyData.eqvAll (xs.map optI) (ys.map optI) = decide (xs = ys)
  | [], [] => by simp
  | [], _ :: _ => by simp
  | _ :: _, [] => by simp
  | x :: xs, y :: ys => by simp [eqvA_ol xs ys, eqv_oi, Bool.decide_and]
theorem shal_ol (xs : List (Option Int)) : shal (.list (xs.map optI)) = true := shal_nice (nice_up (nice_ol 0 xs) (by decide))
theorem eqD_ol (xs ys : List (Option Int)) : eqD (.list (xs.map optI)) (.list (ys.map optI)) = some (decide (xs = ys)) := by
  unfold eqD
  rw [shal_ol, shal_ol, eqv_ll, eqvA_ol]
  rfl
theorem neD_ol (xs ys : List (Option Int)) : neD (.list (xs.map optI)) (.list (ys.map optI)) = some (!decide (xs = ys)) := by
  unfold neD
  rw [shal_ol, shal_ol, eqv_ll, eqvA_ol]
  rfl
theorem eqD_oln (xs : List (Option Int)) : eqD (.list (xs.map optI)) (.list []) = some (decide (xs = [])) := eqD_ol xs []
theorem neD_oln (xs : List (Option Int)) : neD (.list (xs.map optI)) (.list []) = some (!decide (xs = [])) := neD_ol xs []
/-! the laws' own rows -/
theorem draw_ex (ns : List Int) (xs : List Dt) (m : Int) (hm : 0 < m) (hk : xs.length < 999999) : ∃ v : Int, 0 ≤ v ∧ v < m ∧ F__law_draw [.scr ns, .ls true xs, .d (.int m)] = .ok (.d (.int v)) [none, some (.ls true (xs ++ [.int 0])), none] :=
  ⟨_, drw_lo ns _ hm, drw_hi ns _ hm, draw_eq ns xs m hm hk⟩
theorem row_round (ns : List Int) (t : List Dt) (most kinds many : Int) (row : List Int) (x6 x7 : Option Sv) (k : Int) (hm : 0 < many) (ht : t.length < 900000) (hr : row.length < 1000) (hb : ∀ x ∈ row, 0 ≤ x ∧ x < many) (h6 : ownAt (some x6) = false) (h7 : ownAt (some x7) = false) :
    ∃ v t' x7', 0 ≤ v ∧ v < many ∧ t'.length ≤ t.length + 3 ∧ ownAt (some x7') = false ∧
      roundM (.one 6) b__law_row_1 (.int k) [some (.scr ns), some (.ls true t), some (.d (.int most)), some (.d (.int kinds)), some (.d (.int many)), some (.ls false (row.map PyData.int)), x6, x7]
        = .ok .nx [some (.scr ns), some (.ls true t'), some (.d (.int most)), some (.d (.int kinds)), some (.d (.int many)), some (.ls false ((row ++ [v]).map PyData.int)), some (.d (.int k)), x7'] := by
  obtain ⟨v, v1, v2, dv⟩ := draw_ex ns t many hm (by omega)
  have hr' : row.length < 1000000 := by omega
  have r7 : refAt (some x7) = false := by
    cases x7 with
    | none => rfl
    | some s => cases s <;> first | rfl | cases h7
  by_cases he : row = []
  · subst he
    refine ⟨v, t ++ [.int 0], some (.d (.int v)), v1, v2, by simp, rfl, ?_⟩
    have q := neD_iln []
    simp at q
    simp [roundM_ap, b__law_row_1_ap, h6, r7, dv, q, appD]
  · have q := neD_iln row
    simp [he] at q
    obtain ⟨u, u1, u2, du⟩ := draw_ex ns (t ++ [.int 0]) 4 (by decide) (by simp; omega)
    by_cases hu : u = 0
    · subst hu
      have hp : 0 < row.length := List.length_pos_iff.mpr he
      obtain ⟨w, w1, w2, dw⟩ := draw_ex ns (t ++ [.int 0] ++ [.int 0]) (row.length : Int) (by omega) (by simp; omega)
      obtain ⟨n, rfl⟩ : ∃ n : Nat, w = (n : Int) := ⟨w.toNat, by omega⟩
      have hn : n < row.length := by omega
      have hx := List.getElem?_eq_getElem hn
      have ea := atI_ints hx
      have hbn := hb row[n] (List.getElem_mem hn)
      refine ⟨row[n], t ++ [.int 0] ++ [.int 0] ++ [.int 0], some (.d (.int row[n])), hbn.1, hbn.2, by simp, rfl, ?_⟩
      simp at dv du dw
      simp [roundM_ap, b__law_row_1_ap, h6, r7, dv, q, appD, du, dw, ea, hr']
    · refine ⟨v, t ++ [.int 0] ++ [.int 0], some (.d (.int v)), v1, v2, by simp, rfl, ?_⟩
      simp at dv du
      simp [roundM_ap, b__law_row_1_ap, h6, r7, dv, q, appD, du, hu, hr']
theorem row_drawn (ns : List Int) (t : List Dt) (most kinds : Nat) (hm : most ≤ 24) (hk : 0 < kinds) (hk2 : kinds ≤ 1000) (ht : t.length < 800000) :
    ∃ (row : List Int) (t' : List Dt), row.length ≤ most ∧ (∀ x ∈ row, 0 ≤ x ∧ x < (kinds : Int)) ∧ t'.length ≤ t.length + 80 ∧
      F__law_row [.scr ns, .ls true t, .d (.int most), .d (.int kinds)] = .ok (.l (row.map PyData.int)) [none, some (.ls true t'), none, none] := by
  obtain ⟨v, v1, v2, dv⟩ := draw_ex ns t kinds (by omega) (by omega)
  obtain ⟨w, w1, w2, dw⟩ := draw_ex ns (t ++ [.int 0]) ((most : Int) + 1) (by omega) (by simp; omega)
  obtain ⟨n, rfl⟩ : ∃ n : Nat, w = (n : Int) := ⟨w.toNat, by omega⟩
  obtain ⟨ρ', h1, row, t', x6, x7, h2, h3, h4, h5, h6, h7⟩ := forL_inv (t := .one 6) (body := b__law_row_1) (fun (i : Nat) => PyData.int (i : Int))
    (fun k ρ => ∃ (row : List Int) (t' : List Dt) (x6 x7 : Option Sv), row.length = k ∧ (∀ x ∈ row, 0 ≤ x ∧ x < 1 + v) ∧ t'.length ≤ t.length + 2 + 3 * k ∧ ownAt (some x6) = false ∧ ownAt (some x7) = false ∧
      ρ = [some (.scr ns), some (.ls true t'), some (.d (.int most)), some (.d (.int kinds)), some (.d (.int (1 + v))), some (.ls false (row.map PyData.int)), x6, x7])
    (List.range n) 0 [some (.scr ns), some (.ls true (t ++ [.int 0] ++ [.int 0])), some (.d (.int most)), some (.d (.int kinds)), some (.d (.int (1 + v))), some (.ls false []), none, none]
    ⟨[], t ++ [.int 0] ++ [.int 0], none, none, rfl, by simp, by simp, rfl, rfl, rfl⟩ (by
      rintro i x ρ hx ⟨row, t', x6, x7, h2, h3, h4, h5, h6, rfl⟩
      have hi : i < n := by
        have := (List.getElem?_eq_some_iff.mp hx).1
        simpa using this
      obtain ⟨u, t2, x7', u1, u2, u3, u4, e⟩ := row_round ns t' most kinds (1 + v) row x6 x7 x (by omega) (by omega) (by omega) h3 h5 h6
      refine ⟨_, .inl e, row ++ [u], t2, _, x7', by simp [h2], fun y hy => ?_, by omega, rfl, u4, rfl⟩
      rcases List.mem_append.mp hy with hy | hy
      · exact h3 y hy
      · rw [List.mem_singleton.mp hy]; exact ⟨u1, u2⟩)
  subst h7
  have hl : row.length = n := by simpa using h2
  refine ⟨row, t', by omega, fun x hx => ?_, by simp at h4; omega, ?_⟩
  · have := h3 x hx
    omega
  · have hmn : mid (n : Int) = true := mid_nat (by omega)
    simp at h1 dv dw
    simp [F__law_row, f__law_row, bodyF_ap, dv, dw, hmn, rangeD0, h1]
end G8
namespace G8
open PySem L2
/-! sorted ints, slices, the last item -/
def srt (ns : List Int) : List Int := ns.mergeSort fun a b => decide (a ≤ b)
theorem srt_perm (ns : List Int) : (srt ns).Perm ns := List.mergeSort_perm ns _
theorem srt_sorted (ns : List Int) : (srt ns).Pairwise (· ≤ ·) := by
  have := List.pairwise_mergeSort (le := fun a b : Int => decide (a ≤ b)) (fun a b c h1 h2 => by simp at *; omega) (fun a b => by simp; omega) ns
  exact this.imp fun h => of_decide_eq_true h
theorem srt_len (ns : List Int) : (srt ns).length = ns.length := List.length_mergeSort _
theorem sortD_ints (ns : List Int) : sortD [.list (ns.map PyData.int)] = some (.l ((srt ns).map PyData.int)) := by
  have e1 : alikeA (ns.map PyData.int) = true := by
    have := alikeB_ints ns
    unfold alikeB at this
    rw [Bool.and_eq_true] at this
    exact this.1
  have e2 : shalL (ns.map PyData.int) = true := shalL_ints ns
  have e3 : sortB (ns.map PyData.int) = true := by
    unfold sortB
    rw [Bool.or_eq_true]
    refine .inr (List.all_eq_true.mpr fun x hx => ?_)
    obtain ⟨i, _, rfl⟩ := List.mem_map.mp hx
    rfl
  have e4 : (ns.map PyData.int).mergeSort leD = (srt ns).map PyData.int := by
    unfold srt
    refine (List.map_mergeSort fun a _ b _ => ?_).symm
    have := congrFun (congrFun (PySem.W.dataLe_int (fun b : Int => b)) a) b
    rw [← this]
    rfl
  show (if shalL (ns.map PyData.int) && alikeA (ns.map PyData.int) && sortB (ns.map PyData.int) then some (Rv.l ((ns.map PyData.int).mergeSort leD)) else none) = _
  rw [e1, e2, e3, e4]
  rfl
theorem atI_last {α : Type} {xs : List α} (h : xs ≠ []) : atI xs (-1) = xs[xs.length - 1]? := by
  have := List.length_pos_iff.mpr h
  unfold atI ixN
  rw [if_neg (by omega), if_pos (by omega)]
  show xs[((-1 : Int) + (xs.length : Int)).toNat]? = _
  congr 1
  omega
theorem cut_both {xs : List Dt} (p k : Nat) (h : k ≤ xs.length) : cutD xs (some (p : Int)) (some (k : Int)) = (xs.drop p).take (k - p) := by
  unfold cutD
  rw [HT.sIx_nat, HT.sIx_nat, Nat.min_eq_left h]
  by_cases hp : p ≤ xs.length
  · rw [Nat.min_eq_left hp]
  · rw [Nat.min_eq_right (by omega), show k - p = 0 by omega, show k - xs.length = 0 by omega]
    simp
/-! the steps of a sorted list are its names -/
def stepsOf (xs : List Int) : List Nat := (List.range xs.length).filter fun j => decide (j = 0 ∨ xs[j]? ≠ xs[j - 1]?)
theorem steps_snoc (xs : List Int) (y : Int) : (stepsOf (xs ++ [y])).length = (stepsOf xs).length + if xs.getLast? = some y then 0 else 1 := by
  unfold stepsOf
  rw [List.length_append, List.length_singleton, List.range_succ, List.filter_append, List.length_append]
  congr 1
  · congr 1
    refine List.filter_congr fun j hj => ?_
    have hj := List.mem_range.mp hj
    rw [List.getElem?_append_left hj, List.getElem?_append_left (by omega)]
  · rw [List.getLast?_eq_getElem?]
    cases xs with
    | nil => simp
    | cons x xs =>
      have h0 : (x :: xs).length ≠ 0 := by simp
      have h1 : ((x :: xs) ++ [y])[(x :: xs).length]? = some y := by
        rw [List.getElem?_append_right (Nat.le_refl _), Nat.sub_self]
        rfl
      have h2 : ((x :: xs) ++ [y])[(x :: xs).length - 1]? = (x :: xs)[(x :: xs).length - 1]? := List.getElem?_append_left (by simp)
      by_cases e : (x :: xs)[(x :: xs).length - 1]? = some y
      · rw [List.filter_cons, if_neg, if_pos e]
        · rfl
        · rw [decide_eq_true_eq, h1, h2, e]
          simp
      · rw [List.filter_cons, if_pos, if_neg e]
        · rfl
        · rw [decide_eq_true_eq, h1, h2]
          exact .inr fun z => e z.symm
theorem steps_sorted (xs : List Int) (h : xs.Pairwise (· ≤ ·)) : (stepsOf xs).length = (lru xs).length := by
  induction xs using snocInd with
  | h0 => rfl
  | h1 xs y ih =>
    obtain ⟨p1, _, p3⟩ := List.pairwise_append.mp h
    rw [steps_snoc, ih p1, lru_snoc]
    unfold push
    rw [List.length_cons]
    by_cases hm : y ∈ xs
    · have hm' := ((lru_all xs).2 y).mpr hm
      have hl : xs.getLast? = some y := by
        have hne : xs ≠ [] := fun z => by rw [z] at hm; cases hm
        rw [List.getLast?_eq_some_getLast hne]
        congr 1
        obtain ⟨ini, e⟩ : ∃ ini, xs = ini ++ [xs.getLast hne] := ⟨xs.dropLast, (List.dropLast_concat_getLast hne).symm⟩
        have h1 := p3 (xs.getLast hne) (List.getLast_mem hne) y (by simp)
        have h2 : y ≤ xs.getLast hne := by
          rw [e] at hm
          rcases List.mem_append.mp hm with hm | hm
          · rw [e] at p1
            exact (List.pairwise_append.mp p1).2.2 y hm _ (by simp)
          · rw [List.mem_singleton] at hm
            omega
        omega
      rw [if_pos hl, List.length_erase_of_mem hm']
      have := List.length_pos_of_mem hm'
      omega
    · have hm' : y ∉ lru xs := fun z => hm (((lru_all xs).2 y).mp z)
      have hl : xs.getLast? ≠ some y := fun z => hm (List.mem_of_getLast? z)
      rw [if_neg hl, List.erase_of_not_mem hm']
/-! _law_depth -/
theorem depL_dep1 {row : List Int} {k : Nat} (hk : k < row.length) : depL row k = dep1 (lru (row.take k)) row[k] := by
  unfold depL dep1
  rw [List.getElem?_eq_getElem hk]
  simp
theorem ld_step1 (row : List Int) (k : Nat) (hk : k < row.length) (j : Nat) (hj : j < row.length) : stepL (.one 4) t__law_depth_1 (varM 4) (.int (j : Int)) [some (.d (il row)), some (.d (.int (k : Int))), none, none, none]
    = .ok (if row[j]? = some row[k] then some (.int (j : Int)) else none) [some (.d (il row)), some (.d (.int (k : Int))), none, none, none] := by
  have e := atI_ints (List.getElem?_eq_getElem hj)
  have e2 := atI_ints (List.getElem?_eq_getElem hk)
  rw [List.getElem?_eq_getElem hj]
  by_cases hx : row[j] = row[k]
  · simp [stepL_ap, t__law_depth_1_ap, il, e, e2, hx]
  · simp [stepL_ap, t__law_depth_1_ap, il, e, e2, hx]
theorem ld_step2 (r kk : Dt) (la : List Dt) (s : List Int) (j : Nat) (hj : j < s.length) : stepL (.one 4) t__law_depth_2 (varM 4) (.int (j : Int)) [some (.d r), some (.d kk), some (.ls false la), some (.ls false (s.map PyData.int)), none]
    = .ok (if j = 0 ∨ s[j]? ≠ s[j - 1]? then some (.int (j : Int)) else none) [some (.d r), some (.d kk), some (.ls false la), some (.ls false (s.map PyData.int)), none] := by
  have e := atI_ints (List.getElem?_eq_getElem hj)
  cases j with
  | zero => simp [stepL_ap, t__law_depth_2_ap]
  | succ j =>
    have e2 := atI_ints (List.getElem?_eq_getElem (show j < s.length by omega))
    have s1 : (j : Int) + 1 - 1 = j := by omega
    have s2 : ¬ ((j : Int) + 1 = 0) := by omega
    simp at e
    rw [List.getElem?_eq_getElem hj, show j + 1 - 1 = j from rfl, List.getElem?_eq_getElem (show j < s.length by omega)]
    by_cases hx : s[j + 1] = s[j]
    · simp [stepL_ap, t__law_depth_2_ap, e, e2, hx, s1, s2]
    · simp [stepL_ap, t__law_depth_2_ap, e, e2, hx, s1, s2]
theorem law_depth_ok (row : List Int) (k : Nat) (hk : k < row.length) (hl : row.length ≤ 24) : F__law_depth [.d (il row), .d (.int (k : Int))] = .ok (.d (optI (depL row k))) [none, none] := by
  have hm : mid (k : Int) = true := mid_nat (by omega)
  have cp := compL_fmap (t := .one 4) (ft := t__law_depth_1) (fe := varM 4) (ρ := [some (.d (il row)), some (.d (.int (k : Int))), none, none, none]) (fun (i : Nat) => PyData.int (i : Int)) (fun j => if row[j]? = some row[k] then some (.int (j : Int)) else none) (List.range k) (by simp; omega)
    (fun j hj => ld_step1 row k hk j (by have := List.mem_range.mp hj; omega))
  have ef : (List.range k).filterMap (fun (j : Nat) => if row[j]? = some row[k] then some (PyData.int (j : Int)) else none) = ((occ row k row[k]).map fun (i : Nat) => (i : Int)).map PyData.int := by
    unfold occ
    rw [List.map_map, ← List.filterMap_eq_map, List.filterMap_filter]
    congr 1
    funext j
    by_cases h : row[j]? = some row[k] <;> simp [h]
  rw [ef] at cp
  have q := eqD_iln ((occ row k row[k]).map fun (i : Nat) => (i : Int))
  rw [depL_dep1 hk]
  by_cases ho : occ row k row[k] = []
  · have hn : row[k] ∉ lru (row.take k) := fun z => by
      have z := ((lru_all _).2 _).mp z
      obtain ⟨j, hj, e⟩ := List.mem_iff_getElem.mp z
      rw [List.length_take] at hj
      rw [List.getElem_take] at e
      have : j ∈ occ row k row[k] := occ_mem.mpr ⟨by omega, by rw [List.getElem?_eq_getElem (by omega), e]⟩
      rw [ho] at this
      cases this
    unfold dep1
    rw [if_neg hn]
    rw [ho] at cp q
    simp at cp q
    simp [F__law_depth, f__law_depth, bodyF_ap, hm, rangeD0, cp, q, optI]
  · obtain ⟨p, hp⟩ : ∃ p, (occ row k row[k]).getLast? = some p := by
      cases h : (occ row k row[k]).getLast? with
      | none => exact absurd (List.getLast?_eq_none_iff.mp h) ho
      | some p => exact ⟨p, rfl⟩
    obtain ⟨p1, p2⟩ := occ_mem.mp (List.mem_of_getLast? hp)
    have pl : ∀ j, p < j → j < k → row[j]? ≠ some row[k] := fun j h1 h2 e => by
      have hj : j ∈ occ row k row[k] := occ_mem.mpr ⟨h2, e⟩
      have pw : (occ row k row[k]).Pairwise (· < ·) := List.Pairwise.filter _ List.pairwise_lt_range
      obtain ⟨ini, e2⟩ : ∃ ini, occ row k row[k] = ini ++ [p] := by
        have hne := ho
        refine ⟨(occ row k row[k]).dropLast, ?_⟩
        have e3 := (List.dropLast_concat_getLast hne).symm
        rw [List.getLast?_eq_some_getLast hne] at hp
        cases hp
        exact e3
      rw [e2] at hj pw
      rcases List.mem_append.mp hj with hj | hj
      · have := (List.pairwise_append.mp pw).2.2 j hj p (by simp)
        omega
      · rw [List.mem_singleton] at hj
        omega
    have hpl : p < row.length := by omega
    have hpx : row[p] = row[k] := by
      rw [List.getElem?_eq_getElem hpl] at p2
      exact Option.some.inj p2
    obtain ⟨rest, hrest⟩ : ∃ rest, rest = (row.drop (p + 1)).take (k - p - 1) := ⟨_, rfl⟩
    have hseg : (row.drop p).take (k - p) = row[k] :: rest := by
      rw [List.drop_eq_getElem_cons hpl, hpx, show k - p = (k - p - 1) + 1 by omega, List.take_succ_cons, hrest]
    have htk : row.take k = row.take p ++ row[k] :: rest := by
      rw [← hseg, show k = p + (k - p) by omega, List.take_add]
      congr 2
      omega
    have hnr : row[k] ∉ rest := fun z => by
      rw [hrest] at z
      obtain ⟨i, hi, e⟩ := List.mem_iff_getElem.mp z
      rw [List.length_take, List.length_drop] at hi
      rw [List.getElem_take, List.getElem_drop] at e
      exact pl (p + 1 + i) (by omega) (by omega) (by rw [List.getElem?_eq_getElem (by omega), e])
    have hd : dep1 (lru (row.take k)) row[k] = some ((lru (row[k] :: rest)).length : Int) := by
      rw [htk]
      exact dep_since _ _ _ hnr
    rw [hd]
    have hsg : (stepsOf (srt (row[k] :: rest))).length = (lru (row[k] :: rest)).length := by
      rw [steps_sorted _ (srt_sorted _)]
      exact lru_len_eq fun x => (srt_perm _).mem_iff
    have hsl : (srt (row[k] :: rest)).length ≤ 24 := by
      rw [srt_len, ← hseg, List.length_take, List.length_drop]
      omega
    have so := sortD_ints (row[k] :: rest)
    have hmi : (((occ row k row[k]).map fun (i : Nat) => (i : Int)).map PyData.int) ≠ [] := by simpa using ho
    have al := atI_last hmi
    have al2 : (((occ row k row[k]).map fun (i : Nat) => (i : Int)).map PyData.int)[(((occ row k row[k]).map fun (i : Nat) => (i : Int)).map PyData.int).length - 1]? = some (.int (p : Int)) := by
      rw [List.getLast?_eq_getElem?] at hp
      rw [List.length_map, List.length_map, List.getElem?_map, List.getElem?_map, hp]
      rfl
    rw [al2] at al
    have cb := cut_both (xs := row.map PyData.int) p k (by simp; omega)
    rw [← List.map_drop, ← List.map_take, hseg] at cb
    have cp2 := compL_fmap (t := .one 4) (ft := t__law_depth_2) (fe := varM 4) (ρ := [some (.d (il row)), some (.d (.int (k : Int))), some (.ls false (((occ row k row[k]).map fun (i : Nat) => (i : Int)).map PyData.int)), some (.ls false ((srt (row[k] :: rest)).map PyData.int)), none]) (fun (i : Nat) => PyData.int (i : Int)) (fun j => if j = 0 ∨ (srt (row[k] :: rest))[j]? ≠ (srt (row[k] :: rest))[j - 1]? then some (.int (j : Int)) else none) (List.range (srt (row[k] :: rest)).length) (by simp; omega)
      (fun j hj => ld_step2 _ _ _ _ j (List.mem_range.mp hj))
    have ef2 : (List.range (srt (row[k] :: rest)).length).filterMap (fun (j : Nat) => if j = 0 ∨ (srt (row[k] :: rest))[j]? ≠ (srt (row[k] :: rest))[j - 1]? then some (PyData.int (j : Int)) else none) = (stepsOf (srt (row[k] :: rest))).map fun (i : Nat) => PyData.int (i : Int) := by
      unfold stepsOf
      rw [← List.filterMap_eq_map, List.filterMap_filter]
      congr 1
      funext j
      by_cases h : j = 0 ∨ (srt (row[k] :: rest))[j]? ≠ (srt (row[k] :: rest))[j - 1]? <;> simp [h]
    rw [ef2] at cp2
    generalize srt (row[k] :: rest) = sg at *
    generalize stepsOf sg = st at *
    generalize hoc : (((occ row k row[k]).map fun (i : Nat) => (i : Int)).map PyData.int) = oc at *
    have hms : mid (sg.length : Int) = true := mid_nat (by omega)
    have q2 : eqD (.list oc) (.list []) = some false := by
      rw [q]
      simp [ho]
    rw [show il row = .list (row.map PyData.int) from rfl] at *
    rw [List.map_cons] at so cb
    simp [F__law_depth, f__law_depth, bodyF_ap, hm, rangeD0, cp, q2, optI, al, slD, cb, so, hms, cp2, hsg]
end G8
namespace K02
open PySem L2 G8 TL
/-! numbers as texts -/
def num (n : Nat) : Str := Str.ofString (toString ((n : Nat) : Int))
theorem tl_numN (n : Nat) : tl (num n) = numL n := tl_num n
theorem numL_inj {n m : Nat} (h : numL n = numL m) : n = m := by
  have h1 := numL_val n
  rw [h, numL_val m] at h1
  omega
theorem num_inj {n m : Nat} (h : num n = num m) : n = m := numL_inj (by rw [← tl_numN, ← tl_numN, h])
def isNum (s : Str) : Option Nat := (List.range 100).find? fun k => decide (num k = s)
theorem isNum_some {s : Str} {k : Nat} (h : isNum s = some k) : k < 100 ∧ s = num k := by
  unfold isNum at h
  have h1 := List.find?_some h
  have h2 := List.mem_of_find?_eq_some h
  exact ⟨List.mem_range.mp h2, (of_decide_eq_true h1).symm⟩
theorem isNum_num {k : Nat} (h : k < 100) : isNum (num k) = some k := by
  cases e : isNum (num k) with
  | some j => rw [num_inj (isNum_some e).2]
  | none =>
    unfold isNum at e
    rw [List.find?_eq_none] at e
    exact absurd (decide_eq_true rfl) (e k (List.mem_range.mpr h))
theorem numL_two {n : Nat} (h1 : 10 ≤ n) (h2 : n < 100) : numL n = [48 + n / 10, 48 + n % 10] := by
  rw [numL_step h1, numL_lt (by omega)]
  rfl
/-- the signs of a number below 100 -/
def chk : List Nat → Bool
  | [c] => decide (48 ≤ c ∧ c ≤ 57)
  | [c, d] => decide (49 ≤ c ∧ c ≤ 57) && decide (48 ≤ d ∧ d ≤ 57)
  | _ => false
theorem chk_num {k : Nat} (h : k < 100) : chk (tl (num k)) = true := by
  rw [tl_numN]
  by_cases h1 : k < 10
  · rw [numL_lt h1]
    exact decide_eq_true ⟨by omega, by omega⟩
  · rw [numL_two (by omega) h]
    have a : (49 ≤ 48 + k / 10 ∧ 48 + k / 10 ≤ 57) := ⟨by omega, by omega⟩
    have b : (48 ≤ 48 + k % 10 ∧ 48 + k % 10 ≤ 57) := ⟨by omega, by omega⟩
    simp only [chk, decide_eq_true a, decide_eq_true b, Bool.and_self]
theorem num_chk {s : Str} (h : chk (tl s) = true) : ∃ k, k < 100 ∧ s = num k := by
  unfold chk at h
  split at h
  · rename_i c e
    have h := of_decide_eq_true h
    refine ⟨c - 48, by omega, ext_tl ?_⟩
    rw [e, tl_numN, numL_lt (by omega)]
    congr 1
    omega
  · rename_i c d e
    rw [Bool.and_eq_true] at h
    have h1 := of_decide_eq_true h.1
    have h2 := of_decide_eq_true h.2
    refine ⟨10 * (c - 48) + (d - 48), by omega, ext_tl ?_⟩
    rw [e, tl_numN, numL_two (by omega) (by omega)]
    have a : 48 + (10 * (c - 48) + (d - 48)) / 10 = c := by omega
    have b : 48 + (10 * (c - 48) + (d - 48)) % 10 = d := by omega
    rw [a, b]
  · cases h
theorem isNum_none {s : Str} (h : isNum s = none) : chk (tl s) = false := by
  cases e : chk (tl s) with
  | false => rfl
  | true =>
    obtain ⟨k, hk, rfl⟩ := num_chk e
    rw [isNum_num hk] at h
    cases h
theorem num_len {k : Nat} (h : k < 100) : (num k).length = (numL k).length := by rw [len_tl, tl_numN]
theorem num_len2 {k : Nat} (h : k < 100) : 1 ≤ (num k).length ∧ (num k).length ≤ 2 := by
  rw [num_len h]
  by_cases h1 : k < 10
  · rw [numL_lt h1]
    simp
  · rw [numL_two (by omega) h]
    simp
theorem figs : ("0123456789" : Str).cps.toList = [48, 49, 50, 51, 52, 53, 54, 55, 56, 57] := by decide +kernel
theorem fig_iff (c : Nat) : decide (c ∈ ("0123456789" : Str).cps.toList) = decide (48 ≤ c ∧ c ≤ 57) := by
  rw [figs]
  apply decide_eq_decide.mpr
  simp only [List.mem_cons, List.not_mem_nil, or_false]
  omega
theorem sgn_comp (s : Str) (hl : s.length ≤ 5000) : compL (.one 1) (retM true) e_number_in_1 (sgnD s) [] [some (.d (.str s)), none] = .ok ((tl s).map fun c => PyData.bool (decide (48 ≤ c ∧ c ≤ 57))) [some (.d (.str s)), none] := by
  have hl' : (tl s).length ≤ 1000000 := by rw [← len_tl]; omega
  refine compL_map (fun (c : Nat) => PyData.str ⟨#[c]⟩) (fun c => PyData.bool (decide (48 ≤ c ∧ c ≤ 57))) (tl s) hl' fun c _ => ?_
  have e : inS (.str ⟨#[c]⟩) (.str "0123456789") = some (decide (48 ≤ c ∧ c ≤ 57)) := by
    rw [← fig_iff]
    rfl
  simp [stepL_ap, e_number_in_1_ap, e]
end K02
namespace G8
open PySem L2
/-! texts, computed -/
def strOf : Dt → Option Str
  | .str s => some s
  | _ => none
@[simp] theorem strOf_s (s : Str) : strOf (.str s) = some s := rfl
def splD (s : Str) : Dt → Option Rv
  | .str t => if (t.length == 0) = false ∧ s.length ≤ 1000000 then some (.l ((Txt.split s t).map PyData.str)) else none
  | _ => none
def sgsD : Dt → Option (List Dt)
  | .str s => some (sgnD s)
  | _ => none
@[simp] theorem splD_s (s t : Str) : splD s (.str t) = if (t.length == 0) = false ∧ s.length ≤ 1000000 then some (.l ((Txt.split s t).map PyData.str)) else none := rfl
@[simp] theorem sgsD_s (s : Str) : sgsD (.str s) = some (sgnD s) := rfl
@[simp] theorem itS_ap (fa : M Av) (ρ : Ev) : itS fa ρ = bindM fa (fun a => optM fun ρ => (res ρ a).bind sgsD) ρ := by
  have e : sgsD = (fun (x : Dt) => match x with
    | .str s => some (sgnD s)
    | _ => none) := by funext x; cases x <;> rfl
  rw [e]
  rfl
@[simp] theorem joinM_ap (fo fa : M Av) (ρ : Ev) : joinM fo fa ρ = bindM fo (fun o => bindM (optM fun ρ => (res ρ o).bind strOf) fun s => bindM fa fun a => optM fun ρ => (res ρ a).bind fun y => (joinD (.str s) y).map Av.d) ρ := by
  have e : strOf = (fun (x : Dt) => match x with
    | .str s => some s
    | _ => none) := by funext x; cases x <;> rfl
  rw [e]
  rfl
@[simp] theorem splitM_ap (fo fa : M Av) (ρ : Ev) : splitM fo fa ρ = bindM fo (fun o => bindM (optM fun ρ => (res ρ o).bind strOf) fun s => bindM fa fun a => optM fun ρ => (res ρ a).bind fun y => splD s y) ρ := by
  have e : strOf = (fun (x : Dt) => match x with
    | .str s => some s
    | _ => none) := by funext x; cases x <;> rfl
  have e2 : splD = (fun (s : Str) (y : Dt) => match y with
    | .str t => if (t.length == 0) = false ∧ s.length ≤ 1000000 then some (.l ((Txt.split s t).map PyData.str)) else none
    | _ => none) := by funext s x; cases x <;> rfl
  rw [e, e2]
  rfl
def nm (i : Int) : Str := Str.ofString (toString i)
@[simp] theorem strD_i (i : Int) : strD [.int i] = if i.natAbs < 1000000 then some (.d (.str (nm i))) else none := rfl
@[simp] theorem intSD_s (a : Str) : intSD [.str a] = if a.length ≤ 640 then (intText? a).map (fun n => Rv.d (.int n)) else none := rfl
@[simp] theorem addD_s (i j : Str) : addD (.str i) (.str j) = if i.length + j.length ≤ 1000000 then some (.d (.str (i ++ j))) else none := rfl
@[simp] theorem allD_b (bs : List Bool) : allD [.list (bs.map PyData.bool)] = some (.d (.bool (bs.all id))) := by
  show (boolsOf (bs.map PyData.bool)).map (fun ns => Rv.d (.bool (ns.all id))) = _
  rw [boolsOf_map]
  rfl
@[simp] theorem ixSt_s (z : Str) (i : Int) : ixSt (.str z) (.int i) = if z.length ≤ 1000000 then (atI z.cps.toList i).map (fun c => Rv.d (.str ⟨#[c]⟩)) else none := rfl
@[simp] theorem strsO_map : ∀ ss : List Str, strsO (ss.map PyData.str) = some ss
  | [] => rfl
  | s :: ss => by
    show (strsO (ss.map PyData.str)).map (fun r => s :: r) = _
    rw [strsO_map ss]
    rfl
@[simp] theorem joinD_s (s : Str) (ss : List Str) : joinD (.str s) (.list (ss.map PyData.str)) = if (ss.map (·.length)).sum + ss.length * s.length ≤ 1000000 then some (.str (Txt.join s ss)) else none := by
  show (strsO (ss.map PyData.str)).bind (fun ys => if (ys.map (·.length)).sum + ys.length * s.length ≤ 1000000 then some (PyData.str (Txt.join s ys)) else none) = _
  rw [strsO_map]
  rfl
theorem whileL_stop {ft : M Bool} {fb : M Fl} {n : Nat} {ρ ρ' : Ev} (h : ft ρ = .ok false ρ') : whileL ft fb (n + 1) ρ = .ok .nx ρ' := by
  show bindM ft _ ρ = _
  rw [bindM_ap, h]
  rfl
theorem whileL_go {ft : M Bool} {fb : M Fl} {n : Nat} {ρ ρ' ρ2 : Ev} (h : ft ρ = .ok true ρ') (h2 : fb ρ' = .ok .nx ρ2) : whileL ft fb (n + 1) ρ = whileL ft fb n ρ2 := by
  show bindM ft _ ρ = _
  rw [bindM_ap, h]
  show (match fb ρ' with
      | .ok .nx ρ' => whileL ft fb n ρ'
      | .ok .ct ρ' => whileL ft fb n ρ'
      | .ok .bk ρ' => .ok .nx ρ'
      | o => o) = _
  rw [h2]
end G8
namespace K02
open PySem L2 G8 TL
/-! cut at one sign -/
theorem spl1_cons (c d : Nat) (acc r : List Nat) : spl [c] 0 acc (d :: r) = if d = c then acc :: spl [c] 0 [] r else spl [c] 0 (acc ++ [d]) r := by
  by_cases h : d = c
  · subst h
    have e : spl [d] 0 acc (d :: r) = acc :: spl [d] ([d].length - 1) [] r := spl_hit (pre_self [d] r)
    rw [if_pos rfl, e]
    rfl
  · rw [if_neg h, spl_miss (pre_of_head [] r h)]
theorem spl1_len (c : Nat) : ∀ (l acc : List Nat), ((spl [c] 0 acc l).map List.length).sum + (spl [c] 0 acc l).length = acc.length + l.length + 1
  | [], acc => by rw [spl_nil]; simp
  | d :: r, acc => by
    rw [spl1_cons]
    split
    · have := spl1_len c r []
      simp at this ⊢
      omega
    · have := spl1_len c r (acc ++ [d])
      simp at this ⊢
      omega
theorem tl_blank : tl (" " : Str) = [32] := by decide +kernel
theorem tl_star : tl ("*" : Str) = [42] := by decide +kernel
theorem all_blank : (" " : Str).cps.all (· < 256) = true := by decide +kernel
theorem all_star : ("*" : Str).cps.all (· < 256) = true := by decide +kernel
theorem split_len {s y : Str} {c : Nat} (hy : tl y = [c]) (hc : y.cps.all (· < 256) = true) : ((Txt.split s y).map (·.length)).sum + (Txt.split s y).length = s.length + 1 := by
  have h := split_spl s y (by rw [hy]; simp) (kind_ok hc)
  have h2 := spl1_len c (tl s) []
  rw [hy] at h
  rw [← h, List.map_map, List.length_map] at h2
  have e : (List.length ∘ tl) = fun (w : Str) => w.length := by
    funext w
    exact (len_tl w).symm
  rw [e] at h2
  rw [h2, len_tl s]
  simp
theorem le_sum : ∀ {l : List Nat} {n : Nat}, n ∈ l → n ≤ l.sum
  | a :: l, n, h => by
    rw [List.sum_cons]
    rcases List.mem_cons.mp h with rfl | h
    · omega
    · have := le_sum h
      omega
theorem split_pos {s y : Str} {c : Nat} (hy : tl y = [c]) (hc : y.cps.all (· < 256) = true) : 1 ≤ (Txt.split s y).length := by
  have h := split_len (s := s) hy hc
  cases e : Txt.split s y with
  | nil => rw [e] at h; simp at h
  | cons a r => simp
theorem split_count {s y : Str} {c : Nat} (hy : tl y = [c]) (hc : y.cps.all (· < 256) = true) : (Txt.split s y).length ≤ s.length + 1 := by
  have h := split_len (s := s) hy hc
  omega
theorem split_part {s y : Str} {c : Nat} (hy : tl y = [c]) (hc : y.cps.all (· < 256) = true) {w : Str} (hw : w ∈ Txt.split s y) : w.length ≤ s.length := by
  have h := split_len (s := s) hy hc
  have p := split_pos (s := s) hy hc
  have m := le_sum (List.mem_map.mpr ⟨w, hw, rfl⟩ : w.length ∈ (Txt.split s y).map (·.length))
  omega
/-! what a word says -/
def pw (w : Str) : Option (Nat × Nat) := match Txt.split w "*" with
  | [a] => (isNum a).map fun n => (n, 1)
  | [a, b] => (isNum a).bind fun n => (isNum b).map fun m => (n, m)
  | _ => none
def rep (p : Nat × Nat) : List Int := List.replicate p.2 (p.1 : Int)
def pws : List Str → Option (List Int)
  | [] => some []
  | w :: ws => (pw w).bind fun p => (pws ws).map fun r => rep p ++ r
def lpw (w : Str) : Option (Nat × Nat) := (pw w).bind fun p => if p.1 ≤ 19 then some p else none
def lpws : List Str → Option (List Int)
  | [] => some []
  | w :: ws => (lpw w).bind fun p => (lpws ws).map fun r => rep p ++ r
/-! runs -/
def addR (rs : List (Int × Nat)) (x : Int) : List (Int × Nat) := match rs.getLast? with
  | some (y, m) => if y = x then rs.dropLast ++ [(y, m + 1)] else rs ++ [(x, 1)]
  | none => rs ++ [(x, 1)]
theorem addR_hit (rs : List (Int × Nat)) (x : Int) (m : Nat) : addR (rs ++ [(x, m)]) x = rs ++ [(x, m + 1)] := by simp [addR]
theorem addR_new {rs : List (Int × Nat)} {x : Int} (h : rs.getLast?.map (·.1) ≠ some x) : addR rs x = rs ++ [(x, 1)] := by
  unfold addR
  split
  · rename_i y m e
    rw [if_neg]
    intro z
    rw [e, z] at h
    exact h rfl
  · rfl
theorem addR_cases (rs : List (Int × Nat)) (x : Int) : (∃ qs m, rs = qs ++ [(x, m)] ∧ addR rs x = qs ++ [(x, m + 1)]) ∨ (rs.getLast?.map (·.1) ≠ some x ∧ addR rs x = rs ++ [(x, 1)]) := by
  by_cases h : rs.getLast?.map (·.1) = some x
  · refine .inl ?_
    cases e : rs.getLast? with
    | none => rw [e] at h; cases h
    | some p =>
      rw [e] at h
      obtain ⟨y, m⟩ := p
      cases h
      obtain ⟨qs, rfl⟩ := List.getLast?_eq_some_iff.mp e
      exact ⟨qs, m, rfl, addR_hit qs _ m⟩
  · exact .inr ⟨h, addR_new h⟩
def runs (l : List Int) : List (Int × Nat) := l.foldl addR []
theorem runs_snoc (l : List Int) (x : Int) : runs (l ++ [x]) = addR (runs l) x := by simp [runs]
theorem snoc_ind {α : Type} {P : List α → Prop} (h0 : P []) (hs : ∀ l x, P l → P (l ++ [x])) (l : List α) : P l := by
  rw [← List.reverse_reverse l]
  induction l.reverse with
  | nil => exact h0
  | cons x xs ih =>
    rw [List.reverse_cons]
    exact hs _ _ ih
theorem runs_last (l : List Int) : (runs l).getLast?.map (·.1) = l.getLast? := by
  induction l using snoc_ind with
  | h0 => rfl
  | hs l x ih =>
    rw [runs_snoc]
    rcases addR_cases (runs l) x with ⟨qs, m, h1, h2⟩ | ⟨h1, h2⟩
    · rw [h2]; simp
    · rw [h2]; simp
def flat (rs : List (Int × Nat)) : List Int := rs.flatMap fun p => List.replicate p.2 p.1
theorem runs_flat (l : List Int) : flat (runs l) = l := by
  induction l using snoc_ind with
  | h0 => rfl
  | hs l x ih =>
    rw [runs_snoc]
    rcases addR_cases (runs l) x with ⟨qs, m, h1, h2⟩ | ⟨h1, h2⟩
    · rw [h1] at ih
      rw [h2]
      simp [flat, List.replicate_succ'] at ih ⊢
      rw [← ih, List.append_assoc]
    · rw [h2]
      simp [flat] at ih ⊢
      exact ih
theorem runs_all (l : List Int) : ∀ p ∈ runs l, p.1 ∈ l ∧ 1 ≤ p.2 ∧ p.2 ≤ l.length := by
  induction l using snoc_ind with
  | h0 => intro p hp; cases hp
  | hs l x ih =>
    rw [runs_snoc]
    intro p hp
    rcases addR_cases (runs l) x with ⟨qs, m, h1, h2⟩ | ⟨h1, h2⟩
    · rw [h2] at hp
      rw [h1] at ih
      rcases List.mem_append.mp hp with hp | hp
      · obtain ⟨a, b, c⟩ := ih p (by simp [hp])
        simp [a, b]
        omega
      · have e := List.mem_singleton.mp hp
        subst e
        obtain ⟨a, b, c⟩ := ih (x, m) (by simp)
        simp at b c ⊢
        omega
    · rw [h2] at hp
      rcases List.mem_append.mp hp with hp | hp
      · obtain ⟨a, b, c⟩ := ih p hp
        simp [a, b]
        omega
      · have e := List.mem_singleton.mp hp
        subst e
        simp
theorem runs_len (l : List Int) : (runs l).length ≤ l.length := by
  induction l using snoc_ind with
  | h0 => exact Nat.le_refl _
  | hs l x ih =>
    rw [runs_snoc]
    rcases addR_cases (runs l) x with ⟨qs, m, h1, h2⟩ | ⟨h1, h2⟩
    · rw [h1] at ih
      rw [h2]
      simp at ih ⊢
      omega
    · rw [h2]
      simp
      omega
/-! the words of a row -/
theorem nm_num (n : Nat) : nm (n : Int) = num n := rfl
def word (p : Int × Nat) : Str := nm p.1 ++ (if 1 < p.2 then "*" ++ nm (p.2 : Int) else "")
def wr (l : List Int) : Str := Txt.join " " ((runs l).map word)
def okP (p : Int × Nat) : Prop := okName p.1 ∧ 1 ≤ p.2 ∧ p.2 < 100
theorem okP_runs {l : List Int} (h : okRow l) : ∀ p ∈ runs l, okP p := fun p hp => by
  obtain ⟨a, b, c⟩ := runs_all l p hp
  have := h.1
  exact ⟨h.2 _ a, b, by omega⟩
theorem nm_of {x : Int} (h : okName x) : nm x = num x.toNat := by
  rw [← nm_num]
  congr 1
  have := h.1
  omega
theorem num_free {n c : Nat} (h : c < 48) : c ∉ tl (num n) := by
  rw [tl_numN]
  exact numL_free (.inl h)
theorem tl_empty : tl ("" : Str) = [] := by decide +kernel
theorem word_free {p : Int × Nat} (h : okP p) : 32 ∉ tl (word p) := by
  unfold word
  rw [nm_of h.1, nm_num, tl_append]
  intro hm
  rcases List.mem_append.mp hm with hm | hm
  · exact num_free (by decide) hm
  · split at hm
    · rw [tl_append, tl_star] at hm
      rcases List.mem_append.mp hm with hm | hm
      · simp at hm
      · exact num_free (by decide) hm
    · rw [tl_empty] at hm
      cases hm
theorem split_one {a : Str} (h : 42 ∉ tl a) : Txt.split a "*" = [a] := by
  have e := split_join tl_star all_star (parts := [a]) (by simp) (by simpa using h)
  rw [join_eq] at e
  exact e
theorem split_two {a b : Str} (h : 42 ∉ tl a) (h2 : 42 ∉ tl b) : Txt.split (a ++ ("*" ++ b)) "*" = [a, b] := by
  have e := split_join tl_star all_star (parts := [a, b]) (by simp) (fun p hp => by
    rcases List.mem_cons.mp hp with rfl | hp
    · exact h
    · rw [List.mem_singleton.mp hp]
      exact h2)
  rw [join_eq] at e
  have e2 : Str.join "*" [a, b] = a ++ ("*" ++ b) := by
    refine ext_tl ?_
    show tl (a ++ "*" ++ b) = _
    simp only [tl_append, List.append_assoc]
  rw [e2] at e
  exact e
theorem pw_word {p : Int × Nat} (h : okP p) : pw (word p) = some (p.1.toNat, p.2) := by
  obtain ⟨h1, h2, h3⟩ := h
  unfold pw word
  rw [nm_of h1, nm_num]
  have a : isNum (num p.1.toNat) = some p.1.toNat := isNum_num (by have := h1.2; omega)
  by_cases h : 1 < p.2
  · rw [if_pos h, split_two (num_free (by decide)) (num_free (by decide))]
    simp [a, isNum_num h3]
  · have e : num p.1.toNat ++ "" = num p.1.toNat := ext_tl (by rw [tl_append, tl_empty, List.append_nil])
    rw [if_neg h, e, split_one (num_free (by decide))]
    have e2 : p.2 = 1 := by omega
    simp [a, e2]
theorem lpw_word {p : Int × Nat} (h : okP p) : lpw (word p) = some (p.1.toNat, p.2) := by
  unfold lpw
  rw [pw_word h]
  have := h.1.2
  simp
  omega
theorem rep_of {p : Int × Nat} (h : okP p) : rep (p.1.toNat, p.2) = List.replicate p.2 p.1 := by
  unfold rep
  congr 1
  have := h.1.1
  simp
  omega
theorem pws_words : ∀ {rs : List (Int × Nat)}, (∀ p ∈ rs, okP p) → pws (rs.map word) = some (flat rs)
  | [], _ => rfl
  | p :: rs, h => by
    have hp := h p (by simp)
    have ih := pws_words fun q hq => h q (List.mem_cons_of_mem _ hq)
    simp [pws, pw_word hp, ih, rep_of hp, flat]
theorem lpws_words : ∀ {rs : List (Int × Nat)}, (∀ p ∈ rs, okP p) → lpws (rs.map word) = some (flat rs)
  | [], _ => rfl
  | p :: rs, h => by
    have hp := h p (by simp)
    have ih := lpws_words fun q hq => h q (List.mem_cons_of_mem _ hq)
    simp [lpws, lpw_word hp, ih, rep_of hp, flat]
theorem runs_ne {l : List Int} (h : l ≠ []) : runs l ≠ [] := fun e => by
  have := runs_flat l
  rw [e] at this
  exact h this.symm
theorem split_wr {l : List Int} (h : okRow l) (hn : l ≠ []) : Txt.split (wr l) " " = (runs l).map word := by
  refine split_join tl_blank all_blank (fun e => runs_ne hn (List.map_eq_nil_iff.mp e)) fun w hw => ?_
  obtain ⟨p, hp, rfl⟩ := List.mem_map.mp hw
  exact word_free (okP_runs h p hp)
theorem word_pos {p : Int × Nat} (h : okP p) : 1 ≤ (word p).length := by
  have h1 := h.1.2
  have n := (num_len2 (k := p.1.toNat) (by omega)).1
  unfold word
  rw [nm_of h.1, len_tl, tl_append, List.length_append, ← len_tl (num _)]
  omega
theorem wr_ne {l : List Int} (h : okRow l) (hn : l ≠ []) : wr l ≠ "" := fun e => by
  have s := split_len (s := wr l) tl_blank all_blank
  rw [split_wr h hn, e] at s
  have z : ("" : Str).length = 0 := by decide +kernel
  rw [z] at s
  cases er : runs l with
  | nil => exact runs_ne hn er
  | cons p rs =>
    have := word_pos (okP_runs h p (by rw [er]; simp))
    rw [er] at s
    simp at s
    omega
/-! the row that a text says -/
def rowOf (t : Str) : Option (List Int) := if t = "" then some [] else (pws (Txt.split t " ")).bind fun r => if okRow r ∧ wr r = t then some r else none
theorem rowOf_wr {l : List Int} (h : okRow l) : rowOf (wr l) = some l := by
  by_cases hn : l = []
  · subst hn
    have e : wr [] = "" := by decide +kernel
    rw [e, rowOf, if_pos rfl]
  · rw [rowOf, if_neg (wr_ne h hn), split_wr h hn, pws_words (okP_runs h), runs_flat]
    simp [h]
theorem pws_of_lpws : ∀ {ws : List Str} {r : List Int}, lpws ws = some r → pws ws = some r ∧ ∀ x ∈ r, okName x
  | [], r, h => by cases h; exact ⟨rfl, by simp⟩
  | w :: ws, r, h => by
    unfold lpws lpw at h
    cases e : pw w with
    | none => rw [e] at h; cases h
    | some p =>
      rw [e] at h
      by_cases hp : p.1 ≤ 19
      · cases e2 : lpws ws with
        | none => rw [e2] at h; simp [hp] at h
        | some q =>
          rw [e2] at h
          simp [hp] at h
          subst h
          obtain ⟨a, b⟩ := pws_of_lpws e2
          refine ⟨by simp [pws, e, a], fun x hx => ?_⟩
          rcases List.mem_append.mp hx with hx | hx
          · have hx := (List.mem_replicate.mp hx).2
            subst hx
            exact ⟨by omega, by omega⟩
          · exact b x hx
      · simp [hp] at h
theorem rowOf_law {t : Str} (ht : t ≠ "") : rowOf t = (lpws (Txt.split t " ")).bind fun r => if r.length ≤ 24 ∧ wr r = t then some r else none := by
  cases e : lpws (Txt.split t " ") with
  | some r =>
    obtain ⟨a, b⟩ := pws_of_lpws e
    have c : (okRow r ∧ wr r = t) = (r.length ≤ 24 ∧ wr r = t) := by
      apply propext
      exact ⟨fun h => ⟨h.1.1, h.2⟩, fun h => ⟨⟨h.1, b⟩, h.2⟩⟩
    simp only [rowOf, if_neg ht, a, Option.bind_some, c]
  | none =>
    rw [rowOf, if_neg ht]
    cases e2 : pws (Txt.split t " ") with
    | none => rfl
    | some r =>
      show (if okRow r ∧ wr r = t then some r else none) = none
      rw [if_neg]
      rintro ⟨h1, h2⟩
      have hn : r ≠ [] := by
        rintro rfl
        exact ht (h2.symm.trans (by decide +kernel))
      rw [← h2, split_wr h1 hn, lpws_words (okP_runs h1)] at e
      cases e
end K02
namespace K02
open PySem L2 G8 TL
/-! number_in -/
theorem tl_0 : tl ("0" : Str) = [48] := by decide +kernel
theorem beq_tl (a b : Str) : (a == b) = decide (tl a = tl b) := by
  by_cases h : a = b
  · subst h
    simp
  · have : tl a ≠ tl b := fun z => h (ext_tl z)
    rw [decide_eq_false this, beq_eq_false_iff_ne.mpr h]
theorem sgn_comp2 (s : Str) (hl : s.length ≤ 5000) : compL (.one 1) (retM true) e_number_in_1 (sgnD s) [] [some (.d (.str s)), none] = .ok (((tl s).map fun c => decide (48 ≤ c ∧ c ≤ 57)).map PyData.bool) [some (.d (.str s)), none] := by
  rw [sgn_comp s hl, List.map_map]
  rfl
theorem num_in_ok {k : Nat} (h : k < 100) : F_number_in [.d (.str (num k))] = .ok (.d (.int k)) [none] := by
  obtain ⟨l1, l2⟩ := num_len2 h
  have c := sgn_comp2 (num k) (by omega)
  have b : (((tl (num k)).map (fun c => decide (48 ≤ c ∧ c ≤ 57))).all id) = true := by
    rw [List.all_map, List.all_eq_true]
    intro x hx
    rw [tl_numN] at hx
    have := numL_digits k x hx
    exact decide_eq_true ⟨by omega, by omega⟩
  have n1 : (num k).length ≤ 1000000 := by omega
  have n2 : (num k).length ≤ 640 := by omega
  have n3 : intText? (num k) = some (k : Int) := int_num (by rw [← tl_numN, ← len_tl]; omega)
  have n4 : (1 : Int) ≤ ((num k).length : Int) := by omega
  have n5 : ((num k).length : Int) ≤ 2 := by omega
  generalize hL : ((tl (num k)).map fun c => decide (48 ≤ c ∧ c ≤ 57)) = L at c b
  have ch := chk_num h
  cases e : tl (num k) with
  | nil => rw [e] at ch; cases ch
  | cons x r =>
    have a0 : atI (num k).cps.toList 0 = some x := by
      have : (num k).cps.toList = x :: r := e
      rw [this]
      exact (G8.atI_nat (x :: r) 0).trans rfl
    have nz : x = 48 → (num k == "0") = true := fun hx => by
      rw [beq_tl, e, tl_0]
      rw [e] at ch
      subst hx
      cases r with
      | nil => rfl
      | cons y r => cases r <;> simp [chk] at ch
    have n6 : ((⟨#[x]⟩ : Str) == "0") = decide (x = 48) := by
      rw [beq_tl, tl_0]
      apply decide_eq_decide.mpr
      show [x] = [48] ↔ _
      simp
    by_cases hx : x = 48
    · have nz := nz hx
      rw [decide_eq_true hx] at n6
      simp [F_number_in, f_number_in, bodyF_ap, n1, n2, n3, n4, n5, c, lenA, lenD, b, a0, n6, nz]
    · rw [decide_eq_false hx] at n6
      simp [F_number_in, f_number_in, bodyF_ap, n1, n2, n3, n4, n5, c, lenA, lenD, b, a0, n6]
theorem num_in_bad {s : Str} (hl : s.length ≤ 5000) (h : isNum s = none) : F_number_in [.d (.str s)] = .err 7 [none] := by
  have ch := isNum_none h
  have c := sgn_comp2 s hl
  have n1 : s.length ≤ 1000000 := by omega
  by_cases l1 : 1 ≤ s.length
  · by_cases l2 : s.length ≤ 2
    · have n4 : (1 : Int) ≤ (s.length : Int) := by omega
      have n5 : (s.length : Int) ≤ 2 := by omega
      cases b : (((tl s).map (fun c => decide (48 ≤ c ∧ c ≤ 57))).all id) with
      | false =>
        generalize hL : ((tl s).map fun c => decide (48 ≤ c ∧ c ≤ 57)) = L at c b
        simp [F_number_in, f_number_in, bodyF_ap, n1, n4, n5, c, lenA, lenD, b]
      | true =>
        rw [List.all_map, List.all_eq_true] at b
        rw [len_tl] at l1 l2
        have key : ∃ d, tl s = [48, d] := by
          match e : tl s, l1, l2 with
          | [x], _, _ =>
            rw [e] at b ch
            have := b x (by simp)
            simp only [chk] at ch
            have : decide (48 ≤ x ∧ x ≤ 57) = true := this
            rw [ch] at this
            cases this
          | [x, y], _, _ =>
            rw [e] at b ch
            have hx := of_decide_eq_true (b x (by simp))
            have hy : decide (48 ≤ y ∧ y ≤ 57) = true := b y (by simp)
            refine ⟨y, ?_⟩
            simp only [chk, hy, Bool.and_true] at ch
            have ch := of_decide_eq_false ch
            have : x = 48 := by omega
            rw [this]
        obtain ⟨d, e⟩ := key
        have b : (((tl s).map (fun c => decide (48 ≤ c ∧ c ≤ 57))).all id) = true := by
          rw [List.all_map, List.all_eq_true]
          exact b
        have a0 : atI s.cps.toList 0 = some 48 := by
          have : s.cps.toList = [48, d] := e
          rw [this]
          rfl
        have n6 : ((⟨#[48]⟩ : Str) == "0") = true := by decide +kernel
        have n7 : (s == "0") = false := by
          rw [beq_tl, e, tl_0]
          simp
        generalize hL : ((tl s).map fun c => decide (48 ≤ c ∧ c ≤ 57)) = L at c b
        simp [F_number_in, f_number_in, bodyF_ap, n1, n4, n5, c, lenA, lenD, b, a0, n6, n7]
    · have n5 : ¬ (s.length : Int) ≤ 2 := by omega
      have n4 : (1 : Int) ≤ (s.length : Int) := by omega
      simp [F_number_in, f_number_in, bodyF_ap, n1, n4, n5, lenA, lenD]
  · have n4 : ¬ (1 : Int) ≤ (s.length : Int) := by omega
    simp [F_number_in, f_number_in, bodyF_ap, n1, n4, lenA, lenD]
end K02
namespace K02
open PySem L2 G8 TL
/-! read, one word -/
theorem atI_0 {α : Type} (x : α) (r : List α) : atI (x :: r) 0 = some x := (G8.atI_nat (x :: r) 0).trans rfl
theorem atI_1 {α : Type} (x y : α) (r : List α) : atI (x :: y :: r) 1 = some y := (G8.atI_nat (x :: y :: r) 1).trans rfl
theorem star_len : (("*" : Str).length == 0) = false := by decide +kernel
theorem blank_len : ((" " : Str).length == 0) = false := by decide +kernel
theorem rep_flat (n m : Nat) : (List.replicate m [PyData.int (n : Int)]).flatten = (rep (n, m)).map PyData.int := by simp [rep]
theorem rep_len (n m : Nat) : ((rep (n, m)).map PyData.int).length = m := by simp [rep]
theorem word_ok {t : Dt} {w : Str} {p : Nat × Nat} {found : List Int} {x3 x4 : Option Sv} (hw : w.length ≤ 5000) (hp : pw w = some p) (hf : found.length ≤ 900000) (h4 : refAt (some x4) = false) :
    b_read_1 [some (.d t), some (.ls false (found.map PyData.int)), some (.d (.str w)), x3, x4] = .ok .nx [some (.d t), some (.ls false ((found ++ rep p).map PyData.int)), some (.d (.str w)), x3, some (.ls false ((Txt.split w "*").map PyData.str))] ∧ p.2 < 100 := by
  have hw1 : w.length ≤ 1000000 := by omega
  have sl := star_len
  unfold pw at hp
  split at hp
  · rename_i a e
    cases ha : isNum a with
    | none => rw [ha] at hp; cases hp
    | some n =>
      rw [ha] at hp
      cases hp
      obtain ⟨k1, rfl⟩ := isNum_some ha
      have nk := num_in_ok k1
      have m1 : mid (1 : Int) = true := mid_nat (n := 1) (by decide)
      have ll : found.length + 1 ≤ 1000000 := by omega
      refine ⟨?_, by show 1 < 100; decide⟩
      simp [b_read_1_ap, hw1, sl, e, h4, atI_0, nk, lenA, mulD, m1, extD, ll, rep]
  · rename_i a b e
    cases ha : isNum a with
    | none => rw [ha] at hp; cases hp
    | some n =>
      cases hb : isNum b with
      | none => rw [ha, hb] at hp; cases hp
      | some m =>
        rw [ha, hb] at hp
        cases hp
        obtain ⟨k1, rfl⟩ := isNum_some ha
        obtain ⟨k2, rfl⟩ := isNum_some hb
        have nk := num_in_ok k1
        have nk2 := num_in_ok k2
        have m1 : mid (m : Int) = true := mid_nat (n := m) (by omega)
        have ll : found.length + m ≤ 1000000 := by omega
        have m2 : (m : Int) ≤ 1000 := by omega
        refine ⟨?_, k2⟩
        simp [b_read_1_ap, hw1, sl, e, h4, atI_0, atI_1, nk, nk2, lenA, mulD, m1, m2, extD, ll, rep]
  · cases hp
theorem word_bad {t : Dt} {w : Str} {found : List Int} {x3 x4 : Option Sv} (hw : w.length ≤ 5000) (hp : pw w = none) (h4 : refAt (some x4) = false) :
    ∃ ρ', b_read_1 [some (.d t), some (.ls false (found.map PyData.int)), some (.d (.str w)), x3, x4] = .err 7 ρ' := by
  have hw1 : w.length ≤ 1000000 := by omega
  have sl := star_len
  have sp := split_pos (s := w) tl_star all_star
  have sp2 : ∀ a ∈ Txt.split w "*", a.length ≤ 5000 := fun a ha => Nat.le_trans (split_part tl_star all_star ha) hw
  unfold pw at hp
  match e : Txt.split w "*", sp with
  | [a], _ =>
    rw [e] at hp sp2
    have la := sp2 a (by simp)
    cases ha : isNum a with
    | some n => simp [ha] at hp
    | none =>
      have nk := num_in_bad la ha
      simp [b_read_1_ap, hw1, sl, e, h4, atI_0, nk, lenA]
  | [a, b], _ =>
    rw [e] at hp sp2
    have la := sp2 a (by simp)
    have lb := sp2 b (by simp)
    cases ha : isNum a with
    | none =>
      have nk := num_in_bad la ha
      simp [b_read_1_ap, hw1, sl, e, h4, atI_0, nk, lenA]
    | some n =>
      cases hb : isNum b with
      | some m => simp [ha, hb] at hp
      | none =>
        obtain ⟨k1, rfl⟩ := isNum_some ha
        have nk := num_in_ok k1
        have nk2 := num_in_bad lb hb
        simp [b_read_1_ap, hw1, sl, e, h4, atI_0, atI_1, nk, nk2, lenA]
  | a :: b :: c :: r, _ =>
    have l3 : (2 : Int) < ((r.length : Int) + 1 + 1 + 1) := by omega
    simp [b_read_1_ap, hw1, sl, e, h4, lenA, l3]
theorem read_ok (t : Dt) : ∀ (ws : List Str) (found r : List Int) (x2 x3 x4 : Option Sv), (∀ w ∈ ws, w.length ≤ 5000) → pws ws = some r → found.length + 100 * ws.length ≤ 900000 → ownAt (some x2) = false → refAt (some x4) = false →
    ∃ x2' x4', forL (.one 2) b_read_1 (ws.map PyData.str) [some (.d t), some (.ls false (found.map PyData.int)), x2, x3, x4] = .ok .nx [some (.d t), some (.ls false ((found ++ r).map PyData.int)), x2', x3, x4']
  | [], found, r, x2, x3, x4, _, h, _, h2, h4 => by
    cases h
    exact ⟨x2, x4, by simp⟩
  | w :: ws, found, r, x2, x3, x4, hw, h, hl, h2, h4 => by
    unfold pws at h
    cases hp : pw w with
    | none => rw [hp] at h; cases h
    | some p =>
      cases hq : pws ws with
      | none => rw [hp, hq] at h; cases h
      | some q =>
        rw [hp, hq] at h
        cases h
        rw [List.length_cons] at hl
        obtain ⟨e1, lt⟩ := word_ok (t := t) (x3 := x3) (hw w (by simp)) hp (found := found) (by omega) h4
        obtain ⟨x2', x4', e⟩ := read_ok t ws (found ++ rep p) q (some (.d (.str w))) x3 (some (.ls false ((Txt.split w "*").map PyData.str))) (fun v hv => hw v (List.mem_cons_of_mem _ hv)) hq (by
          have : (rep p).length = p.2 := by simp [rep]
          rw [List.length_append, this]
          omega) rfl rfl
        refine ⟨x2', x4', ?_⟩
        rw [List.map_cons, forL_round]
        rw [List.append_assoc] at e
        simp only [roundM_ap, putT, putD_ap, List.getElem?_cons_succ, List.getElem?_cons_zero, h2, List.set_cons_succ, List.set_cons_zero, e1, e, Bool.false_eq_true, if_false]
theorem read_bad (t : Dt) : ∀ (ws : List Str) (found : List Int) (x2 x3 x4 : Option Sv), (∀ w ∈ ws, w.length ≤ 5000) → pws ws = none → found.length + 100 * ws.length ≤ 900000 → ownAt (some x2) = false → refAt (some x4) = false →
    ∃ ρ', forL (.one 2) b_read_1 (ws.map PyData.str) [some (.d t), some (.ls false (found.map PyData.int)), x2, x3, x4] = .err 7 ρ'
  | [], found, x2, x3, x4, _, h, _, h2, h4 => by cases h
  | w :: ws, found, x2, x3, x4, hw, h, hl, h2, h4 => by
    unfold pws at h
    rw [List.length_cons] at hl
    cases hp : pw w with
    | none =>
      obtain ⟨ρ', e1⟩ := word_bad (t := t) (found := found) (x3 := x3) (hw w (by simp)) hp h4
      refine ⟨ρ', ?_⟩
      rw [List.map_cons, forL_round]
      simp [roundM_ap, h2, e1]
    | some p =>
      have hq : pws ws = none := by
        cases hq : pws ws with
        | none => rfl
        | some q => rw [hp, hq] at h; cases h
      obtain ⟨e1, lt⟩ := word_ok (t := t) (x3 := x3) (hw w (by simp)) hp (found := found) (by omega) h4
      obtain ⟨ρ', e⟩ := read_bad t ws (found ++ rep p) (some (.d (.str w))) x3 (some (.ls false ((Txt.split w "*").map PyData.str))) (fun v hv => hw v (List.mem_cons_of_mem _ hv)) hq (by
        have : (rep p).length = p.2 := by simp [rep]
        rw [List.length_append, this]
        omega) rfl rfl
      refine ⟨ρ', ?_⟩
      rw [List.map_cons, forL_round]
      simp only [List.map_append] at e e1
      simp [roundM_ap, h2, e1, e]
end K02
namespace K02
open PySem L2 G8 TL
/-! written -/
def runD (p : Int × Nat) : Dt := .tuple [.int p.1, .int (p.2 : Int)]
theorem atI_last {α : Type} (L : List α) (z : α) : atI (L ++ [z]) (-1) = some z := by
  unfold atI ixN
  rw [List.length_append, List.length_singleton, if_neg (by omega), if_pos (by omega)]
  have : (-1 + ((L.length + 1 : Nat) : Int)).toNat = L.length := by omega
  rw [this]
  simp
theorem ixN_last (n : Nat) : ixN (n + 1) (-1) = some n := by
  unfold ixN
  rw [if_neg (by omega), if_pos (by omega)]
  have : (-1 + ((n + 1 : Nat) : Int)).toNat = n := by omega
  rw [this]
theorem at_row {row : List Int} {k : Nat} (h : k < row.length) : atI (row.map PyData.int) (k : Int) = some (.int row[k]) := by
  rw [G8.atI_nat, List.getElem?_map, List.getElem?_eq_getElem h]
  rfl
theorem runs_take {row : List Int} {k : Nat} (h : k < row.length) : runs (row.take (k + 1)) = addR (runs (row.take k)) row[k] := by
  rw [List.take_succ_eq_append_getElem h, runs_snoc]
theorem last_take {row : List Int} {k : Nat} (h : k < row.length) : (row.take (k + 1)).getLast? = some row[k] := by
  rw [List.take_succ_eq_append_getElem h, List.getLast?_concat]
theorem b_written {row : List Int} {k : Nat} {x3 x4 : Option Sv} (h : k < row.length) (hl : row.length ≤ 24) :
    b_written_1 [some (.d (.list (row.map PyData.int))), some (.ls false ((runs (row.take k)).map runD)), some (.d (.int k)), x3, x4] = .ok .nx [some (.d (.list (row.map PyData.int))), some (.ls false ((runs (row.take (k + 1))).map runD)), some (.d (.int k)), x3, x4] := by
  have a1 := at_row h
  have rl := runs_len (row.take k)
  rw [List.length_take] at rl
  rw [runs_take h]
  cases k with
  | zero =>
    have e : addR (runs (row.take 0)) row[0] = [(row[0], 1)] := rfl
    have e0 : runs (row.take 0) = [] := rfl
    have a1 : atI (row.map PyData.int) 0 = some (.int row[0]) := a1
    rw [e, e0]
    simp [b_written_1_ap, a1, appD, runD]
  | succ k =>
    have h' : k < row.length := by omega
    have a2 := at_row h'
    have c1 : (0 : Int) < (k : Int) + 1 := by omega
    have c2 : (k : Int) + 1 - 1 = (k : Int) := by omega
    have a1 : atI (row.map PyData.int) ((k : Int) + 1) = some (.int row[k + 1]) := a1
    have ls := runs_last (row.take (k + 1))
    rw [last_take h'] at ls
    have c3 : ((runs (row.take (k + 1))).map runD).length < 1000000 := by rw [List.length_map]; omega
    rcases addR_cases (runs (row.take (k + 1))) row[k + 1] with ⟨qs, m, h1, h2⟩ | ⟨h1, h2⟩
    · rw [h2]
      rw [h1] at ls ⊢
      have eq : row[k + 1] = row[k] := by simpa using ls
      have l1 := atI_last (qs.map runD) (runD (row[k], m))
      have l2 := ixN_last qs.length
      simp only [runD] at l1
      simp [b_written_1_ap, a1, a2, c1, c2, eq, l1, l2, runD, atI_0, atI_1]
    · rw [h2]
      rw [ls] at h1
      have ne : ¬ row[k + 1] = row[k] := fun z => h1 (by rw [z])
      simp at c3
      simp [b_written_1_ap, a1, a2, c1, c2, ne, appD, runD, c3]
theorem e_written (p : Int × Nat) (h : okP p) {x0 x1 x2 : Option Sv} : stepL (.tup [3, 4]) (retM true) e_written_1 (runD p) [x0, x1, x2, none, none] = .ok (some (.str (word p))) [x0, x1, x2, none, none] := by
  obtain ⟨⟨h1, h2⟩, h3, h4⟩ := h
  have n1 : p.1.natAbs < 1000000 := by omega
  have n2 : p.2 < 1000000 := by omega
  have l1 := (num_len2 (k := p.1.toNat) (by omega)).2
  have l2 := (num_len2 (k := p.2) (by omega)).2
  rw [← nm_of ⟨h1, h2⟩] at l1
  rw [← nm_num] at l2
  have ls : ("*" : Str).length = 1 := by decide +kernel
  have le : ("" : Str).length = 0 := by decide +kernel
  have l5 : 1 + (nm (p.2 : Int)).length ≤ 1000000 := by omega
  have l6 : (nm p.1).length ≤ 1000000 := by omega
  have l7 : (nm p.1).length + ("*" ++ nm (p.2 : Int)).length ≤ 1000000 := by
    rw [len_tl ("*" ++ _), tl_append, List.length_append, ← len_tl, ← len_tl, ls]
    omega
  by_cases c : 1 < p.2
  · have c' : (1 : Int) < (p.2 : Int) := by omega
    simp [stepL_ap, runD, e_written_1_ap, n1, n2, c', word, c, ls, l5, l7]
  · have c' : ¬ (1 : Int) < (p.2 : Int) := by omega
    simp [stepL_ap, runD, e_written_1_ap, n1, n2, c', word, c, le, l6]
theorem word_len {p : Int × Nat} (h : okP p) : (word p).length ≤ 5 := by
  obtain ⟨⟨h1, h2⟩, h3, h4⟩ := h
  have l1 := (num_len2 (k := p.1.toNat) (by omega)).2
  have l2 := (num_len2 (k := p.2) (by omega)).2
  rw [← nm_of ⟨h1, h2⟩] at l1
  rw [← nm_num] at l2
  unfold word
  rw [len_tl, tl_append, List.length_append, ← len_tl]
  split
  · rw [tl_append, List.length_append, tl_star, ← len_tl]
    simp
    omega
  · rw [tl_empty]
    simp
    omega
theorem sum_le : ∀ (l : List (Int × Nat)), (∀ p ∈ l, okP p) → ((l.map word).map (·.length)).sum ≤ 5 * l.length
  | [], _ => by simp
  | p :: l, h => by
    have h1 := word_len (h p (by simp))
    have h2 := sum_le l fun q hq => h q (List.mem_cons_of_mem _ hq)
    simp at h2 ⊢
    omega
theorem blank_one : (" " : Str).length = 1 := by decide +kernel
theorem join_ok {row : List Int} (h : okRow row) : joinD (.str " ") (.list (((runs row).map word).map PyData.str)) = some (.str (wr row)) := by
  rw [joinD_s, if_pos]
  · rfl
  · have h1 := sum_le (runs row) (okP_runs h)
    have h2 := runs_len row
    have h3 := h.1
    rw [blank_one, List.length_map]
    omega
theorem written_ok {row : List Int} (h : okRow row) : F_written [.d (il row)] = .ok (.d (.str (wr row))) [none] := by
  have l := look_row_ok h
  have hl := h.1
  have hm : mid (row.length : Int) = true := mid_nat (by omega)
  obtain ⟨ρ', h1, x2, h2, h3⟩ := forL_inv (t := .one 2) (body := b_written_1) (fun (i : Nat) => PyData.int (i : Int)) (fun k ρ => ∃ x2, ownAt (some x2) = false ∧ ρ = [some (.d (.list (row.map PyData.int))), some (.ls false ((runs (row.take k)).map runD)), x2, none, none]) (List.range row.length) 0
    [some (.d (.list (row.map PyData.int))), some (.ls false []), none, none, none] ⟨none, rfl, rfl⟩ (by
      rintro i x ρ hx ⟨x2, h2, rfl⟩
      refine ⟨_, .inl ?_, some (.d (.int x)), rfl, rfl⟩
      obtain ⟨hi, hx⟩ := List.getElem?_eq_some_iff.mp hx
      rw [List.length_range] at hi
      rw [List.getElem_range] at hx
      subst hx
      simp only [Nat.zero_add]
      have e := b_written (x3 := none) (x4 := none) hi hl
      simp [roundM_ap, h2, e])
  subst h3
  simp only [List.length_range, Nat.zero_add, List.take_length] at h1
  have cp : compL (.tup [3, 4]) (retM true) e_written_1 ((runs row).map runD) [] [some (.d (.list (row.map PyData.int))), some (.d (.list ((runs row).map runD))), x2, none, none] = .ok (((runs row).map word).map PyData.str) [some (.d (.list (row.map PyData.int))), some (.d (.list ((runs row).map runD))), x2, none, none] := by
    rw [List.map_map]
    refine compL_map runD _ (runs row) (by have := runs_len row; omega) fun p hp => ?_
    exact e_written p (okP_runs h p hp)
  have j := join_ok h
  generalize (runs row).map runD = L at h1 cp
  generalize ((runs row).map word).map PyData.str = W at cp j
  unfold il at l ⊢
  simp [F_written, f_written, bodyF_ap, l, hm, rangeD0, h1, seqOf, cp, j, lenA, lenD]
/-! the law's own text -/
theorem inner {row : List Int} {k : Nat} (hk : k < row.length) (base : List (Int × Nat)) (x1 : Option Sv) : ∀ (n j : Nat), k + 1 ≤ j → j ≤ row.length → row.length - j < n → runs (row.take j) = base ++ [(row[k], j - k)] →
    ∃ j', k + 1 ≤ j' ∧ j' ≤ row.length ∧ runs (row.take j') = base ++ [(row[k], j' - k)] ∧ (∀ h : j' < row.length, row[j'] ≠ row[k]) ∧
      whileL t__law_text_1 b__law_text_1 n [some (.d (.list (row.map PyData.int))), x1, some (.d (.int k)), some (.d (.int j))] = .ok .nx [some (.d (.list (row.map PyData.int))), x1, some (.d (.int k)), some (.d (.int j'))]
  | 0, j, _, _, h, _ => by omega
  | n + 1, j, h1, h2, h3, h4 => by
    by_cases hj : j < row.length
    · have a1 := at_row hk
      have a2 := at_row hj
      have c1 : (j : Int) < (row.length : Int) := by omega
      by_cases e : row[j] = row[k]
      · have r : runs (row.take (j + 1)) = base ++ [(row[k], j + 1 - k)] := by
          rw [runs_take hj, h4, e, addR_hit]
          congr 3
          omega
        obtain ⟨j', b1, b2, b3, b4, b5⟩ := inner hk base x1 n (j + 1) (by omega) (by omega) (by omega) r
        refine ⟨j', b1, b2, b3, b4, ?_⟩
        have t : t__law_text_1 [some (.d (.list (row.map PyData.int))), x1, some (.d (.int k)), some (.d (.int j))] = .ok true [some (.d (.list (row.map PyData.int))), x1, some (.d (.int k)), some (.d (.int j))] := by
          simp [t__law_text_1_ap, a1, a2, e, c1, lenA, lenD]
        have b : b__law_text_1 [some (.d (.list (row.map PyData.int))), x1, some (.d (.int k)), some (.d (.int j))] = .ok .nx [some (.d (.list (row.map PyData.int))), x1, some (.d (.int k)), some (.d (.int ((j + 1 : Nat) : Int)))] := by
          simp [b__law_text_1_ap]
        rw [whileL_go t b]
        exact b5
      · refine ⟨j, h1, h2, h4, fun _ => e, whileL_stop ?_⟩
        simp [t__law_text_1_ap, a1, a2, e, c1, lenA, lenD]
    · refine ⟨j, h1, h2, h4, fun h => absurd h hj, whileL_stop ?_⟩
      have c1 : ¬ (j : Int) < (row.length : Int) := by omega
      simp [t__law_text_1_ap, c1, lenA, lenD]
def wD (rs : List (Int × Nat)) : List Dt := (rs.map word).map PyData.str
theorem one_word {row : List Int} (h : okRow row) {k : Nat} (hk : k < row.length) (hb : (runs (row.take k)).getLast?.map (·.1) ≠ some row[k]) {x3 : Option Sv} (h3 : refAt (some x3) = false) :
    ∃ j, k < j ∧ j ≤ row.length ∧ (∀ h : j < row.length, (runs (row.take j)).getLast?.map (·.1) ≠ some row[j]) ∧
      b__law_text_2 [some (.d (.list (row.map PyData.int))), some (.ls false (wD (runs (row.take k)))), some (.d (.int k)), x3] = .ok .nx [some (.d (.list (row.map PyData.int))), some (.ls false (wD (runs (row.take j)))), some (.d (.int j)), some (.d (.int j))] := by
  have hl := h.1
  have a1 := at_row hk
  have r : runs (row.take (k + 1)) = runs (row.take k) ++ [(row[k], k + 1 - k)] := by
    rw [runs_take hk, addR_new hb]
    congr 3
    omega
  obtain ⟨j, b1, b2, b3, b4, b5⟩ := inner hk (runs (row.take k)) (some (.ls false (wD (runs (row.take k))))) 99 (k + 1) (Nat.le_refl _) (by omega) (by omega) r
  have t : t__law_text_1 [some (.d (.list (row.map PyData.int))), some (.ls false (wD (runs (row.take k)))), some (.d (.int k)), some (.d (.int k))] = .ok true [some (.d (.list (row.map PyData.int))), some (.ls false (wD (runs (row.take k)))), some (.d (.int k)), some (.d (.int k))] := by
    simp [t__law_text_1_ap, a1, hk, lenA, lenD]
  have b : b__law_text_1 [some (.d (.list (row.map PyData.int))), some (.ls false (wD (runs (row.take k)))), some (.d (.int k)), some (.d (.int k))] = .ok .nx [some (.d (.list (row.map PyData.int))), some (.ls false (wD (runs (row.take k)))), some (.d (.int k)), some (.d (.int ((k + 1 : Nat) : Int)))] := by
    simp [b__law_text_1_ap]
  have w := (whileL_go (n := 99) t b).trans b5
  refine ⟨j, by omega, b2, fun hj => ?_, ?_⟩
  · rw [b3]
    simp
    exact fun z => b4 hj z.symm
  · have okp : okP (row[k], j - k) := ⟨h.2 _ (List.getElem_mem hk), by show 1 ≤ j - k; omega, by show j - k < 100; omega⟩
    have wl := word_len okp
    have n1 : row[k].natAbs < 1000000 := by
      have := okp.1.1
      have := okp.1.2
      dsimp only at *
      omega
    have sub : (j : Int) - (k : Int) = ((j - k : Nat) : Int) := by omega
    have n2 : j - k < 1000000 := by omega
    have l2 := (num_len2 (k := j - k) (by omega)).2
    rw [← nm_num] at l2
    have l3 := (num_len2 (k := row[k].toNat) (by have := okp.1.2; dsimp only at this; omega)).2
    rw [← nm_of okp.1] at l3
    dsimp only at l3
    have ls : ("*" : Str).length = 1 := by decide +kernel
    have le : ("" : Str).length = 0 := by decide +kernel
    have l5 : 1 + (nm ((j - k : Nat) : Int)).length ≤ 1000000 := by omega
    have l6 : (nm row[k]).length ≤ 1000000 := by omega
    have l7 : (nm row[k]).length + ("*" ++ nm ((j - k : Nat) : Int)).length ≤ 1000000 := by
      rw [len_tl ("*" ++ _), tl_append, List.length_append, ← len_tl, ← len_tl, ls]
      omega
    have rl := runs_len (row.take k)
    rw [List.length_take] at rl
    have l8 : (wD (runs (row.take k))).length < 1000000 := by
      unfold wD
      rw [List.length_map, List.length_map]
      omega
    have e2 : wD (runs (row.take j)) = wD (runs (row.take k)) ++ [.str (word (row[k], j - k))] := by
      rw [b3]
      simp [wD]
    rw [e2]
    generalize wD (runs (row.take k)) = W at w l8
    generalize hq : j - k = q at *
    by_cases c : 1 < q
    · have c' : (1 : Int) < (q : Int) := by omega
      simp [b__law_text_2_ap, w, h3, a1, n1, n2, sub, ls, l5, l7, c', intD, atI_1, appD, l8, word, c]
    · have c' : ¬ (1 : Int) < (q : Int) := by omega
      simp [b__law_text_2_ap, w, h3, a1, n1, n2, sub, ls, le, l5, l6, c', intD, atI_0, appD, l8, word, c]
theorem outer {row : List Int} (h : okRow row) : ∀ (n k : Nat) (x3 : Option Sv), k ≤ row.length → row.length - k < n → (∀ h : k < row.length, (runs (row.take k)).getLast?.map (·.1) ≠ some row[k]) → refAt (some x3) = false →
    ∃ x2 x3', whileL (cmpT ltI (varM 2) (lenM (varM 0))) b__law_text_2 n [some (.d (.list (row.map PyData.int))), some (.ls false (wD (runs (row.take k)))), some (.d (.int k)), x3] = .ok .nx [some (.d (.list (row.map PyData.int))), some (.ls false (wD (runs row))), x2, x3']
  | 0, k, _, _, h, _, _ => by omega
  | n + 1, k, x3, h1, h2, h3, h4 => by
    by_cases hk : k < row.length
    · obtain ⟨j, b1, b2, b3, b4⟩ := one_word h hk (h3 hk) h4
      obtain ⟨x2, x3', e⟩ := outer h n j (some (.d (.int j))) b2 (by omega) b3 rfl
      refine ⟨x2, x3', ?_⟩
      rw [whileL_go (by simp [hk, lenA, lenD]) b4]
      exact e
    · have e : k = row.length := by omega
      subst e
      rw [List.take_length]
      refine ⟨some (.d (.int row.length)), x3, whileL_stop ?_⟩
      simp [lenA, lenD]
theorem text_ok {row : List Int} (h : okRow row) : F__law_text [.d (il row)] = .ok (.d (.str (wr row))) [none] := by
  obtain ⟨x2, x3, e⟩ := outer h 100 0 none (by omega) (by have := h.1; omega) (fun _ => by simp [runs]) rfl
  have e0 : wD (runs (row.take 0)) = [] := rfl
  rw [e0] at e
  have j := join_ok h
  have e1 : wD (runs row) = ((runs row).map word).map PyData.str := rfl
  rw [e1] at e
  generalize ((runs row).map word).map PyData.str = W at e j
  unfold il
  have e' : whileL (cmpT ltI (varM 2) (lenM (varM 0))) b__law_text_2 100 [some (.d (.list (row.map PyData.int))), some (.ls false []), some (.d (.int 0)), none] = .ok .nx [some (.d (.list (row.map PyData.int))), some (.ls false W), x2, x3] := e
  simp [F__law_text, f__law_text, bodyF_ap, e', j]
end K02
namespace K02
open PySem L2 G8 TL
/-! read -/
theorem pws_0 : pws [] = some [] := rfl
theorem wr_0 : wr [] = "" := by decide +kernel
theorem words_le {t : Str} (h : t.length ≤ 5000) : ∀ w ∈ Txt.split t " ", w.length ≤ 5000 := fun w hw => Nat.le_trans (split_part tl_blank all_blank hw) h
theorem read_row {t : Str} (h : t.length ≤ 5000) {ws : List Str} (hws : ws = if t = "" then [] else Txt.split t " ") {r : List Int} (hr : pws ws = some r) (hk : okRow r) (hw : wr r = t) : F_read [.d (.str t)] = .ok (.d (il r)) [none] := by
  have ht1 : t.length ≤ 1000000 := by omega
  have bl := blank_len
  have hle : (∀ w ∈ ws, w.length ≤ 5000) ∧ ws.length ≤ 5001 := by
    subst hws
    split
    · simp
    · exact ⟨words_le h, by have := split_count (s := t) tl_blank all_blank; omega⟩
  obtain ⟨x2, x4, e⟩ := read_ok (.str t) ws [] r none none none hle.1 hr (by simp; omega) rfl rfl
  have l := look_row_ok hk
  have w := written_ok hk
  rw [hw] at w
  unfold il at l w ⊢
  simp only [List.map_nil, List.nil_append] at e
  by_cases ht : t = ""
  · rw [if_pos ht] at hws
    subst hws
    have tb : (t == "") = true := by rw [ht]; decide +kernel
    simp only [List.map_nil] at e
    simp [F_read, f_read, bodyF_ap, tb, e, seqOf, l, w]
  · rw [if_neg ht] at hws
    have tb : (t == "") = false := beq_eq_false_iff_ne.mpr ht
    rw [hws] at e
    simp [F_read, f_read, bodyF_ap, tb, e, seqOf, l, w, bl, ht1]
theorem read_refused {t : Str} (h : t.length ≤ 5000) (hr : rowOf t = none) : F_read [.d (.str t)] = .err 7 [none] := by
  have ht1 : t.length ≤ 1000000 := by omega
  have bl := blank_len
  have ht : t ≠ "" := by
    rintro rfl
    rw [rowOf, if_pos rfl] at hr
    cases hr
  have tb : (t == "") = false := beq_eq_false_iff_ne.mpr ht
  have hc := split_count (s := t) tl_blank all_blank
  rw [rowOf, if_neg ht] at hr
  cases hp : pws (Txt.split t " ") with
  | none =>
    obtain ⟨ρ', e⟩ := read_bad (.str t) (Txt.split t " ") [] none none none (words_le h) hp (by simp; omega) rfl rfl
    simp only [List.map_nil] at e
    simp [F_read, f_read, bodyF_ap, tb, e, seqOf, bl, ht1]
  | some r =>
    rw [hp] at hr
    obtain ⟨x2, x4, e⟩ := read_ok (.str t) (Txt.split t " ") [] r none none none (words_le h) hp (by simp; omega) rfl rfl
    simp only [List.map_nil, List.nil_append] at e
    by_cases hk : okRow r
    · have hw : (wr r == t) = false := beq_eq_false_iff_ne.mpr fun z => by
        simp [hk, z] at hr
      have l := look_row_ok hk
      have w := written_ok hk
      unfold il at l w
      simp [F_read, f_read, bodyF_ap, tb, e, seqOf, l, w, bl, ht1, hw]
    · have l := look_row_bad hk
      unfold il at l
      simp [F_read, f_read, bodyF_ap, tb, e, seqOf, l, bl, ht1, g_RoomError]
theorem read_row' {t : Str} (h : t.length ≤ 5000) {r : List Int} (hr : rowOf t = some r) : F_read [.d (.str t)] = .ok (.d (il r)) [none] := by
  by_cases ht : t = ""
  · rw [rowOf, if_pos ht] at hr
    cases hr
    exact read_row h rfl (by rw [if_pos ht]; rfl) (by decide) (by rw [ht]; exact wr_0)
  · rw [rowOf, if_neg ht] at hr
    cases hp : pws (Txt.split t " ") with
    | none => rw [hp] at hr; cases hr
    | some q =>
      rw [hp] at hr
      have hr : (if okRow q ∧ wr q = t then some q else none) = some r := hr
      split at hr
      · rename_i hq
        cases hr
        exact read_row h rfl (by rw [if_neg ht]; exact hp) hq.1 hq.2
      · cases hr
/-! told -/
def rD : Option (List Int) → Dt
  | some r => il r
  | none => refD 7
theorem told_ok {t : Str} (h : t.length ≤ 5000) : F__law_told [.d (.str t)] = .ok (.d (rD (rowOf t))) [none] := by
  cases e : rowOf t with
  | some r =>
    have l := read_row' h e
    simp [F__law_told, f__law_told, bodyF_ap, l, nonA, isNone, rD]
  | none =>
    have l := read_refused h e
    have rf := refusal_eq 7 (by decide)
    simp [F__law_told, f__law_told, bodyF_ap, l, nonA, isNone, rD, g_RoomError, rf]
/-! the law's numbers -/
def numK (k : Nat) : List (Key × Dt) := (List.range k).map fun i => (Sum.inr (num i), PyData.int (i : Int))
theorem numK_len (k : Nat) : (numK k).length = k := by simp [numK]
theorem numK_put (k : Nat) : kPut (numK k) (Sum.inr (num k)) (.int k) = numK (k + 1) := by
  unfold kPut
  rw [if_neg]
  · simp [numK, List.range_succ]
  · rw [List.any_eq_true]
    rintro ⟨kv, h1, h2⟩
    obtain ⟨i, hi, rfl⟩ := List.mem_map.mp h1
    have h2 := of_decide_eq_true h2
    have h2 : (Sum.inr (num i) : Key) = Sum.inr (num k) := h2
    injection h2 with h2
    have := num_inj h2
    have := List.mem_range.mp hi
    omega
theorem numK_get (s : Str) : kGet (numK 100) (Sum.inr s) = (isNum s).map fun (k : Nat) => PyData.int (k : Int) := by
  unfold kGet numK isNum
  rw [List.find?_map, Option.map_map]
  have e : ((fun kv : Key × Dt => decide (kv.1 = Sum.inr s)) ∘ fun (i : Nat) => ((Sum.inr (num i) : Key), PyData.int (i : Int))) = fun (k : Nat) => decide (num k = s) := by
    funext k
    show decide ((Sum.inr (num k) : Key) = Sum.inr s) = decide (num k = s)
    apply decide_eq_decide.mpr
    exact ⟨fun h => by injection h, fun h => by rw [h]⟩
  rw [e]
  rfl
theorem nums_loop (t : Dt) : ∃ x2, ownAt (some x2) = false ∧ forL (.one 2) b__law_read_1 ((List.range 100).map fun (i : Nat) => PyData.int (i : Int)) [some (.d t), some (.dk false []), none, none, none, none, none] = .ok .nx [some (.d t), some (.dk false (numK 100)), x2, none, none, none, none] := by
  obtain ⟨ρ', h1, x2, h2, h3⟩ := forL_inv (t := .one 2) (body := b__law_read_1) (fun (i : Nat) => PyData.int (i : Int)) (fun k ρ => ∃ x2, ownAt (some x2) = false ∧ ρ = [some (.d t), some (.dk false (numK k)), x2, none, none, none, none]) (List.range 100) 0
    [some (.d t), some (.dk false []), none, none, none, none, none] ⟨none, rfl, rfl⟩ (by
      rintro i x ρ hx ⟨x2, h2, rfl⟩
      refine ⟨_, .inl ?_, some (.d (.int x)), rfl, rfl⟩
      obtain ⟨hi, hx⟩ := List.getElem?_eq_some_iff.mp hx
      rw [List.length_range] at hi
      rw [List.getElem_range] at hx
      subst hx
      simp only [Nat.zero_add]
      have n1 : i < 1000000 := by omega
      have n2 := numK_len i
      have p := numK_put i
      rw [← nm_num] at p
      simp [roundM_ap, h2, b__law_read_1_ap, putKM, n1, dkey, n2, p])
  subst h3
  refine ⟨x2, h2, ?_⟩
  simpa using h1
/-! the law's reading, one word -/
theorem shal_strs (bs : List Str) : shal (.list (bs.map PyData.str)) = true := shal_nice (nice_up (nice_list (n := 1) fun x hx => by
  obtain ⟨i, _, rfl⟩ := List.mem_map.mp hx
  exact nice_str _ i) (by decide))
theorem neD_strs (bs : List Str) : neD (.list (bs.map PyData.str)) (.list []) = some (!bs.isEmpty) := by
  unfold neD
  have e : shal (.list []) = true := shal_strs []
  rw [shal_strs, e]
  cases bs <;> simp
def badW (ps : List Str) : List Str := ps.filter fun s => (isNum s).isNone
theorem comp_bad {t : Dt} {x2 x3 x4 x5 : Option Sv} (ps : List Str) (hl : ps.length ≤ 1000000) : compL (.one 6) (testM (inK true 1 (varM 6))) (varM 6) (ps.map PyData.str) [] [some (.d t), some (.dk false (numK 100)), x2, x3, x4, x5, none] = .ok ((badW ps).map PyData.str) [some (.d t), some (.dk false (numK 100)), x2, x3, x4, x5, none] := by
  rw [compL_fmap PyData.str (fun s => if (isNum s).isNone = true then some (.str s) else none) ps hl fun s _ => ?_]
  · congr 1
    unfold badW
    clear hl
    induction ps with
    | nil => rfl
    | cons s ps ih =>
      rw [List.filterMap_cons, List.filter_cons]
      cases h : (isNum s).isNone with
      | false =>
        simp only [Bool.false_eq_true, if_false]
        exact ih
      | true =>
        simp only [if_true, List.map_cons]
        rw [ih]
  · have g := numK_get s
    cases h : isNum s with
    | none => simp [stepL_ap, inK, slotK, dkey, g, h, truth]
    | some n => simp [stepL_ap, inK, slotK, dkey, g, h, truth]
end K02
namespace K02
open PySem L2 G8 TL
theorem badW_1 (a : Str) : (badW [a]).isEmpty = (isNum a).isSome := by
  cases h : isNum a <;> simp [badW, h]
theorem badW_2 (a b : Str) : (badW [a, b]).isEmpty = ((isNum a).isSome && (isNum b).isSome) := by
  cases h : isNum a <;> cases h2 : isNum b <;> simp [badW, h, h2]
theorem lword_ok {t : Dt} {w : Str} {p : Nat × Nat} {found : List Int} {x2 x5 : Option Sv} (hw : w.length ≤ 5000) (hp : lpw w = some p) (hf : found.length ≤ 900000) (h5 : refAt (some x5) = false) :
    b__law_read_2 [some (.d t), some (.dk false (numK 100)), x2, some (.ls false (found.map PyData.int)), some (.d (.str w)), x5, none] = .ok .nx [some (.d t), some (.dk false (numK 100)), x2, some (.ls false ((found ++ rep p).map PyData.int)), some (.d (.str w)), some (.d (.list ((Txt.split w "*").map PyData.str))), none] ∧ p.2 < 100 := by
  have hw1 : w.length ≤ 1000000 := by omega
  have sl := star_len
  unfold lpw pw at hp
  match e : Txt.split w "*" with
  | [] =>
    rw [e] at hp
    cases hp
  | [a] =>
    have cb := comp_bad (t := t) (x2 := x2) (x3 := some (.ls false (found.map PyData.int))) (x4 := some (.d (.str w))) (x5 := some (.d (.list [.str a]))) [a] (by simp)
    have nb := neD_strs (badW [a])
    rw [badW_1] at nb
    rw [e] at hp
    cases ha : isNum a with
    | none => simp [ha] at hp
    | some n =>
      simp [ha] at hp
      obtain ⟨h19, rfl⟩ := hp
      obtain ⟨k1, _⟩ := isNum_some ha
      have g := numK_get a
      rw [ha] at g nb
      have m1 : mid (1 : Int) = true := mid_nat (n := 1) (by decide)
      have ll : found.length + 1 ≤ 1000000 := by omega
      have c : ¬ (19 : Int) < (n : Int) := by omega
      refine ⟨?_, by show 1 < 100; decide⟩
      simp only [List.map_cons, List.map_nil] at cb
      generalize (badW [a]).map PyData.str = B at cb nb
      generalize numK 100 = N at cb g
      simp [b__law_read_2_ap, hw1, sl, e, h5, atI_0, lenA, lenD, seqOf, cb, nb, getK, slotK, dkey, g, c, mulD, m1, ll, rep]
  | [a, b] =>
    have cb := comp_bad (t := t) (x2 := x2) (x3 := some (.ls false (found.map PyData.int))) (x4 := some (.d (.str w))) (x5 := some (.d (.list [.str a, .str b]))) [a, b] (by simp)
    have nb := neD_strs (badW [a, b])
    rw [badW_2] at nb
    rw [e] at hp
    cases ha : isNum a with
    | none => simp [ha] at hp
    | some n =>
      cases hb : isNum b with
      | none => simp [ha, hb] at hp
      | some m =>
        simp [ha, hb] at hp
        obtain ⟨h19, rfl⟩ := hp
        obtain ⟨k1, _⟩ := isNum_some ha
        obtain ⟨k2, _⟩ := isNum_some hb
        have g := numK_get a
        have g2 := numK_get b
        rw [ha] at g nb
        rw [hb] at g2 nb
        have m1 : mid (m : Int) = true := mid_nat (n := m) (by omega)
        have ll : found.length + m ≤ 1000000 := by omega
        have m2 : (m : Int) ≤ 1000 := by omega
        have c : ¬ (19 : Int) < (n : Int) := by omega
        refine ⟨?_, k2⟩
        simp only [List.map_cons, List.map_nil] at cb
        generalize (badW [a, b]).map PyData.str = B at cb nb
        generalize numK 100 = N at cb g g2
        simp [b__law_read_2_ap, hw1, sl, e, h5, atI_0, atI_1, lenA, lenD, seqOf, cb, nb, getK, slotK, dkey, g, g2, c, mulD, m1, m2, ll, rep]
  | a :: b :: c :: r =>
    rw [e] at hp
    cases hp
theorem lword_bad {t : Dt} {w : Str} {found : List Int} {x2 x5 : Option Sv} (hw : w.length ≤ 5000) (hp : lpw w = none) (h5 : refAt (some x5) = false) :
    ∃ ρ', b__law_read_2 [some (.d t), some (.dk false (numK 100)), x2, some (.ls false (found.map PyData.int)), some (.d (.str w)), x5, none] = .ok (.rt (.d .none)) ρ' := by
  have hw1 : w.length ≤ 1000000 := by omega
  have sl := star_len
  have sp := split_pos (s := w) tl_star all_star
  unfold lpw pw at hp
  match e : Txt.split w "*", sp with
  | [a], _ =>
    have cb := comp_bad (t := t) (x2 := x2) (x3 := some (.ls false (found.map PyData.int))) (x4 := some (.d (.str w))) (x5 := some (.d (.list [.str a]))) [a] (by simp)
    have nb := neD_strs (badW [a])
    rw [badW_1] at nb
    rw [e] at hp
    simp only [List.map_cons, List.map_nil] at cb
    have g := numK_get a
    generalize (badW [a]).map PyData.str = B at cb nb
    generalize numK 100 = N at cb g
    cases ha : isNum a with
    | none =>
      rw [ha] at nb
      simp [b__law_read_2_ap, hw1, sl, e, h5, lenA, lenD, seqOf, cb, nb]
    | some n =>
      simp [ha] at hp
      rw [ha] at g nb
      have c : (19 : Int) < (n : Int) := by omega
      simp [b__law_read_2_ap, hw1, sl, e, h5, atI_0, lenA, lenD, seqOf, cb, nb, getK, slotK, dkey, g, c]
  | [a, b], _ =>
    have cb := comp_bad (t := t) (x2 := x2) (x3 := some (.ls false (found.map PyData.int))) (x4 := some (.d (.str w))) (x5 := some (.d (.list [.str a, .str b]))) [a, b] (by simp)
    have nb := neD_strs (badW [a, b])
    rw [badW_2] at nb
    rw [e] at hp
    simp only [List.map_cons, List.map_nil] at cb
    have g := numK_get a
    generalize (badW [a, b]).map PyData.str = B at cb nb
    generalize numK 100 = N at cb g
    cases ha : isNum a with
    | none =>
      rw [ha] at nb
      simp [b__law_read_2_ap, hw1, sl, e, h5, lenA, lenD, seqOf, cb, nb]
    | some n =>
      cases hb : isNum b with
      | none =>
        rw [ha, hb] at nb
        simp [b__law_read_2_ap, hw1, sl, e, h5, lenA, lenD, seqOf, cb, nb]
      | some m =>
        simp [ha, hb] at hp
        rw [ha] at g
        rw [ha, hb] at nb
        have c : (19 : Int) < (n : Int) := by omega
        simp [b__law_read_2_ap, hw1, sl, e, h5, atI_0, lenA, lenD, seqOf, cb, nb, getK, slotK, dkey, g, c]
  | a :: b :: c :: r, _ =>
    have l3 : (2 : Int) < ((r.length : Int) + 1 + 1 + 1) := by omega
    simp [b__law_read_2_ap, hw1, sl, e, h5, lenA, lenD, l3]
theorem lread_ok (t : Dt) (x2 : Option Sv) : ∀ (ws : List Str) (found r : List Int) (x4 x5 : Option Sv), (∀ w ∈ ws, w.length ≤ 5000) → lpws ws = some r → found.length + 100 * ws.length ≤ 900000 → ownAt (some x4) = false → refAt (some x5) = false →
    ∃ x4' x5', forL (.one 4) b__law_read_2 (ws.map PyData.str) [some (.d t), some (.dk false (numK 100)), x2, some (.ls false (found.map PyData.int)), x4, x5, none] = .ok .nx [some (.d t), some (.dk false (numK 100)), x2, some (.ls false ((found ++ r).map PyData.int)), x4', x5', none]
  | [], found, r, x4, x5, _, h, _, h4, h5 => by
    cases h
    exact ⟨x4, x5, by simp⟩
  | w :: ws, found, r, x4, x5, hw, h, hl, h4, h5 => by
    unfold lpws at h
    cases hp : lpw w with
    | none => rw [hp] at h; cases h
    | some p =>
      cases hq : lpws ws with
      | none => rw [hp, hq] at h; cases h
      | some q =>
        rw [hp, hq] at h
        cases h
        rw [List.length_cons] at hl
        obtain ⟨e1, lt⟩ := lword_ok (t := t) (x2 := x2) (hw w (by simp)) hp (found := found) (by omega) h5
        obtain ⟨x4', x5', e⟩ := lread_ok t x2 ws (found ++ rep p) q (some (.d (.str w))) (some (.d (.list ((Txt.split w "*").map PyData.str)))) (fun v hv => hw v (List.mem_cons_of_mem _ hv)) hq (by
          have : (rep p).length = p.2 := by simp [rep]
          rw [List.length_append, this]
          omega) rfl rfl
        refine ⟨x4', x5', ?_⟩
        rw [List.map_cons, forL_round]
        rw [List.append_assoc] at e
        simp only [roundM_ap, putT, putD_ap, List.getElem?_cons_succ, List.getElem?_cons_zero, h4, List.set_cons_succ, List.set_cons_zero, e1, e, Bool.false_eq_true, if_false]
theorem lread_bad (t : Dt) (x2 : Option Sv) : ∀ (ws : List Str) (found : List Int) (x4 x5 : Option Sv), (∀ w ∈ ws, w.length ≤ 5000) → lpws ws = none → found.length + 100 * ws.length ≤ 900000 → ownAt (some x4) = false → refAt (some x5) = false →
    ∃ ρ', forL (.one 4) b__law_read_2 (ws.map PyData.str) [some (.d t), some (.dk false (numK 100)), x2, some (.ls false (found.map PyData.int)), x4, x5, none] = .ok (.rt (.d .none)) ρ'
  | [], found, x4, x5, _, h, _, h4, h5 => by cases h
  | w :: ws, found, x4, x5, hw, h, hl, h4, h5 => by
    unfold lpws at h
    rw [List.length_cons] at hl
    cases hp : lpw w with
    | none =>
      obtain ⟨ρ', e1⟩ := lword_bad (t := t) (found := found) (x2 := x2) (hw w (by simp)) hp h5
      refine ⟨ρ', ?_⟩
      rw [List.map_cons, forL_round]
      simp only [roundM_ap, putT, putD_ap, List.getElem?_cons_succ, List.getElem?_cons_zero, h4, List.set_cons_succ, List.set_cons_zero, e1, Bool.false_eq_true, if_false]
    | some p =>
      have hq : lpws ws = none := by
        cases hq : lpws ws with
        | none => rfl
        | some q => rw [hp, hq] at h; cases h
      obtain ⟨e1, lt⟩ := lword_ok (t := t) (x2 := x2) (hw w (by simp)) hp (found := found) (by omega) h5
      obtain ⟨ρ', e⟩ := lread_bad t x2 ws (found ++ rep p) (some (.d (.str w))) (some (.d (.list ((Txt.split w "*").map PyData.str)))) (fun v hv => hw v (List.mem_cons_of_mem _ hv)) hq (by
        have : (rep p).length = p.2 := by simp [rep]
        rw [List.length_append, this]
        omega) rfl rfl
      refine ⟨ρ', ?_⟩
      rw [List.map_cons, forL_round]
      simp only [roundM_ap, putT, putD_ap, List.getElem?_cons_succ, List.getElem?_cons_zero, h4, List.set_cons_succ, List.set_cons_zero, e1, e, Bool.false_eq_true, if_false]
@[simp] theorem sv_k (x : List (Key × Dt)) : (Rv.k x).sv = .dk false x := rfl
def lD : Option (List Int) → Dt
  | some r => il r
  | none => .none
theorem lread_val {t : Str} (h : t.length ≤ 5000) (ht : t ≠ "") : F__law_read [.d (.str t)] = .ok (.d (lD (rowOf t))) [none] := by
  have ht1 : t.length ≤ 1000000 := by omega
  have bl := blank_len
  have tb : (t == "") = false := beq_eq_false_iff_ne.mpr ht
  have hc := split_count (s := t) tl_blank all_blank
  have hm : mid (100 : Int) = true := mid_nat (n := 100) (by decide)
  obtain ⟨x2, h2, nl⟩ := nums_loop (.str t)
  have r0 : rangeD 0 100 = (List.range 100).map fun (i : Nat) => PyData.int (i : Int) := rangeD0 100
  rw [← r0] at nl
  rw [rowOf_law ht]
  cases hp : lpws (Txt.split t " ") with
  | none =>
    obtain ⟨ρ', e⟩ := lread_bad (.str t) x2 (Txt.split t " ") [] none none (words_le h) hp (by simp; omega) rfl rfl
    simp only [List.map_nil] at e
    generalize numK 100 = N at nl e
    simp [F__law_read, f__law_read, bodyF_ap, hm, nl, tb, e, seqOf, bl, ht1, lD, slotK]
  | some r =>
    obtain ⟨x4, x5, e⟩ := lread_ok (.str t) x2 (Txt.split t " ") [] r none none (words_le h) hp (by simp; omega) rfl rfl
    simp only [List.map_nil, List.nil_append] at e
    generalize numK 100 = N at nl e
    obtain ⟨_, h19⟩ := pws_of_lpws hp
    by_cases h24 : r.length ≤ 24
    · have hk : okRow r := ⟨h24, h19⟩
      have w := text_ok hk
      have c : (r.length : Int) ≤ 24 := by omega
      unfold il at w
      by_cases hw : wr r = t
      · have hb : (wr r == t) = true := by rw [hw]; exact beq_self_eq_true t
        simp [F__law_read, f__law_read, bodyF_ap, hm, nl, tb, e, seqOf, bl, ht1, lD, c, lenA, lenD, w, hb, h24, hw, il]
      · have hb : (wr r == t) = false := beq_eq_false_iff_ne.mpr hw
        simp [F__law_read, f__law_read, bodyF_ap, hm, nl, tb, e, seqOf, bl, ht1, lD, c, lenA, lenD, w, hb, h24, hw, il]
    · have c : ¬ (r.length : Int) ≤ 24 := by omega
      simp [F__law_read, f__law_read, bodyF_ap, hm, nl, tb, e, seqOf, bl, ht1, lD, c, lenA, lenD, h24]
theorem lread_0 : F__law_read [.d (.str "")] = .ok (.l []) [none] := by
  have hm : mid (100 : Int) = true := mid_nat (n := 100) (by decide)
  obtain ⟨x2, h2, nl⟩ := nums_loop (.str "")
  have r0 : rangeD 0 100 = (List.range 100).map fun (i : Nat) => PyData.int (i : Int) := rangeD0 100
  rw [← r0] at nl
  have tb : (("" : Str) == "") = true := beq_self_eq_true _
  generalize numK 100 = N at nl
  simp [F__law_read, f__law_read, bodyF_ap, hm, nl, tb]
end K02
namespace G8
open PySem L2
/-! rows.renamed, are_alike -/
theorem renamed_ok {xs : List Int} (h : okRow xs) : F_renamed [.d (il xs)] = .ok (.l ((renP xs).map PyData.int)) [none] := by
  have n := names_ok h
  have cp := compL_map (t := .one 2) (ft := retM true) (fe := e_renamed_1) (ρ := [some (.d (il xs)), some (.ls false ((nms xs).map PyData.int)), none]) PyData.int (fun x => .int ((nms xs).idxOf x : Int)) xs (by have := h.1; omega) (fun x hx => by
    have hi := indexD_ints (((nms_all xs).2.1 x).mpr hx)
    simp [stepL_ap, e_renamed_1, lookD, hi])
  have e : xs.map (fun x => PyData.int ((nms xs).idxOf x : Int)) = (renP xs).map PyData.int := by
    unfold renP
    rw [List.map_map]
    rfl
  rw [e] at cp
  rw [show (uniq xs []) = nms xs from rfl] at n
  rw [il_eq] at n cp ⊢
  simp [F_renamed, f_renamed, bodyF_ap, n, cp]
theorem renamed_bad {xs : List Int} (h : ¬ okRow xs) : F_renamed [.d (il xs)] = .err 0 [none] := by
  have n := names_bad h
  rw [il_eq] at n ⊢
  simp [F_renamed, f_renamed, bodyF_ap, n]
theorem alike_ok {xs ys : List Int} (h : okRow xs) (h2 : okRow ys) : F_are_alike [.d (il xs), .d (il ys)] = .ok (.d (.bool (decide (renP xs = renP ys)))) [none, none] := by
  have n := renamed_ok h
  have n2 := renamed_ok h2
  have e := eqD_il (renP xs) (renP ys)
  rw [il_eq] at n n2
  rw [il_eq, il_eq]
  simp [F_are_alike, f_are_alike, bodyF_ap, n, n2, e]
theorem pick_ok (ns : List Int) (t : List Dt) (xs : List Dt) (hx : xs ≠ []) (ht : t.length < 900000) :
    ∃ x ∈ xs, F__law_pick [.scr ns, .ls true t, .d (.list xs)] = .ok (.d x) [none, some (.ls true (t ++ [.int 0])), none] := by
  have hp := List.length_pos_iff.mpr hx
  obtain ⟨v, v1, v2, dv⟩ := draw_ex ns t (xs.length : Int) (by omega) (by omega)
  obtain ⟨n, rfl⟩ : ∃ n : Nat, v = (n : Int) := ⟨v.toNat, by omega⟩
  have hn : n < xs.length := by omega
  refine ⟨xs[n], List.getElem_mem hn, ?_⟩
  have e : atI xs (n : Int) = some xs[n] := by rw [G8.atI_nat, List.getElem?_eq_getElem hn]
  simp [F__law_pick, f__law_pick, bodyF_ap, dv, e]
end G8
namespace K02
open PySem L2 G8 TL
theorem v1 : rowOf "0*25" = none := by decide +kernel
theorem v2 : rowOf "19*24" = some (List.replicate 24 19) := by decide +kernel
theorem v3 : rowOf "1*1" = none := by decide +kernel
theorem v4 : rowOf "20" = none := by decide +kernel
theorem v5 : rowOf "1*0" = none := by decide +kernel
end K02
namespace K02
open PySem L2 G8 TL
/-! the row is made less bare -/
theorem ixN_nat {n k : Nat} (h : k < n) : ixN n (k : Int) = some k := by
  unfold ixN
  rw [if_pos (by omega), if_pos (by omega)]
  simp
theorem set_ok {row : List Int} (h : okRow row) {k j : Nat} (hk : k < row.length) : okRow (row.set j row[k]) := by
  refine ⟨by rw [List.length_set]; exact h.1, fun x hx => ?_⟩
  rcases List.mem_or_eq_of_mem_set hx with hx | rfl
  · exact h.2 x hx
  · exact h.2 _ (List.getElem_mem hk)
theorem round1 (ns : List Int) {row : List Int} (h : okRow row) {t : List Dt} (ht : t.length < 800000) {k : Nat} (hk : k + 1 < row.length) {x3 : Option Sv} (h3 : ownAt (some x3) = false) :
    ∃ row' t', okRow row' ∧ row'.length = row.length ∧ t'.length ≤ t.length + 1 ∧
      roundM (.one 3) b_law_1 (.int (k : Int)) [some (.scr ns), some (.ls false t), some (.ls false (row.map PyData.int)), x3, none, none, none, none] = .ok .nx [some (.scr ns), some (.ls false t'), some (.ls false (row'.map PyData.int)), some (.d (.int k)), none, none, none, none] := by
  obtain ⟨v, v1, v2, dv⟩ := draw_ex ns t 3 (by decide) (by omega)
  by_cases hv : v = 0
  · refine ⟨row.set (k + 1) row[k], t ++ [.int 0], set_ok h (by omega), by rw [List.length_set], by simp, ?_⟩
    have a1 := at_row (row := row) (k := k) (by omega)
    have a2 : ixN row.length ((k : Int) + 1) = some (k + 1) := ixN_nat (n := row.length) (k := k + 1) hk
    simp [roundM_ap, h3, b_law_1_ap, dv, hv, a1, a2, List.map_set]
  · refine ⟨row, t ++ [.int 0], h, rfl, by simp, ?_⟩
    simp [roundM_ap, h3, b_law_1_ap, dv, hv]
theorem loop1 (ns : List Int) {row : List Int} (h : okRow row) {t : List Dt} (ht : t.length < 700000) :
    ∃ row' t' x3, okRow row' ∧ ownAt (some x3) = false ∧ t'.length ≤ t.length + 24 ∧
      forL (.one 3) b_law_1 (rangeD 0 ((row.length : Int) - 1).toNat) [some (.scr ns), some (.ls false t), some (.ls false (row.map PyData.int)), none, none, none, none, none] = .ok .nx [some (.scr ns), some (.ls false t'), some (.ls false (row'.map PyData.int)), x3, none, none, none, none] := by
  have hl := h.1
  obtain ⟨ρ', h1, row', t', x3, g1, g2, g3, g4, g5⟩ := forL_inv (t := .one 3) (body := b_law_1) (fun (i : Nat) => PyData.int (i : Int))
    (fun k ρ => ∃ (row' : List Int) (t' : List Dt) (x3 : Option Sv), okRow row' ∧ row'.length = row.length ∧ t'.length ≤ t.length + k ∧ ownAt (some x3) = false ∧ ρ = [some (.scr ns), some (.ls false t'), some (.ls false (row'.map PyData.int)), x3, none, none, none, none])
    (List.range ((row.length : Int) - 1).toNat) 0 [some (.scr ns), some (.ls false t), some (.ls false (row.map PyData.int)), none, none, none, none, none] ⟨row, t, none, h, rfl, by omega, rfl, rfl⟩ (by
      rintro i x ρ hx ⟨row', t', x3, g1, g2, g3, g4, rfl⟩
      obtain ⟨hi, hx⟩ := List.getElem?_eq_some_iff.mp hx
      rw [List.length_range] at hi
      rw [List.getElem_range] at hx
      subst hx
      obtain ⟨r2, t2, e1, e2, e3, e4⟩ := round1 ns g1 (t := t') (by omega) (k := i) (by omega) g4
      exact ⟨_, .inl e4, r2, t2, _, e1, by omega, by omega, rfl, rfl⟩)
  subst g5
  rw [List.length_range] at g3
  refine ⟨row', t', x3, g1, g4, by omega, ?_⟩
  rw [rangeD0]
  exact h1
/-! the texts are bent -/
def bd : Nat → Nat
  | 0 => 200
  | k + 1 => 2 * bd k + 1
def dueR (t : Str) : Dt := match rowOf t with
  | some r => il r
  | none => .none
theorem nice_refD : nice 60 (refD 7) := nice_up (nice_tuple (n := 1) fun x hx => by
  simp only [List.mem_cons, List.not_mem_nil, or_false] at hx
  rcases hx with rfl | rfl
  · exact nice_str _ _
  · exact nice_str _ _) (by decide)
theorem ne_same (o : Option (List Int)) : neD (rD o) (rD o) = some false := neD_self (by
  cases o with
  | none => exact nice_refD
  | some r => exact nice_il _ r)
def signs : List Dt := [.str "0", .str "1", .str "2", .str "9", .str " ", .str "*", .str "-", .str "a", .str "\n", .str ""]
theorem signs_len : ∀ x ∈ signs, ∃ s : Str, x = .str s ∧ s.length ≤ 1 := by
  intro x hx
  unfold signs at hx
  simp only [List.mem_cons, List.not_mem_nil, or_false] at hx
  rcases hx with rfl | rfl | rfl | rfl | rfl | rfl | rfl | rfl | rfl | rfl <;> exact ⟨_, rfl, by decide +kernel⟩
theorem round2 (ns : List Int) (row : Dt) {t : List Dt} (ht : t.length < 800000) {text : Str} (hx : text.length ≤ 2000) {x3 x5 x6 x7 : Option Sv} {k : Int} (h3 : ownAt (some x3) = false) (h5 : refAt (some x5) = false) (h6 : refAt (some x6) = false) (h7 : refAt (some x7) = false) :
    ∃ text' t' x5' x6' x7', text'.length ≤ 2 * text.length + 1 ∧ t'.length ≤ t.length + 3 ∧ refAt (some x5') = false ∧ refAt (some x6') = false ∧ refAt (some x7') = false ∧
      roundM (.one 3) b_law_2 (.int k) [some (.scr ns), some (.ls false t), some (.d row), x3, some (.d (.str text)), x5, x6, x7] = .ok .nx [some (.scr ns), some (.ls false t'), some (.d row), some (.d (.int k)), some (.d (.str text')), x5', x6', x7'] := by
  obtain ⟨v, v1, v2, dv⟩ := draw_ex ns t ((text.length : Int) + 1) (by omega) (by omega)
  obtain ⟨x, hxs, dx⟩ := pick_ok ns (t ++ [.int 0]) signs (by simp [signs]) (by simp; omega)
  obtain ⟨s, rfl, sl⟩ := signs_len x hxs
  obtain ⟨d, d1, d2, dd⟩ := draw_ex ns (t ++ [.int 0] ++ [.int 0]) 2 (by decide) (by simp; omega)
  have c1 := cutS_length text none (some v)
  have c2 := cutS_length text (some (v + d)) none
  have l1 : text.length ≤ 1000000 := by omega
  have l2 : (cutS text none (some v)).length + s.length ≤ 1000000 := by omega
  have l3 : (cutS text none (some v) ++ s).length = (cutS text none (some v)).length + s.length := by
    rw [len_tl, tl_append, List.length_append, ← len_tl, ← len_tl]
  have l4 : (cutS text none (some v) ++ s ++ cutS text (some (v + d)) none).length = (cutS text none (some v)).length + s.length + (cutS text (some (v + d)) none).length := by
    rw [len_tl, tl_append, List.length_append, ← len_tl, ← len_tl, l3]
  have l5 : (cutS text none (some v) ++ s).length + (cutS text (some (v + d)) none).length ≤ 1000000 := by omega
  have l6 : (cutS text none (some v) ++ s ++ cutS text (some (v + d)) none).length ≤ 5000 := by omega
  have tl := told_ok l6
  unfold signs at dx
  refine ⟨cutS text none (some v) ++ s ++ cutS text (some (v + d)) none, t ++ [.int 0] ++ [.int 0] ++ [.int 0], some (.d (.int v)), some (.d (.str s)), some (.d (lD (rowOf (cutS text none (some v) ++ s ++ cutS text (some (v + d)) none)))), by omega, by simp, rfl, rfl, rfl, ?_⟩
  simp only [List.append_assoc] at dd
  generalize hT : cutS text none (some v) ++ s ++ cutS text (some (v + d)) none = T at l6 tl
  simp only [List.cons_append, List.nil_append] at dd
  have lr : T ≠ "" → F__law_read [.d (.str T)] = .ok (.d (lD (rowOf T))) [none] := fun z => lread_val l6 z
  by_cases hT0 : T = ""
  · have e0 : rowOf T = some [] := by rw [hT0, rowOf, if_pos rfl]
    have l0 := lread_0
    rw [← hT0] at l0
    have n := ne_same (rowOf T)
    rw [e0] at tl n ⊢
    have n : neD (PyData.list []) (PyData.list []) = some false := n
    simp [roundM_ap, h3, h5, h6, h7, b_law_2_ap, dv, dx, dd, lenA, lenD, l1, slD, l2, l5, hT, tl, l0, rD, lD, il, nonA, isNone, n]
  · have lr := lr hT0
    have n := ne_same (rowOf T)
    cases er : rowOf T with
    | some r =>
      rw [er] at lr tl n
      simp only [rD, lD, il] at lr tl n
      simp [roundM_ap, h3, h5, h6, h7, b_law_2_ap, dv, dx, dd, lenA, lenD, l1, slD, l2, l5, hT, tl, lr, lD, il, nonA, isNone, n]
    | none =>
      rw [er] at lr tl n
      simp only [rD, lD, refD, wordN] at lr tl n
      simp [roundM_ap, h3, h5, h6, h7, b_law_2_ap, dv, dx, dd, lenA, lenD, l1, slD, l2, l5, hT, tl, lr, lD, nonA, isNone, n]
theorem loop2 (ns : List Int) (row : Dt) {t : List Dt} (ht : t.length < 700000) {text : Str} (hx : text.length ≤ 200) {x3 : Option Sv} (h3 : ownAt (some x3) = false) :
    ∃ text' t' y3 y5 y6 y7, text'.length ≤ 2000 ∧
      forL (.one 3) b_law_2 (rangeD 0 3) [some (.scr ns), some (.ls false t), some (.d row), x3, some (.d (.str text)), none, none, none] = .ok .nx [some (.scr ns), some (.ls false t'), some (.d row), y3, some (.d (.str text')), y5, y6, y7] := by
  obtain ⟨ρ', h1, text', t', y3, y5, y6, y7, g1, g2, g3, g4, g5, g6, g7⟩ := forL_inv (t := .one 3) (body := b_law_2) (fun (i : Nat) => PyData.int (i : Int))
    (fun k ρ => ∃ (text' : Str) (t' : List Dt) (y3 y5 y6 y7 : Option Sv), text'.length ≤ bd k ∧ t'.length ≤ t.length + 3 * k ∧ ownAt (some y3) = false ∧ refAt (some y5) = false ∧ refAt (some y6) = false ∧ refAt (some y7) = false ∧
      ρ = [some (.scr ns), some (.ls false t'), some (.d row), y3, some (.d (.str text')), y5, y6, y7])
    (List.range 3) 0 [some (.scr ns), some (.ls false t), some (.d row), x3, some (.d (.str text)), none, none, none] ⟨text, t, x3, none, none, none, hx, by omega, h3, rfl, rfl, rfl, rfl⟩ (by
      rintro i x ρ hx ⟨text', t', y3, y5, y6, y7, g1, g2, g3, g4, g5, g6, rfl⟩
      obtain ⟨hi, hx⟩ := List.getElem?_eq_some_iff.mp hx
      rw [List.length_range] at hi
      have hb : bd (0 + i) ≤ 803 := by
        match i, hi with
        | 0, _ => decide
        | 1, _ => decide
        | 2, _ => decide
      obtain ⟨T, t2, z5, z6, z7, e1, e2, e3, e4, e5, e6⟩ := round2 ns row (t := t') (by omega) (text := text') (by omega) (k := (x : Int)) g3 g4 g5 g6
      exact ⟨_, .inl e6, T, t2, _, z5, z6, z7, by show T.length ≤ 2 * bd (0 + i) + 1; omega, by omega, rfl, e3, e4, e5, rfl⟩)
  subst g7
  have hb : bd (0 + (List.range 3).length) = 1607 := rfl
  rw [hb] at g1
  refine ⟨text', t', y3, y5, y6, y7, by omega, ?_⟩
  rw [rangeD0]
  exact h1
theorem join_len (y : Str) : ∀ l : List Str, (Txt.join y l).length ≤ (l.map (·.length)).sum + l.length * y.length
  | [] => by
    rw [join_eq]
    show (Str.empty).length ≤ _
    exact Nat.zero_le _
  | [x] => by
    rw [join_eq]
    show x.length ≤ _
    simp
  | x :: z :: r => by
    have ih := join_len y (z :: r)
    rw [join_eq] at ih ⊢
    show (x ++ y ++ Str.join y (z :: r)).length ≤ _
    rw [len_tl, tl_append, tl_append, List.length_append, List.length_append, ← len_tl, ← len_tl, ← len_tl]
    simp only [List.map_cons, List.sum_cons, List.length_cons] at ih ⊢
    have e : (r.length + 1 + 1) * y.length = (r.length + 1) * y.length + y.length := Nat.succ_mul _ _
    omega
theorem wr_len {row : List Int} (h : okRow row) : (wr row).length ≤ 200 := by
  have h1 := join_len " " ((runs row).map word)
  have h2 := sum_le (runs row) (okP_runs h)
  have h3 := runs_len row
  have h4 := h.1
  rw [blank_one, List.length_map] at h1
  unfold wr
  omega
theorem keeps : Keeps F_law := fun ns _ => by
  obtain ⟨row0, t1, r1, r2, r3, d0⟩ := row_drawn ns [] 24 20 (by decide) (by decide) (by decide) (by simp)
  have h0 : okRow row0 := ⟨r1, fun x hx => by have := r2 x hx; unfold okName; omega⟩
  simp at r3
  have d0 : F__law_row [.scr ns, .ls true [], .d (.int 24), .d (.int 20)] = .ok (.l (row0.map PyData.int)) [none, some (.ls true t1), none, none] := d0
  obtain ⟨row, t2, x3, h, g3, c2, e1⟩ := loop1 ns h0 (t := t1) (by omega)
  have tn : ((row0.length : Int) - 1).toNat = row0.length - 1 := by omega
  rw [tn] at e1
  have wl := wr_len h
  obtain ⟨text', t3, y3, y5, y6, y7, c3, e2⟩ := loop2 ns (il row) (t := t2) (by omega) wl g3
  have tx := text_ok h
  have w := written_ok h
  have td := told_ok (t := wr row) (by omega)
  rw [rowOf_wr h] at td
  have n1 : neD (.list (row.map PyData.int)) (.list (row.map PyData.int)) = some false := (neD_il _ _).trans (by simp)
  have mm : mid ((row0.length : Int) - 1) = true := by
    cases hh : row0.length with
    | zero => rfl
    | succ n =>
      have e : (((n + 1 : Nat) : Int) - 1) = (n : Int) := by omega
      rw [e]
      exact mid_nat (by omega)
  have m3 : mid 3 = true := rfl
  have m24 : mid 24 = true := rfl
  have sb : (wr row == wr row) = true := beq_self_eq_true _
  have f1 := told_ok (t := "0*25") (by decide +kernel)
  have f2 := told_ok (t := "19*24") (by decide +kernel)
  have f3 := told_ok (t := "1*1") (by decide +kernel)
  have f4 := told_ok (t := "20") (by decide +kernel)
  have f5 := told_ok (t := "1*0") (by decide +kernel)
  rw [v1] at f1
  rw [v2] at f2
  rw [v3] at f3
  rw [v4] at f4
  rw [v5] at f5
  have n2 := ne_same none
  have n3 : neD (.list [.int 19, .int 19, .int 19, .int 19, .int 19, .int 19, .int 19, .int 19, .int 19, .int 19, .int 19, .int 19, .int 19, .int 19, .int 19, .int 19, .int 19, .int 19, .int 19, .int 19, .int 19, .int 19, .int 19, .int 19]) (.list [.int 19, .int 19, .int 19, .int 19, .int 19, .int 19, .int 19, .int 19, .int 19, .int 19, .int 19, .int 19, .int 19, .int 19, .int 19, .int 19, .int 19, .int 19, .int 19, .int 19, .int 19, .int 19, .int 19, .int 19]) = some false := (neD_il (List.replicate 24 19) (List.replicate 24 19)).trans (by simp)
  have cp : ∀ a0 a1 a2 a3 a5 a6 a7, compL (.one 4) (retM true) e_law_1 [.str "1*1", .str "20", .str "1*0"] [] [a0, a1, a2, a3, some (.d (.str text')), a5, a6, a7] = .ok [refD 7, refD 7, refD 7] [a0, a1, a2, a3, some (.d (.str text')), a5, a6, a7] := by
    intro a0 a1 a2 a3 a5 a6 a7
    refine compL_map PyData.str (fun _ => refD 7) ["1*1", "20", "1*0"] (by simp) fun s hs => ?_
    simp only [List.mem_cons, List.not_mem_nil, or_false] at hs
    have fs : F__law_told [.d (.str s)] = .ok (.d (refD 7)) [none] := by
      rcases hs with rfl | rfl | rfl
      · exact f3
      · exact f4
      · exact f5
    simp [stepL_ap, e_law_1_ap, fs]
  have q : eqD (.list [refD 7, refD 7, refD 7]) (.list [refD 7, refD 7, refD 7]) = some true := eqD_self (x := .list [refD 7, refD 7, refD 7]) (nice_up (nice_list (n := 3) fun x hx => by
    simp only [List.mem_cons, List.not_mem_nil, or_false, or_self] at hx
    subst hx
    exact nice_tuple (n := 1) (fun x hx => by
      simp only [List.mem_cons, List.not_mem_nil, or_false] at hx
      rcases hx with rfl | rfl
      · exact nice_str _ _
      · exact nice_str _ _) |> fun z => nice_up z (by decide)) (by decide))
  simp only [il, rD] at tx w td e2 f1 f2 n2 n3
  generalize hrf : refD 7 = rf at *
  simp only [refD, wordN] at hrf
  refine ⟨[none], ?_⟩
  simp [F_law, f_law, bodyF_ap, d0, mm, e1, tx, w, td, sb, n1, m3, e2, lenA, lenD, f1, f2, hrf, n2, mulD, m24, n3, seqOf, cp, q]
end K02
namespace K02
open PySem L2 G8
theorem facts {P : Program} {w : World} {K : PySem.W.Frag} {h : Heap} {mg : Str → Option Value} {f : Addr} (X : K.In h) (G : h.Ns mainGlobals mg) (hfa : mg ("law" : Str) = some (.ref f)) (c : SaysM fa fn K) :
    ∃ fd : FuncData, (∀ (s : Shared) (v : Value), BindsTo s fd ⟨[v], []⟩ [("script", v)]) ∧ ∀ base : Heap, K.In base → base.Ns mainGlobals mg → FnOk P w K mg base CX0 6 f fd ["script"] (spLaw K) := by
  have T := tx X G c
  have e := hfa.symm.trans T.g_law
  cases e
  obtain ⟨fd, F⟩ := T.d_law
  have b := FunD.bindsA (ps := ["script"]) F fun _ _ _ _ _ _ us hl => match us, hl with | [_], _ => rfl
  refine ⟨fd, fun s v => b s [v] rfl, fun base _ _ => ?_⟩
  exact law_end keeps (okF_law (P := P) (w := w) (base := base) T F)
end K02
open PySem PySem.W PySem.Calls PyProof.Rows
theorem PySem.Challenge.cw_allrooms_k02_whole_texts_holds : PySem.Challenge.rw_allrooms_k02_whole_texts.Holds := by
  w_on; o_law
  refine HandSHeadRun.head_any (r := OpenLaw.row PySem.Challenge.rw_allrooms_k02_whole_texts) (q := view (OpenLaw.row PySem.Challenge.rw_allrooms_k02_whole_texts).prog [30]) (H := K02.hk) (ob := K02.ob) (M := 4000) (loose := K02.loose) (d := HandSHeadRun.topDef (OpenLaw.row PySem.Challenge.rw_allrooms_k02_whole_texts).prog 30) (kwd := []) K02.ob_eq
    (by kernel_rfl) (fun s => by kernel_rfl) K02.run (by kernel_rfl) (by kernel_rfl) (by kernel_rfl) (by rfl) (by first | assumption | decide +kernel) (by decide +kernel) ⟨rfl, rfl, rfl, rfl, rfl, by decide +kernel⟩ ?hw ?hc
  case hw => w_witness2
  case hc =>
    refine L2.walk_ofE (l := PySem.Challenge.rw_allrooms_k02_whole_texts) (n := 63) (k := 6) (x := "script") (CX := L2.CX0) rfl (by decide) (by kernel_rfl) ⟨rfl, by decide, by decide⟩ ?F (fun _ _ _ _ z => z)
    intro w mg fa h Y G hmg0
    obtain ⟨K, KX, c⟩ := Y
    have hmg : mg ("law" : PySem.Str) = some (.ref fa) := by
      have e : (HandSHeadRun.topDef (OpenLaw.row PySem.Challenge.rw_allrooms_k02_whole_texts).prog 30).name = ("law" : PySem.Str) := by kernel_rfl
      rw [← e]
      exact hmg0
    obtain ⟨fd, hb, hF⟩ := K02.facts (P := (PySem.Challenge.rw_allrooms_k02_whole_texts).prog) (w := w) KX G hmg c
    exact ⟨K, fd, G8.spLaw K, KX, hb, fun H a ns hl _ hS => ⟨a, ns, rfl, hl, hS, (fun p hp => by rw [G8.tbs_nil (K02.tx KX G c).lamNo] at hp; cases hp), fun _ => rfl⟩, hF⟩
