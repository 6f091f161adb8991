import PyProof.Rows.All
import Wide.All
import OpenK.AllK
import Wide.FinOn
import HandS.ForMost
import HandS.SortKw
import PyProof.MinMaxWalk
import HandS.ForExc
import HandS.Property
import HandS.ExcInit
import HandS.Defaults
import PyProof.NeKinds
import HandS.TupSets
import HandS.DictComp
import PyProof.AssignAttr
import HandS.Wide
import PyProof.Rows.RuleB_pow
import PyProof.StrBlock2
import Flt.Len
import PyProof.Draws
import PyProof.EnumMake
import KE.GoesMore
import HandS.IsInst
import HandS.More
import HandS.Star
import HandS.Style
import HandS.Text
import HandS.AnyAll
import HandS.OwnEq
import HandS.OwnIter
import KE.KOwnIter
import PyProof.TupleCall
import HandS.Exc
import HandS.ExcOwn
import HandS.TryOnly
import HandS.TryMany
import HandS.Small
import HandS.Dict
import HandS.List
import HandS.Words
import HandS.Ends
import PySem.Challenge.RW_roundline_k76_whole_calls_that_stand
set_option Elab.async false
set_option linter.all false
set_option maxRecDepth 100000
set_option maxHeartbeats 4000000
namespace K76
open PySem L2

/-! ## 1. The mirror: plain functions -/
/-- a plain deed -/
inductive PD where
  | pull (n : Int) | peg (w x : Str) | hang (w x : Str) | fetch (w x : Str) | walk (w : Str) (s : Int) | take (w : Str) | look (w : Str)
/-- a deed -/
inductive DD where
  | plain (p : PD) | whn (w : Str) (o : Option Str) (p : PD)

abbrev Hung := List (Str × Int)
def lk (hu : Hung) (x : Str) : Option Int := (hu.find? fun p => decide (p.1 = x)).map (·.2)
def firstAt (sp : Int) : Hung → Option Str
  | [] => none
  | p :: r => if p.2 = sp then some p.1 else firstAt sp r
def dropH (hu : Hung) (x : Str) : Hung := hu.filter fun p => decide (p.1 ≠ x)

structure WS where
  half : Int
  stand : Int
  hung : Hung
  len : Int

def iabs (n : Int) : Int := if n < 0 then -n else n
def WS.spot (S : WS) (w : Str) : Int := (S.stand + (if w = "far" then S.half else 0)).fmod (2 * S.half)
def WS.thingAt (S : WS) (w : Str) : Option Str := firstAt (S.spot w) S.hung
def WS.shift (S : WS) (n : Int) : WS := { S with stand := (S.stand + n).fmod (2 * S.half), len := S.len + iabs n }
def WS.put (S : WS) (x : Str) (p : Int) : WS := { S with hung := S.hung ++ [(x, p)] }
def WS.drop (S : WS) (x : Str) : WS := { S with hung := dropH S.hung x }
def shN (S : WS) : Nat → WS
  | 0 => S
  | n + 1 => (shN S n).shift 1
def hangN (S : WS) (w : Str) : Nat := ((List.range (2 * S.half).toNat).find? fun n => ((shN S n).thingAt w).isNone).getD 0
def first (S : WS) (w : Str) (place step : Int) : Int := (if step > 0 then place - S.spot w else -(place - S.spot w)).fmod (2 * S.half)
def lenAt (S : WS) (w : Str) (place step : Int) (r : Nat) : Int := first S w place step + (r : Int) * 2 * S.half
def timesTo (S : WS) (w : Str) (place step : Int) : Option Int :=
  ((List.range (iabs step).toNat).find? fun r => decide ((lenAt S w place step r).fmod (iabs step) = 0)).map fun r => (lenAt S w place step r).fdiv (iabs step)
def minL : List Int → Option Int
  | [] => none
  | x :: r => match minL r with
    | none => some x
    | some y => some (if x ≤ y then x else y)
def timesAll (S : WS) (w : Str) (step : Int) : List (Option Int) := S.hung.map fun p => timesTo S w p.2 step
def someInts : List (Option Int) → List Int
  | [] => []
  | none :: r => someInts r
  | some x :: r => x :: someInts r
def times (S : WS) (w : Str) (step : Int) : Option Int := minL (someInts (timesAll S w step))

def oS : Option Str → V
  | none => .non
  | some x => .str x
def oI : Option Int → V
  | none => .non
  | some x => .int x

def tellP (S : WS) : PD → V × WS
  | .pull n => (.bl true, S.shift n)
  | .peg w x => if (lk S.hung x).isSome ∨ (S.thingAt w).isSome then (.bl false, S) else (.bl true, S.put x (S.spot w))
  | .hang w x => if (lk S.hung x).isSome ∨ (S.hung.length : Int) = 2 * S.half then (.non, S) else (.int (hangN S w), (shN S (hangN S w)).put x ((shN S (hangN S w)).spot w))
  | .fetch w x => match lk S.hung x with
    | none => (.non, S)
    | some p => (.int ((p - S.spot w).fmod (2 * S.half)), S.shift ((p - S.spot w).fmod (2 * S.half)))
  | .walk w s => match times S w s with
    | none => (.non, S)
    | some t => (.int t, S.shift (t * s))
  | .take w => match S.thingAt w with
    | none => (.non, S)
    | some x => (.str x, S.drop x)
  | .look w => (oS (S.thingAt w), S)
def tell (S : WS) : DD → V × WS
  | .plain p => tellP S p
  | .whn w o p => if S.thingAt w = o then tellP S p else (.str "no", S)

/-! ### what stands -/
def lower (x : Str) : Prop := ∀ c ∈ x.cps.toList, 97 ≤ c ∧ c ≤ 122
structure IsThing (x : Str) : Prop where
  least : 1 ≤ x.length
  most : x.length ≤ 8
  low : lower x
def IsWin (w : Str) : Prop := w = "near" ∨ w = "far"
def PD.ok (th : List Str) : PD → Prop
  | .pull n => n ≠ 0 ∧ -40 ≤ n ∧ n ≤ 40
  | .peg w x => IsWin w ∧ IsThing x ∧ x ∈ th
  | .hang w x => IsWin w ∧ IsThing x ∧ x ∈ th
  | .fetch w x => IsWin w ∧ IsThing x ∧ x ∈ th
  | .walk w s => IsWin w ∧ s ≠ 0 ∧ -6 ≤ s ∧ s ≤ 6
  | .take w => IsWin w
  | .look w => IsWin w
def DD.ok (th : List Str) : DD → Prop
  | .plain p => p.ok th
  | .whn w o p => IsWin w ∧ (∀ x, o = some x → IsThing x ∧ x ∈ th) ∧ p.ok th

structure Good (th : List Str) (S : WS) : Prop where
  half : 1 ≤ S.half
  few : th.length ≤ 4
  keys : (S.hung.map (·.1)).Nodup
  within : ∀ p ∈ S.hung, p.1 ∈ th
  places : (S.hung.map (·.2)).Nodup
  range : ∀ p ∈ S.hung, 0 ≤ p.2 ∧ p.2 < 2 * S.half

theorem length_le_of_nodup {α : Type} [DecidableEq α] : ∀ {l m : List α}, l.Nodup → (∀ x ∈ l, x ∈ m) → l.length ≤ m.length
  | [], _, _, _ => Nat.zero_le _
  | a :: l, m, hn, hs => by
    obtain ⟨h1, h2⟩ := List.nodup_cons.mp hn
    have ha : a ∈ m := hs a List.mem_cons_self
    have ih := length_le_of_nodup (l := l) (m := m.erase a) h2 (fun x hx => (List.mem_erase_of_ne (fun e : x = a => h1 (by rw [← e]; exact hx))).mpr (hs x (List.mem_cons_of_mem _ hx)))
    rw [List.length_erase_of_mem ha] at ih
    have : 0 < m.length := List.length_pos_of_mem ha
    rw [List.length_cons]
    omega
theorem Good.size {th : List Str} {S : WS} (g : Good th S) : S.hung.length ≤ 4 := by
  have h := length_le_of_nodup g.keys (m := th) (fun x hx => by
    obtain ⟨p, hp, rfl⟩ := List.mem_map.mp hx
    exact g.within p hp)
  rw [List.length_map] at h
  exact Nat.le_trans h g.few
theorem Good.room {th : List Str} {S : WS} (g : Good th S) : (S.hung.length : Int) ≤ 2 * S.half := by
  have h := length_le_of_nodup g.places (m := (List.range (2 * S.half).toNat).map fun (n : Nat) => (n : Int)) (fun x hx => by
    obtain ⟨p, hp, rfl⟩ := List.mem_map.mp hx
    have r := g.range p hp
    exact List.mem_map.mpr ⟨p.2.toNat, List.mem_range.mpr (by omega), by omega⟩)
  rw [List.length_map, List.length_map, List.length_range] at h
  have := g.half
  omega

theorem lk_none {hu : Hung} {x : Str} : lk hu x = none ↔ x ∉ hu.map (·.1) := by
  unfold lk
  rw [Option.map_eq_none_iff, List.find?_eq_none]
  constructor
  · intro h hm
    obtain ⟨p, hp, rfl⟩ := List.mem_map.mp hm
    exact h p hp (by simp)
  · intro h p hp e
    exact h (List.mem_map.mpr ⟨p, hp, of_decide_eq_true e⟩)
theorem lk_mem {hu : Hung} {x : Str} {p : Int} (h : lk hu x = some p) : (x, p) ∈ hu := by
  unfold lk at h
  obtain ⟨q, hq, e⟩ := Option.map_eq_some_iff.mp h
  have h1 := List.mem_of_find?_eq_some hq
  have h2 := List.find?_some hq
  have h3 : q.1 = x := of_decide_eq_true h2
  rw [← h3, ← e]
  exact h1
theorem firstAt_none {sp : Int} : ∀ {hu : Hung}, firstAt sp hu = none ↔ sp ∉ hu.map (·.2)
  | [] => by simp [firstAt]
  | p :: r => by
    unfold firstAt
    rw [List.map_cons, List.mem_cons]
    by_cases e : p.2 = sp
    · rw [if_pos e]
      exact ⟨fun h => (by cases h), fun h => absurd (Or.inl e.symm) h⟩
    · rw [if_neg e, firstAt_none (hu := r)]
      exact ⟨fun h => fun q => q.elim (fun z => e z.symm) h, fun h q => h (Or.inr q)⟩
theorem firstAt_some {sp : Int} {x : Str} : ∀ {hu : Hung}, firstAt sp hu = some x → (x, sp) ∈ hu
  | [], h => by simp [firstAt] at h
  | p :: r, h => by
    unfold firstAt at h
    by_cases e : p.2 = sp
    · rw [if_pos e] at h
      cases h
      rw [← e]
      exact List.mem_cons_self
    · rw [if_neg e] at h
      exact List.mem_cons_of_mem _ (firstAt_some h)

theorem spot_range {S : WS} (h : 1 ≤ S.half) (w : Str) : 0 ≤ S.spot w ∧ S.spot w < 2 * S.half := by
  unfold WS.spot
  rw [Int.fmod_eq_emod_of_nonneg _ (by omega)]
  exact ⟨Int.emod_nonneg _ (by omega), Int.emod_lt_of_pos _ (by omega)⟩

theorem Good.shift {th : List Str} {S : WS} (g : Good th S) (n : Int) : Good th (S.shift n) := ⟨g.half, g.few, g.keys, g.within, g.places, g.range⟩
theorem Good.shN {th : List Str} {S : WS} (g : Good th S) : ∀ n, Good th (shN S n)
  | 0 => g
  | n + 1 => (Good.shN g n).shift 1
theorem Good.put {th : List Str} {S : WS} (g : Good th S) {x : Str} {w : Str} (hx : x ∈ th) (h1 : lk S.hung x = none) (h2 : S.thingAt w = none) : Good th (S.put x (S.spot w)) := by
  refine ⟨g.half, g.few, ?_, ?_, ?_, ?_⟩
  · show ((S.hung ++ [(x, S.spot w)]).map (·.1)).Nodup
    rw [List.map_append]
    exact nd_snoc g.keys (lk_none.mp h1)
  · intro p hp
    rcases List.mem_append.mp hp with h | h
    · exact g.within p h
    · rw [List.mem_singleton.mp h]
      exact hx
  · show ((S.hung ++ [(x, S.spot w)]).map (·.2)).Nodup
    rw [List.map_append]
    exact nd_snoc g.places (firstAt_none.mp h2)
  · intro p hp
    rcases List.mem_append.mp hp with h | h
    · exact g.range p h
    · rw [List.mem_singleton.mp h]
      exact spot_range g.half w
theorem Good.drop {th : List Str} {S : WS} (g : Good th S) (x : Str) : Good th (S.drop x) := by
  have sub : (S.drop x).hung.Sublist S.hung := List.filter_sublist
  exact ⟨g.half, g.few, (sub.map _).nodup g.keys, fun p hp => g.within p (sub.subset hp), (sub.map _).nodup g.places, fun p hp => g.range p (sub.subset hp)⟩

theorem shN_half (S : WS) : ∀ n, (shN S n).half = S.half
  | 0 => rfl
  | n + 1 => by
    show (shN S n).half = S.half
    exact shN_half S n
theorem shN_hung (S : WS) : ∀ n, (shN S n).hung = S.hung
  | 0 => rfl
  | n + 1 => by
    show (shN S n).hung = S.hung
    exact shN_hung S n
theorem shN_stand {S : WS} (h : 1 ≤ S.half) : ∀ n, ((shN S n).stand).emod (2 * S.half) = (S.stand + (n : Int)).emod (2 * S.half)
  | 0 => by
    show S.stand.emod _ = (S.stand + ((0 : Nat) : Int)).emod _
    rw [show S.stand + ((0 : Nat) : Int) = S.stand by omega]
  | n + 1 => by
    have ih := shN_stand h n
    show (((shN S n).stand + 1).fmod (2 * (shN S n).half)).emod (2 * S.half) = _
    rw [shN_half, Int.fmod_eq_emod_of_nonneg _ (by omega)]
    show (((shN S n).stand + 1) % (2 * S.half)) % (2 * S.half) = (S.stand + ((n + 1 : Nat) : Int)) % (2 * S.half)
    rw [Int.emod_emod_of_dvd _ (Int.dvd_refl _), Int.add_emod, show (shN S n).stand % (2 * S.half) = (S.stand + (n : Int)) % (2 * S.half) from ih, ← Int.add_emod]
    congr 1
    omega
theorem shN_spot {S : WS} (h : 1 ≤ S.half) (w : Str) (n : Nat) : (shN S n).spot w = (S.spot w + (n : Int)) % (2 * S.half) := by
  unfold WS.spot
  rw [shN_half, Int.fmod_eq_emod_of_nonneg _ (by omega), Int.fmod_eq_emod_of_nonneg _ (by omega)]
  have e := shN_stand h n
  have e' : (shN S n).stand % (2 * S.half) = (S.stand + (n : Int)) % (2 * S.half) := e
  rw [Int.add_emod, e', ← Int.add_emod, Int.emod_add_emod]
  congr 1
  omega
theorem hang_free {th : List Str} {S : WS} (g : Good th S) (w : Str) (hl : (S.hung.length : Int) ≠ 2 * S.half) : ∃ n, n < (2 * S.half).toNat ∧ (shN S n).thingAt w = none := by
  apply Classical.byContradiction
  intro hno
  have all : ∀ n, n < (2 * S.half).toNat → (shN S n).spot w ∈ S.hung.map (·.2) := fun n hn => by
    apply Classical.byContradiction
    intro hc
    exact hno ⟨n, hn, by unfold WS.thingAt; rw [shN_hung]; exact firstAt_none.mpr hc⟩
  have hh := g.half
  have nd : ((List.range (2 * S.half).toNat).map fun n => (shN S n).spot w).Nodup := by
    refine List.Pairwise.map (R := fun a b : Nat => a < b ∧ b < (2 * S.half).toNat) _ (fun a b hab => ?_) ?_
    · rw [shN_spot hh, shN_spot hh]
      intro e
      have e1 := Int.emod_emod_of_dvd (S.spot w + (a : Int)) (Int.dvd_refl (2 * S.half))
      have d : (2 * S.half) ∣ ((S.spot w + (b : Int)) - (S.spot w + (a : Int))) := Int.dvd_of_emod_eq_zero (Int.emod_eq_emod_iff_emod_sub_eq_zero.mp e.symm)
      have d2 : (2 * S.half) ∣ ((b : Int) - (a : Int)) := by
        have : (S.spot w + (b : Int)) - (S.spot w + (a : Int)) = (b : Int) - (a : Int) := by omega
        rw [this] at d
        exact d
      have := Int.le_of_dvd (by omega) d2
      omega
    · have p1 : (List.range (2 * S.half).toNat).Pairwise (· < ·) := List.pairwise_lt_range
      exact List.Pairwise.imp_of_mem (fun {a b} ha hb hab => ⟨hab, List.mem_range.mp hb⟩) p1
  have le := length_le_of_nodup nd (m := S.hung.map (·.2)) (fun x hx => by
    obtain ⟨n, hn, rfl⟩ := List.mem_map.mp hx
    exact all n (List.mem_range.mp hn))
  rw [List.length_map, List.length_range, List.length_map] at le
  have := g.room
  omega
theorem hangN_spec {th : List Str} {S : WS} (g : Good th S) (w : Str) (hl : (S.hung.length : Int) ≠ 2 * S.half) :
    (shN S (hangN S w)).thingAt w = none ∧ ∀ m, m < hangN S w → (shN S m).thingAt w ≠ none := by
  obtain ⟨n, hn, hf⟩ := hang_free g w hl
  unfold hangN
  cases e : (List.range (2 * S.half).toNat).find? fun n => ((shN S n).thingAt w).isNone with
  | none =>
    have := List.find?_eq_none.mp e n (List.mem_range.mpr hn)
    rw [hf] at this
    exact absurd rfl this
  | some k =>
    show (shN S k).thingAt w = none ∧ ∀ m, m < k → (shN S m).thingAt w ≠ none
    have h1 := List.find?_some e
    refine ⟨Option.isNone_iff_eq_none.mp h1, fun m hm => ?_⟩
    have := (List.find?_range_eq_some.mp e).2.2 m hm
    intro z
    rw [z] at this
    simp at this
theorem tellP_pull {S : WS} {n : Int} : tellP S (.pull n) = (.bl true, S.shift n) := rfl
theorem tellP_peg {S : WS} {w x : Str} : tellP S (.peg w x) = if (lk S.hung x).isSome ∨ (S.thingAt w).isSome then (.bl false, S) else (.bl true, S.put x (S.spot w)) := rfl
theorem tellP_hang {S : WS} {w x : Str} : tellP S (.hang w x) = if (lk S.hung x).isSome ∨ (S.hung.length : Int) = 2 * S.half then (.non, S) else (.int (hangN S w), (shN S (hangN S w)).put x ((shN S (hangN S w)).spot w)) := rfl
theorem tellP_fetch0 {S : WS} {w x : Str} (h : lk S.hung x = none) : tellP S (.fetch w x) = (.non, S) := by
  show (match lk S.hung x with | none => (V.non, S) | some p => (V.int ((p - S.spot w).fmod (2 * S.half)), S.shift ((p - S.spot w).fmod (2 * S.half)))) = _
  rw [h]
theorem tellP_fetch1 {S : WS} {w x : Str} {p : Int} (h : lk S.hung x = some p) : tellP S (.fetch w x) = (.int ((p - S.spot w).fmod (2 * S.half)), S.shift ((p - S.spot w).fmod (2 * S.half))) := by
  show (match lk S.hung x with | none => (V.non, S) | some p => (V.int ((p - S.spot w).fmod (2 * S.half)), S.shift ((p - S.spot w).fmod (2 * S.half)))) = _
  rw [h]
theorem tellP_walk0 {S : WS} {w : Str} {s : Int} (h : times S w s = none) : tellP S (.walk w s) = (.non, S) := by
  show (match times S w s with | none => (V.non, S) | some t => (V.int t, S.shift (t * s))) = _
  rw [h]
theorem tellP_walk1 {S : WS} {w : Str} {s t : Int} (h : times S w s = some t) : tellP S (.walk w s) = (.int t, S.shift (t * s)) := by
  show (match times S w s with | none => (V.non, S) | some t => (V.int t, S.shift (t * s))) = _
  rw [h]
theorem tellP_take0 {S : WS} {w : Str} (h : S.thingAt w = none) : tellP S (.take w) = (.non, S) := by
  show (match S.thingAt w with | none => (V.non, S) | some x => (V.str x, S.drop x)) = _
  rw [h]
theorem tellP_take1 {S : WS} {w x : Str} (h : S.thingAt w = some x) : tellP S (.take w) = (.str x, S.drop x) := by
  show (match S.thingAt w with | none => (V.non, S) | some x => (V.str x, S.drop x)) = _
  rw [h]
theorem tellP_look {S : WS} {w : Str} : tellP S (.look w) = (oS (S.thingAt w), S) := rfl
theorem tell_plain {S : WS} {p : PD} : tell S (.plain p) = tellP S p := rfl
theorem tell_whn {S : WS} {w : Str} {o : Option Str} {p : PD} : tell S (.whn w o p) = if S.thingAt w = o then tellP S p else (.str "no", S) := rfl
theorem none_of {α : Type} {o : Option α} (h : ¬ o.isSome = true) : o = none := by cases o with | none => rfl | some a => exact absurd rfl h
theorem Good.tellP {th : List Str} {S : WS} (g : Good th S) {p : PD} (h : p.ok th) : Good th (K76.tellP S p).2 := by
  cases p with
  | pull n => exact g.shift n
  | peg w x =>
    rw [tellP_peg]
    by_cases c : (lk S.hung x).isSome = true ∨ (S.thingAt w).isSome = true
    · rw [if_pos c]; exact g
    · rw [if_neg c]
      exact g.put h.2.2 (none_of fun z => c (.inl z)) (none_of fun z => c (.inr z))
  | hang w x =>
    rw [tellP_hang]
    by_cases c : (lk S.hung x).isSome = true ∨ (S.hung.length : Int) = 2 * S.half
    · rw [if_pos c]; exact g
    · rw [if_neg c]
      refine (g.shN _).put h.2.2 ?_ (hangN_spec g w fun e => c (Or.inr e)).1
      rw [shN_hung]
      exact none_of fun z => c (.inl z)
  | fetch w x =>
    cases e : lk S.hung x with
    | none => rw [tellP_fetch0 e]; exact g
    | some p => rw [tellP_fetch1 e]; exact g.shift _
  | walk w s =>
    cases e : times S w s with
    | none => rw [tellP_walk0 e]; exact g
    | some p => rw [tellP_walk1 e]; exact g.shift _
  | take w =>
    cases e : S.thingAt w with
    | none => rw [tellP_take0 e]; exact g
    | some p => rw [tellP_take1 e]; exact g.drop _
  | look w => exact g
theorem Good.tell {th : List Str} {S : WS} (g : Good th S) {d : DD} (h : d.ok th) : Good th (K76.tell S d).2 := by
  cases d with
  | plain p => exact g.tellP h
  | whn w o p =>
    rw [tell_whn]
    by_cases c : S.thingAt w = o
    · rw [if_pos c]; exact g.tellP h.2.2
    · rw [if_neg c]; exact g
theorem tellP_half (S : WS) (p : PD) : (tellP S p).2.half = S.half := by
  cases p with
  | pull n => rfl
  | peg w x => rw [tellP_peg]; split <;> rfl
  | hang w x =>
    rw [tellP_hang]
    split
    · rfl
    · exact shN_half S _
  | fetch w x =>
    cases e : lk S.hung x with
    | none => rw [tellP_fetch0 e]
    | some p => rw [tellP_fetch1 e]; rfl
  | walk w s =>
    cases e : times S w s with
    | none => rw [tellP_walk0 e]
    | some p => rw [tellP_walk1 e]; rfl
  | take w =>
    cases e : S.thingAt w with
    | none => rw [tellP_take0 e]
    | some p => rw [tellP_take1 e]; rfl
  | look w => rfl
theorem tell_half (S : WS) (d : DD) : (tell S d).2.half = S.half := by
  cases d with
  | plain p => exact tellP_half S p
  | whn w o p =>
    rw [tell_whn]
    split
    · exact tellP_half S p
    · rfl

/-! ### calls -/
def runDs (S : WS) : List DD → List V × WS
  | [] => ([], S)
  | d :: r => ((tell S d).1 :: (runDs (tell S d).2 r).1, (runDs (tell S d).2 r).2)
structure Call where
  plan : Bool
  ds : List DD
def Call.ok (th : List Str) (c : Call) : Prop := (∀ d ∈ c.ds, d.ok th) ∧ c.ds.length ≤ 5 ∧ (c.plan = false → ∃ d, c.ds = [d])
/-- how it is behind calls: the line's work, the number of deeds -/
structure Sn where
  S : WS
  n : Nat
def Sn.call (s : Sn) (c : Call) : Sn := ⟨(runDs s.S c.ds).2, s.n + c.ds.length⟩
def Sn.start (h : Int) : Sn := ⟨⟨h, 0, [], 0⟩, 0⟩
def behind (h : Int) (cs : List Call) : Sn := cs.foldl Sn.call (Sn.start h)
/-- the states ahead of each call -/
def aheads (h : Int) (cs : List Call) : List Sn := (List.range cs.length).map fun i => behind h (cs.take i)
def toldOf (h : Int) (cs : List Call) (c : Call) : List V := (runDs (behind h cs).S c.ds).1

theorem behind_snoc (h : Int) (cs : List Call) (c : Call) : behind h (cs ++ [c]) = (behind h cs).call c := by
  unfold behind
  rw [List.foldl_append]
  rfl
theorem aheads_length (h : Int) (cs : List Call) : (aheads h cs).length = cs.length := by unfold aheads; simp
theorem aheads_snoc (h : Int) (cs : List Call) (c : Call) : aheads h (cs ++ [c]) = aheads h cs ++ [behind h cs] := by
  unfold aheads
  rw [List.length_append, List.length_singleton, List.range_succ, List.map_append]
  congr 1
  · refine List.map_congr_left fun i hi => ?_
    rw [List.take_append_of_le_length (Nat.le_of_lt (List.mem_range.mp hi))]
  · simp
theorem runDs_half : ∀ (ds : List DD) (S : WS), (runDs S ds).2.half = S.half
  | [], _ => rfl
  | d :: r, S => (runDs_half r (tell S d).2).trans (tell_half S d)
theorem behind_half_aux : ∀ (cs : List Call) (s : Sn), (cs.foldl Sn.call s).S.half = s.S.half
  | [], _ => rfl
  | c :: r, s => (behind_half_aux r (s.call c)).trans (runDs_half c.ds s.S)
theorem behind_half (h : Int) (cs : List Call) : (behind h cs).S.half = h := behind_half_aux cs _
end K76

set_option maxRecDepth 100000
set_option maxHeartbeats 4000000
namespace K76
open PySem PySem.Spec PyProof.Rows
/-! ## min(xs, default=d) of a list of ints -/
theorem margs (x d : Value) : argsOk "min" ⟨[x], [(Str.ofString "default", d)]⟩ := by
  unfold argsOk
  kernel_rfl
theorem mname : (toString "min" ++ toString ".loop" : String) = "min.loop" := by decide
theorem mbind (d : Value) : Builtin.Builtins.bindParams "min" ["key", "default"] 0 ⟨[], [(Str.ofString "default", d)]⟩ = pure [none, some d] := by
  kernel_rfl
section
variable {prog : Program} {w : World} {A : Around} {E : Value → Shared → Prop} {s : Shared}
/-- a built-in function, entered with keywords; it may go on as its own loop -/
theorem mentry {id : String} {b : Builtin} {xs : List Value} {kw : List (Str × Value)} {Q : Value → Shared → Prop} (hk : builtinKind id = none) (hp : plainId id = true) (hb : entryFor table id = some b) (ha : argsOk id ⟨xs, kw⟩)
    (hc : wpAny (model prog w) A.in1 (b ⟨xs, kw⟩) (fun fin s' => match fin with
      | .done f => (match (Except.ok f : Result) with | .ok (.ret v) => Q v s' | .ok _ => False | .error e => E e s')
      | .again c' => c'.quiet = true ∧ codeAny (model prog w) A c' (fun r s' => match r with | .ok (.ret v) => Q v s' | .ok _ => False | .error e => E e s') s') E s) :
    wpAny (model prog w) A (call (.builtin id) xs kw) Q E s := by
  refine wpAny_call (codeAny_call_builtin hp hb ?_)
  simp only [checkBuiltinCall, hk]
  cases q : Manifest.signature? id with
  | none => exact wpAny_pure hc
  | some sg =>
    have z : Bind.checkArgs id sg ⟨xs, kw⟩ = pure () := by simpa only [argsOk, q] using ha
    simp only [z]
    exact wpAny_pure hc
variable {R : Result → Shared → Prop} {I : Addr} {fp wr : List Addr} {n : Nat} {G : Nat → Value → Prop} {U : Nat → Heap → Prop} {d : Value}
/-- the loop from the (j + 1)-th item on, the best so far at hand -/
theorem mloop (W : Walks prog w A.in1 I fp wr n G U) (bt : Nat → Nat → Bool) (cmp : CmpOf prog w A.in1 .Lt G bt) (S : Addr) (out : S ∉ fp) :
    ∀ (k j : Nat) (s : Shared) (best : Value) (c : Nat), n - (j + 1) = k → j + 1 ≤ n → U (j + 1) s.heap → G (argBest bt j) best →
      s.heap.get? S = some { cls := .type "list", dict := none, data := .seq #[best, best] c, slots := #[] } →
      (∀ v h' tk, G (argBest bt (n - 1)) v → (∀ b o, b ∉ wr → b ≠ S → s.heap.get? b = some o → h'.get? b = some o) → R (.ok (.ret v)) { s with heap := h', toks := tk }) →
      codeAny (model prog w) A (.builtin "min.loop" ⟨[.ref I, .none, .ref S], [(Str.ofString "default", d)]⟩) R s := by
  have outw : S ∉ wr := fun z => out (W.sub _ z)
  intro k
  induction k with
  | zero =>
    intro j s best c hk hj st gb hS fin
    have e : j + 1 = n := by omega
    refine codeAny_builtin F.entry_min_loop ?_
    rw [Around.under_plainId F.plain_min_loop _]
    show wpAny _ _ (seqItems? (.ref S) >>= _) _ _ _
    refine wpAny_bind (wpAny_seqItems hS rfl ?_)
    show wpAny _ _ (tryCatch (pyNext (.ref I)) _ >>= _) _ _ _
    refine wpAny_bind (wpAny_tryCatch (W.done s _ _ (e ▸ st) fun h1 t1 keep => ?_))
    have hS1 := keep S _ outw hS
    show wpAny _ _ (updateSeq S (fun _ => #[]) >>= _) _ _ _
    refine wpAny_bind (wpAny_updateSeq hS1 rfl (wpAny_bind (wpAny_letGo (wpAny_pure ?_))))
    refine fin best _ t1 (by rw [← e]; exact gb) fun b o n1 n2 z => ?_
    exact (Heap.get?_update_other _ _ (Ne.symm n2)).trans (keep b o n1 z)
  | succ k ih =>
    intro j s best c hk hj st gb hS fin
    have lt : j + 1 < n := by omega
    refine codeAny_builtin F.entry_min_loop ?_
    rw [Around.under_plainId F.plain_min_loop _]
    show wpAny _ _ (seqItems? (.ref S) >>= _) _ _ _
    refine wpAny_bind (wpAny_seqItems hS rfl ?_)
    show wpAny _ _ (tryCatch (pyNext (.ref I)) _ >>= _) _ _ _
    refine wpAny_bind (wpAny_tryCatch (W.item (j + 1) s _ _ lt st fun v h1 t1 gv st1 keep => ?_))
    have hS1 := keep S _ outw hS
    show wpAny _ _ (tryCatch (holding [v, v] (richCompare .Lt v best >>= _)) _ >>= _) _ _ _
    refine wpAny_bind (wpAny_tryCatch (wpAny_holding (wpAny_bind (cmp (j + 1) (argBest bt j) v best _ _ _ gv gb ?_))))
    refine wpAny_bind (wpAny_holding (wpAny_truthy_bool ?_))
    refine wpAny_bind (wpAny_letGo (wpAny_pure ?_))
    cases q : bt (j + 1) (argBest bt j) with
    | true =>
      simp only [if_true]
      refine wpAny_bind (wpAny_updateSeq hS1 rfl (wpAny_bind (wpAny_letGo ?_)))
      rw [mname]
      refine wpAny_pure ⟨plainId_quiet F.plain_min_loop _, ?_⟩
      refine ih (j + 1) _ v _ (by omega) lt ?_ (by simp only [argBest, q, if_true]; exact gv) (Heap.get?_update_self _ hS1 rfl) fun v2 h2 t2 g2 keep2 => ?_
      · exact W.frame _ _ _ st1 fun b hb o z => (Heap.get?_update_other _ _ (fun y : S = b => out (y ▸ hb))).trans z
      · exact fin v2 h2 t2 g2 fun b o n1 n2 z => keep2 b o n1 n2 ((Heap.get?_update_other _ _ (Ne.symm n2)).trans (keep b o n1 z))
    | false =>
      simp only [Bool.false_eq_true, if_false]
      refine wpAny_bind (wpAny_letGo ?_)
      rw [mname]
      refine wpAny_pure ⟨plainId_quiet F.plain_min_loop _, ?_⟩
      refine ih (j + 1) _ best c (by omega) lt st1 (by simp only [argBest, q, Bool.false_eq_true, if_false]; exact gb) hS1 fun v2 h2 t2 g2 keep2 => ?_
      exact fin v2 h2 t2 g2 fun b o n1 n2 z => keep2 b o n1 n2 (keep b o n1 z)
/-- the loop from the start: the default where there is no item -/
theorem mloop0 (W : Walks prog w A.in1 I fp wr n G U) (bt : Nat → Nat → Bool) (cmp : CmpOf prog w A.in1 .Lt G bt) (S : Addr) (out : S ∉ fp) {s : Shared} {c : Nat} (st : U 0 s.heap)
    (hS : s.heap.get? S = some { cls := .type "list", dict := none, data := .seq #[] c, slots := #[] })
    (fin : ∀ v h' tk, (n = 0 ∧ v = d) ∨ (0 < n ∧ G (argBest bt (n - 1)) v) → (∀ b o, b ∉ wr → b ≠ S → s.heap.get? b = some o → h'.get? b = some o) → R (.ok (.ret v)) { s with heap := h', toks := tk }) :
    codeAny (model prog w) A (.builtin "min.loop" ⟨[.ref I, .none, .ref S], [(Str.ofString "default", d)]⟩) R s := by
  have outw : S ∉ wr := fun z => out (W.sub _ z)
  refine codeAny_builtin F.entry_min_loop ?_
  rw [Around.under_plainId F.plain_min_loop _]
  show wpAny _ _ (seqItems? (.ref S) >>= _) _ _ _
  refine wpAny_bind (wpAny_seqItems hS rfl ?_)
  show wpAny _ _ (tryCatch (pyNext (.ref I)) _ >>= _) _ _ _
  by_cases h0 : n = 0
  · refine wpAny_bind (wpAny_tryCatch (W.done s _ _ (h0 ▸ st) fun h1 t1 keep => ?_))
    refine wpAny_bind (wpAny_rule (wpAny_pure ?_))
    exact fin d h1 t1 (.inl ⟨h0, rfl⟩) fun b o n1 n2 z => keep b o n1 z
  · have lt : 0 < n := by omega
    refine wpAny_bind (wpAny_tryCatch (W.item 0 s _ _ lt st fun v h1 t1 gv st1 keep => ?_))
    have hS1 := keep S _ outw hS
    show wpAny _ _ (updateSeq S (fun _ => #[v, v]) >>= _) _ _ _
    refine wpAny_bind (wpAny_updateSeq hS1 rfl ?_)
    rw [mname]
    refine wpAny_pure ⟨plainId_quiet F.plain_min_loop _, ?_⟩
    refine mloop W bt cmp S out _ 0 _ v _ rfl lt ?_ gv (Heap.get?_update_self _ hS1 rfl) fun v2 h2 t2 g2 keep2 => ?_
    · exact W.frame _ _ _ st1 fun b hb o z => (Heap.get?_update_other _ _ (fun y : S = b => out (y ▸ hb))).trans z
    · exact fin v2 h2 t2 (.inr ⟨lt, g2⟩) fun b o n1 n2 z => keep2 b o n1 n2 ((Heap.get?_update_other _ _ (Ne.symm n2)).trans (keep b o n1 z))
theorem min_default {l : Addr} {its : List Value} {ns : List Int} {Q : Value → Shared → Prop} (hh : A.handled = none) (hl : s.heap.IsList l its.toArray) (hi : IntsAre its ns)
    (h : ∀ h' tk v, (∀ b o, s.heap.get? b = some o → h'.get? b = some o) → ((ns = [] ∧ v = d) ∨ ∃ M t, v = .int M t ∧ M ∈ ns ∧ ∀ y, y ∈ ns → M ≤ y) → Q v { s with heap := h', toks := tk }) :
    wpAny (model prog w) A (call (.builtin "min") [.ref l] [(Str.ofString "default", d)]) Q E s := by
  obtain ⟨xs, e⟩ := hi.allInts.items
  have hn : numsOf (intItems xs).toList = ns := by rw [← e]; exact hi.numsOf
  rw [nums_intItems] at hn
  subst hn
  rw [e] at hl
  refine mentry F.kind_min F.plain_min F.entry_min (margs _ _) ?_
  show wpAny _ _ (Builtin.Builtins.bindParams "min" ["key", "default"] 0 ⟨[], [(Str.ofString "default", d)]⟩ >>= _) _ _ _
  refine wpAny_bind (wpAny_of_eq (mbind d) ?_)
  refine wpAny_bind (wpAny_pure ?_)
  refine wpAny_bind (iter_intList hl fun s2 e2 st hfp hlI => ?_)
  subst e2
  refine wpAny_bind (wpAny_newObj_type ?_)
  rw [mname]
  refine wpAny_pure ⟨plainId_quiet F.plain_min_loop _, ?_⟩
  refine mloop0 (Walks.list (A := A.in1) hh _ l hlI (intItems xs)) _ (CmpOf.ints_lt (numAt xs) (fun _ _ => intItems_at)) _ (fun hm => Nat.lt_irrefl _ (hfp _ hm)) ?_ (Heap.get?_push_size _ rfl) fun v h' tk hv keep => ?_
  · exact (Walks.list (A := A.in1) (prog := prog) (w := w) hh _ l hlI (intItems xs)).frame _ _ _ st fun b _ o z => Heap.get?_push_of_some _ z
  · refine h h' tk v (old_kept fun b o nb z => keep b o nb (Nat.ne_of_lt (Heap.lt_size z)) (Heap.get?_push_of_some _ z)) ?_
    rcases hv with ⟨h0, rfl⟩ | ⟨h0, g⟩
    · left
      refine ⟨?_, rfl⟩
      have z : xs.size = 0 := by simpa [intItems] using h0
      have : xs = #[] := Array.size_eq_zero_iff.mp z
      rw [this]
      rfl
    · right
      have hsz : 0 < xs.size := by simpa [intItems] using h0
      have g' : (intItems xs)[argBest (fun i j => decide (numAt xs i < numAt xs j)) (xs.size - 1)]? = some v := by simpa [intItems] using g
      obtain ⟨t, rfl⟩ := intItems_at g'
      obtain ⟨h1, h2⟩ := argBest_lt (numAt xs) (xs.size - 1)
      refine ⟨_, t, rfl, ?_, fun y hy => ?_⟩
      · rw [numAt_eq]
        exact PySem.getD_mem (by rw [List.length_map, Array.length_toList]; omega)
      · obtain ⟨j, hj, rfl⟩ := mem_getD hy
        rw [List.length_map, Array.length_toList] at hj
        rw [← numAt_eq]
        exact h2 j (by omega)
end
open L2
/-- min(xs, default=None) -/
theorem ck_min {X : Cx} (hc : X.calm = true) : CallRK X (.builtin "min") ["default"] (fun xs zs H Q => ∃ (a : Addr) (ns : List Int), xs = [.ref a] ∧ zs = [.non] ∧ SqL X.K H a (ns.map V.int) ∧ (ns = [] → Q .non H) ∧ ∀ m, m ∈ ns → (∀ y, y ∈ ns → m ≤ y) → Q (.int m) H) := by
  intro pins s σ H xs zs us ws Q I r1 r2 h
  obtain ⟨a, ns, rfl, rfl, hs, q0, q⟩ := h
  obtain ⟨its, rv, hl, _⟩ := I.list hs
  rw [Vals.ref1 r1]
  cases r2 with
  | cons rz rn =>
    cases rn
    cases rz
    show wpAny _ _ (call (.builtin "min") [.ref a] [(Str.ofString "default", Value.none)]) _ _ _
    refine min_default (I.ok.hd hc) hl.isList rv.ints fun h' tk v hk hv => ?_
    rcases hv with ⟨e, rfl⟩ | ⟨m, t, rfl, h1, h2⟩
    · exact ⟨.non, H, I.kept hk, rfl, q0 e⟩
    · exact ⟨.int m, H, I.kept hk, ⟨t, rfl⟩, q m h1 h2⟩
end K76

set_option maxRecDepth 100000
set_option maxHeartbeats 4000000
namespace K76
open PySem L2
/-! ### the text by places; the slots of each def -/
def top (i : Nat) : Stmt := PySem.Challenge.pw_roundline_k76_whole_calls_that_stand.main.body.getD i (.Pass ⟨0, 0, 0, 0⟩)
abbrev s_NoMark_init : Stmt := inClass (top 8) 0
theorem sc_NoMark_init : FnScope ["self", "name"] ["self", "name"] (defScope s_NoMark_init) := ⟨rfl, rfl, rfl, by decide +kernel, rfl, by decide +kernel, by decide +kernel⟩
abbrev s_is_whole : Stmt := top 16
theorem sc_is_whole : FnScope ["thing"] ["thing"] (defScope s_is_whole) := ⟨rfl, rfl, rfl, by decide +kernel, rfl, by decide +kernel, by decide +kernel⟩
abbrev s_is_thing : Stmt := top 17
theorem sc_is_thing : FnScope ["thing", "sign"] ["thing"] (defScope s_is_thing) := ⟨rfl, rfl, rfl, by decide +kernel, rfl, by decide +kernel, by decide +kernel⟩
abbrev s_is_window : Stmt := top 18
theorem sc_is_window : FnScope ["thing"] ["thing"] (defScope s_is_window) := ⟨rfl, rfl, rfl, by decide +kernel, rfl, by decide +kernel, by decide +kernel⟩
abbrev s_is_distance : Stmt := top 19
theorem sc_is_distance : FnScope ["thing"] ["thing"] (defScope s_is_distance) := ⟨rfl, rfl, rfl, by decide +kernel, rfl, by decide +kernel, by decide +kernel⟩
abbrev s_is_length : Stmt := top 20
theorem sc_is_length : FnScope ["thing", "most"] ["thing", "most"] (defScope s_is_length) := ⟨rfl, rfl, rfl, by decide +kernel, rfl, by decide +kernel, by decide +kernel⟩
abbrev s_is_plain_deed : Stmt := top 21
theorem sc_is_plain_deed : FnScope ["thing"] ["thing"] (defScope s_is_plain_deed) := ⟨rfl, rfl, rfl, by decide +kernel, rfl, by decide +kernel, by decide +kernel⟩
abbrev s_is_deed : Stmt := top 22
theorem sc_is_deed : FnScope ["thing"] ["thing"] (defScope s_is_deed) := ⟨rfl, rfl, rfl, by decide +kernel, rfl, by decide +kernel, by decide +kernel⟩
abbrev s_LineWork_init : Stmt := inClass (top 24) 0
theorem sc_LineWork_init : FnScope ["self", "length"] ["self", "length"] (defScope s_LineWork_init) := ⟨rfl, rfl, rfl, by decide +kernel, rfl, by decide +kernel, by decide +kernel⟩
abbrev s_LineWork_spot_at : Stmt := inClass (top 24) 1
theorem sc_LineWork_spot_at : FnScope ["self", "window"] ["self", "window"] (defScope s_LineWork_spot_at) := ⟨rfl, rfl, rfl, by decide +kernel, rfl, by decide +kernel, by decide +kernel⟩
abbrev s_LineWork_thing_at : Stmt := inClass (top 24) 2
theorem sc_LineWork_thing_at : FnScope ["self", "window", "spot", "thing", "place"] ["self", "window"] (defScope s_LineWork_thing_at) := ⟨rfl, rfl, rfl, by decide +kernel, rfl, by decide +kernel, by decide +kernel⟩
abbrev s_LineWork_shift : Stmt := inClass (top 24) 3
theorem sc_LineWork_shift : FnScope ["self", "number"] ["self", "number"] (defScope s_LineWork_shift) := ⟨rfl, rfl, rfl, by decide +kernel, rfl, by decide +kernel, by decide +kernel⟩
abbrev s_LineWork_tell : Stmt := inClass (top 24) 4
theorem sc_LineWork_tell : FnScope ["self", "deed", "word"] ["self", "deed"] (defScope s_LineWork_tell) := ⟨rfl, rfl, rfl, by decide +kernel, rfl, by decide +kernel, by decide +kernel⟩
abbrev s_LineWork_look : Stmt := inClass (top 24) 5
theorem sc_LineWork_look : FnScope ["self", "window", "takes", "found"] ["self", "window", "takes"] (defScope s_LineWork_look) := ⟨rfl, rfl, rfl, by decide +kernel, rfl, by decide +kernel, by decide +kernel⟩
abbrev s_LineWork_peg : Stmt := inClass (top 24) 6
theorem sc_LineWork_peg : FnScope ["self", "window", "thing"] ["self", "window", "thing"] (defScope s_LineWork_peg) := ⟨rfl, rfl, rfl, by decide +kernel, rfl, by decide +kernel, by decide +kernel⟩
abbrev s_LineWork_hang : Stmt := inClass (top 24) 7
theorem sc_LineWork_hang : FnScope ["self", "window", "thing", "number"] ["self", "window", "thing"] (defScope s_LineWork_hang) := ⟨rfl, rfl, rfl, by decide +kernel, rfl, by decide +kernel, by decide +kernel⟩
abbrev s_LineWork_fetch : Stmt := inClass (top 24) 8
theorem sc_LineWork_fetch : FnScope ["self", "window", "thing", "number"] ["self", "window", "thing"] (defScope s_LineWork_fetch) := ⟨rfl, rfl, rfl, by decide +kernel, rfl, by decide +kernel, by decide +kernel⟩
abbrev s_LineWork_walk : Stmt := inClass (top 24) 9
theorem sc_LineWork_walk : FnScope ["self", "window", "step", "found", "times", "place", "one"] ["self", "window", "step"] (defScope s_LineWork_walk) := ⟨rfl, rfl, rfl, by decide +kernel, rfl, by decide +kernel, by decide +kernel⟩
abbrev s_LineWork_times_to : Stmt := inClass (top 24) 10
theorem sc_LineWork_times_to : FnScope ["self", "window", "place", "step", "gap", "first", "rounds", "length"] ["self", "window", "place", "step"] (defScope s_LineWork_times_to) := ⟨rfl, rfl, rfl, by decide +kernel, rfl, by decide +kernel, by decide +kernel⟩
abbrev s_Line_init : Stmt := inClass (top 26) 0
theorem sc_Line_init : FnScope ["self", "distance"] ["self", "distance"] (defScope s_Line_init) := ⟨rfl, rfl, rfl, by decide +kernel, rfl, by decide +kernel, by decide +kernel⟩
abbrev s_Line_distance : Stmt := inClass (top 26) 1
theorem sc_Line_distance : FnScope ["self"] ["self"] (defScope s_Line_distance) := ⟨rfl, rfl, rfl, by decide +kernel, rfl, by decide +kernel, by decide +kernel⟩
abbrev s_Line_turn : Stmt := inClass (top 26) 2
theorem sc_Line_turn : FnScope ["self"] ["self"] (defScope s_Line_turn) := ⟨rfl, rfl, rfl, by decide +kernel, rfl, by decide +kernel, by decide +kernel⟩
abbrev s_Line_pulled : Stmt := inClass (top 26) 3
theorem sc_Line_pulled : FnScope ["self"] ["self"] (defScope s_Line_pulled) := ⟨rfl, rfl, rfl, by decide +kernel, rfl, by decide +kernel, by decide +kernel⟩
abbrev s_Line_len : Stmt := inClass (top 26) 4
theorem sc_Line_len : FnScope ["self"] ["self"] (defScope s_Line_len) := ⟨rfl, rfl, rfl, by decide +kernel, rfl, by decide +kernel, by decide +kernel⟩
abbrev s_Line_remember : Stmt := inClass (top 26) 6
theorem sc_Line_remember : FnScope ["self"] ["self"] (defScope s_Line_remember) := ⟨rfl, rfl, rfl, by decide +kernel, rfl, by decide +kernel, by decide +kernel⟩
abbrev s_Line_do : Stmt := inClass (top 26) 7
theorem sc_Line_do : FnScope ["self", "deed"] ["self", "deed"] (defScope s_Line_do) := ⟨rfl, rfl, rfl, by decide +kernel, rfl, by decide +kernel, by decide +kernel⟩
abbrev s_Line_do_plan : Stmt := inClass (top 26) 8
theorem sc_Line_do_plan : FnScope ["self", "plan", "deed"] ["self", "plan"] (defScope s_Line_do_plan) := ⟨rfl, rfl, rfl, by decide +kernel, rfl, by decide +kernel, by decide +kernel⟩
abbrev s_Line_undo : Stmt := inClass (top 26) 9
theorem sc_Line_undo : FnScope ["self", "name", "calls"] ["self"] (defScope s_Line_undo) := ⟨rfl, rfl, rfl, by decide +kernel, rfl, by decide +kernel, by decide +kernel⟩
abbrev s_Line_mark : Stmt := inClass (top 26) 10
theorem sc_Line_mark : FnScope ["self", "name"] ["self", "name"] (defScope s_Line_mark) := ⟨rfl, rfl, rfl, by decide +kernel, rfl, by decide +kernel, by decide +kernel⟩
abbrev s_Line_back_to : Stmt := inClass (top 26) 11
theorem sc_Line_back_to : FnScope ["self", "name"] ["self", "name"] (defScope s_Line_back_to) := ⟨rfl, rfl, rfl, by decide +kernel, rfl, by decide +kernel, by decide +kernel⟩
abbrev s_Line_things : Stmt := inClass (top 26) 12
theorem sc_Line_things : FnScope ["self", "found", "thing", "place"] ["self"] (defScope s_Line_things) := ⟨rfl, rfl, rfl, by decide +kernel, rfl, by decide +kernel, by decide +kernel⟩
abbrev s_Line_at : Stmt := inClass (top 26) 13
theorem sc_Line_at : FnScope ["self", "window"] ["self", "window"] (defScope s_Line_at) := ⟨rfl, rfl, rfl, by decide +kernel, rfl, by decide +kernel, by decide +kernel⟩
abbrev s_Plan_init : Stmt := inClass (top 30) 0
theorem sc_Plan_init : FnScope ["self", "deeds", "index", "deed"] ["self", "deeds"] (defScope s_Plan_init) := ⟨rfl, rfl, rfl, by decide +kernel, rfl, by decide +kernel, by decide +kernel⟩
abbrev s_Plan_deeds : Stmt := inClass (top 30) 7
theorem sc_Plan_deeds : FnScope ["self"] ["self"] (defScope s_Plan_deeds) := ⟨rfl, rfl, rfl, by decide +kernel, rfl, by decide +kernel, by decide +kernel⟩
abbrev s_law_well : Stmt := top 32
theorem sc_law_well : FnScope ["_law_script", "_law_k", "_law_cell"] ["_law_script", "_law_k"] (defScope s_law_well) := ⟨rfl, rfl, rfl, by decide +kernel, rfl, by decide +kernel, by decide +kernel⟩
abbrev s_law_draw : Stmt := top 33
theorem sc_law_draw : FnScope ["_law_well_here", "_law_many", "_law_found", "_law_step", "_law_mixed"] ["_law_well_here", "_law_many"] (defScope s_law_draw) := ⟨rfl, rfl, rfl, by decide +kernel, rfl, by decide +kernel, by decide +kernel⟩
abbrev s_law_pick : Stmt := top 34
theorem sc_law_pick : FnScope ["_law_well_here", "_law_row"] ["_law_well_here", "_law_row"] (defScope s_law_pick) := ⟨rfl, rfl, rfl, by decide +kernel, rfl, by decide +kernel, by decide +kernel⟩
abbrev s_law_things : Stmt := top 35
theorem sc_law_things : FnScope ["_law_well_here", "_law_letters", "_law_found", "_law_some", "_law_k"] ["_law_well_here"] (defScope s_law_things) := ⟨rfl, rfl, rfl, by decide +kernel, rfl, by decide +kernel, by decide +kernel⟩
abbrev s_law_plain : Stmt := top 36
theorem sc_law_plain : FnScope ["_law_well_here", "_law_things_here", "_law_window", "_law_thing", "_law_sign", "_law_way", "_law_some"] ["_law_well_here", "_law_things_here"] (defScope s_law_plain) := ⟨rfl, rfl, rfl, by decide +kernel, rfl, by decide +kernel, by decide +kernel⟩
abbrev s_law_deed : Stmt := top 37
theorem sc_law_deed : FnScope ["_law_well_here", "_law_things_here", "_law_what"] ["_law_well_here", "_law_things_here"] (defScope s_law_deed) := ⟨rfl, rfl, rfl, by decide +kernel, rfl, by decide +kernel, by decide +kernel⟩
abbrev s_law_distance : Stmt := top 38
theorem sc_law_distance : FnScope ["_law_well_here", "_law_some"] ["_law_well_here"] (defScope s_law_distance) := ⟨rfl, rfl, rfl, by decide +kernel, rfl, by decide +kernel, by decide +kernel⟩
abbrev s_law_same : Stmt := top 39
theorem sc_law_same : FnScope ["_law_found", "_law_due", "_law_is_kind", "_law_k"] ["_law_found", "_law_due"] (defScope s_law_same) := ⟨rfl, rfl, rfl, by decide +kernel, rfl, by decide +kernel, by decide +kernel⟩
abbrev s_law_stand : Stmt := top 40
theorem sc_law_stand : FnScope ["_law_line"] ["_law_line"] (defScope s_law_stand) := ⟨rfl, rfl, rfl, by decide +kernel, rfl, by decide +kernel, by decide +kernel⟩
abbrev s_law_made : Stmt := top 41
theorem sc_law_made : FnScope ["_law_line", "_law_call"] ["_law_line", "_law_call"] (defScope s_law_made) := ⟨rfl, rfl, rfl, by decide +kernel, rfl, by decide +kernel, by decide +kernel⟩
abbrev s_law_went : Stmt := top 42
theorem sc_law_went : FnScope ["_law_line", "_law_way", "_law_thing", "_law_found", "_law_told"] ["_law_line", "_law_way", "_law_thing"] (defScope s_law_went) := ⟨rfl, rfl, rfl, by decide +kernel, rfl, by decide +kernel, by decide +kernel⟩
abbrev s_law_new_line : Stmt := top 43
theorem sc_law_new_line : FnScope ["_law_size", "_law_calls", "_law_marks", "_law_line", "_law_k", "_law_word"] ["_law_size", "_law_calls", "_law_marks"] (defScope s_law_new_line) := ⟨rfl, rfl, rfl, by decide +kernel, rfl, by decide +kernel, by decide +kernel⟩
abbrev s_law_kept : Stmt := top 44
theorem sc_law_kept : FnScope ["_law_marks", "_law_many", "_law_found", "_law_word"] ["_law_marks", "_law_many"] (defScope s_law_kept) := ⟨rfl, rfl, rfl, by decide +kernel, rfl, by decide +kernel, by decide +kernel⟩
abbrev s_law_alike : Stmt := top 45
theorem sc_law_alike : FnScope ["_law_well_here", "_law_one", "_law_other", "_law_lap", "_law_word", "_law_way", "_law_told"] ["_law_well_here", "_law_one", "_law_other"] (defScope s_law_alike) := ⟨rfl, rfl, rfl, by decide +kernel, rfl, by decide +kernel, by decide +kernel⟩
abbrev s_law_turn : Stmt := top 46
theorem sc_law_turn : FnScope ["_law_well_here", "_law_line", "_law_calls", "_law_marks", "_law_things_here", "_law_way", "_law_word", "_law_due", "_law_many", "_law_some", "_law_call", "_law_k"] ["_law_well_here", "_law_line", "_law_calls", "_law_marks", "_law_things_here"] (defScope s_law_turn) := ⟨rfl, rfl, rfl, by decide +kernel, rfl, by decide +kernel, by decide +kernel⟩
abbrev s_law : Stmt := top 47
theorem sc_law : FnScope ["_law_script", "_law_well_here", "_law_size", "_law_things_here", "_law_calls", "_law_marks", "_law_line", "_law_wells", "_law_spring", "_law_both", "_law_other", "_law_k"] ["_law_script"] (defScope s_law) := ⟨rfl, rfl, rfl, by decide +kernel, rfl, by decide +kernel, by decide +kernel⟩
/-- where the top has laid its things -/
structure Ad where
  cLineError : Addr
  cNoDistance : Addr
  cNoWindow : Addr
  cNothingToUndo : Addr
  cNoName : Addr
  cNoDeed : Addr
  cNoMark : Addr
  cLineWork : Addr
  cLine : Addr
  cPlan : Addr
  NoMark_init : Addr
  is_whole : Addr
  is_thing : Addr
  is_window : Addr
  is_distance : Addr
  is_length : Addr
  is_plain_deed : Addr
  is_deed : Addr
  LineWork_init : Addr
  LineWork_spot_at : Addr
  LineWork_thing_at : Addr
  LineWork_shift : Addr
  LineWork_tell : Addr
  LineWork_look : Addr
  LineWork_peg : Addr
  LineWork_hang : Addr
  LineWork_fetch : Addr
  LineWork_walk : Addr
  LineWork_times_to : Addr
  Line_init : Addr
  Line_distance : Addr
  Line_turn : Addr
  Line_pulled : Addr
  Line_len : Addr
  Line_remember : Addr
  Line_do : Addr
  Line_do_plan : Addr
  Line_undo : Addr
  Line_mark : Addr
  Line_back_to : Addr
  Line_things : Addr
  Line_at : Addr
  Plan_init : Addr
  Plan_deeds : Addr
  law_well : Addr
  law_draw : Addr
  law_pick : Addr
  law_things : Addr
  law_plain : Addr
  law_deed : Addr
  law_distance : Addr
  law_same : Addr
  law_stand : Addr
  law_made : Addr
  law_went : Addr
  law_new_line : Addr
  law_kept : Addr
  law_alike : Addr
  law_turn : Addr
  law : Addr
  pLine_distance : Addr
  pLine_turn : Addr
  pLine_pulled : Addr
  WINDOWS : Addr
/-- what the top has written -/
structure Txt (K : PySem.W.Frag) (mg : Str → Option Value) (a : Ad) : Prop where
  f_NoMark_init : ∃ fd, Fun K "__init__" "NoMark.__init__" s_NoMark_init a.NoMark_init fd
  f_is_whole : ∃ fd, Fun K "is_whole" "is_whole" s_is_whole a.is_whole fd
  g_is_whole : mg "is_whole" = some (.ref a.is_whole)
  f_is_thing : ∃ fd, Fun K "is_thing" "is_thing" s_is_thing a.is_thing fd
  g_is_thing : mg "is_thing" = some (.ref a.is_thing)
  f_is_window : ∃ fd, Fun K "is_window" "is_window" s_is_window a.is_window fd
  g_is_window : mg "is_window" = some (.ref a.is_window)
  f_is_distance : ∃ fd, Fun K "is_distance" "is_distance" s_is_distance a.is_distance fd
  g_is_distance : mg "is_distance" = some (.ref a.is_distance)
  f_is_length : ∃ fd, Fun K "is_length" "is_length" s_is_length a.is_length fd
  g_is_length : mg "is_length" = some (.ref a.is_length)
  f_is_plain_deed : ∃ fd, Fun K "is_plain_deed" "is_plain_deed" s_is_plain_deed a.is_plain_deed fd
  g_is_plain_deed : mg "is_plain_deed" = some (.ref a.is_plain_deed)
  f_is_deed : ∃ fd, Fun K "is_deed" "is_deed" s_is_deed a.is_deed fd
  g_is_deed : mg "is_deed" = some (.ref a.is_deed)
  f_LineWork_init : ∃ fd, Fun K "__init__" "LineWork.__init__" s_LineWork_init a.LineWork_init fd
  f_LineWork_spot_at : ∃ fd, Fun K "spot_at" "LineWork.spot_at" s_LineWork_spot_at a.LineWork_spot_at fd
  m_LineWork_spot_at : Meth K a.cLineWork "spot_at" a.LineWork_spot_at
  f_LineWork_thing_at : ∃ fd, Fun K "thing_at" "LineWork.thing_at" s_LineWork_thing_at a.LineWork_thing_at fd
  m_LineWork_thing_at : Meth K a.cLineWork "thing_at" a.LineWork_thing_at
  f_LineWork_shift : ∃ fd, Fun K "shift" "LineWork.shift" s_LineWork_shift a.LineWork_shift fd
  m_LineWork_shift : Meth K a.cLineWork "shift" a.LineWork_shift
  f_LineWork_tell : ∃ fd, Fun K "tell" "LineWork.tell" s_LineWork_tell a.LineWork_tell fd
  m_LineWork_tell : Meth K a.cLineWork "tell" a.LineWork_tell
  f_LineWork_look : ∃ fd, Fun K "look" "LineWork.look" s_LineWork_look a.LineWork_look fd
  m_LineWork_look : Meth K a.cLineWork "look" a.LineWork_look
  f_LineWork_peg : ∃ fd, Fun K "peg" "LineWork.peg" s_LineWork_peg a.LineWork_peg fd
  m_LineWork_peg : Meth K a.cLineWork "peg" a.LineWork_peg
  f_LineWork_hang : ∃ fd, Fun K "hang" "LineWork.hang" s_LineWork_hang a.LineWork_hang fd
  m_LineWork_hang : Meth K a.cLineWork "hang" a.LineWork_hang
  f_LineWork_fetch : ∃ fd, Fun K "fetch" "LineWork.fetch" s_LineWork_fetch a.LineWork_fetch fd
  m_LineWork_fetch : Meth K a.cLineWork "fetch" a.LineWork_fetch
  f_LineWork_walk : ∃ fd, Fun K "walk" "LineWork.walk" s_LineWork_walk a.LineWork_walk fd
  m_LineWork_walk : Meth K a.cLineWork "walk" a.LineWork_walk
  f_LineWork_times_to : ∃ fd, Fun K "times_to" "LineWork.times_to" s_LineWork_times_to a.LineWork_times_to fd
  m_LineWork_times_to : Meth K a.cLineWork "times_to" a.LineWork_times_to
  f_Line_init : ∃ fd, Fun K "__init__" "Line.__init__" s_Line_init a.Line_init fd
  f_Line_distance : ∃ fd, Fun K "distance" "Line.distance" s_Line_distance a.Line_distance fd
  p_Line_distance : PropOf K a.cLine "distance" a.pLine_distance a.Line_distance
  f_Line_turn : ∃ fd, Fun K "turn" "Line.turn" s_Line_turn a.Line_turn fd
  p_Line_turn : PropOf K a.cLine "turn" a.pLine_turn a.Line_turn
  f_Line_pulled : ∃ fd, Fun K "pulled" "Line.pulled" s_Line_pulled a.Line_pulled fd
  p_Line_pulled : PropOf K a.cLine "pulled" a.pLine_pulled a.Line_pulled
  f_Line_len : ∃ fd, Fun K "__len__" "Line.__len__" s_Line_len a.Line_len fd
  m_Line_len : Meth K a.cLine "__len__" a.Line_len
  f_Line_remember : ∃ fd, Fun K "remember" "Line.remember" s_Line_remember a.Line_remember fd
  m_Line_remember : Meth K a.cLine "remember" a.Line_remember
  f_Line_do : ∃ fd, Fun K "do" "Line.do" s_Line_do a.Line_do fd
  m_Line_do : Meth K a.cLine "do" a.Line_do
  f_Line_do_plan : ∃ fd, Fun K "do_plan" "Line.do_plan" s_Line_do_plan a.Line_do_plan fd
  m_Line_do_plan : Meth K a.cLine "do_plan" a.Line_do_plan
  f_Line_undo : ∃ fd, Fun K "undo" "Line.undo" s_Line_undo a.Line_undo fd
  m_Line_undo : Meth K a.cLine "undo" a.Line_undo
  f_Line_mark : ∃ fd, Fun K "mark" "Line.mark" s_Line_mark a.Line_mark fd
  m_Line_mark : Meth K a.cLine "mark" a.Line_mark
  f_Line_back_to : ∃ fd, Fun K "back_to" "Line.back_to" s_Line_back_to a.Line_back_to fd
  m_Line_back_to : Meth K a.cLine "back_to" a.Line_back_to
  f_Line_things : ∃ fd, Fun K "things" "Line.things" s_Line_things a.Line_things fd
  m_Line_things : Meth K a.cLine "things" a.Line_things
  f_Line_at : ∃ fd, Fun K "at" "Line.at" s_Line_at a.Line_at fd
  m_Line_at : Meth K a.cLine "at" a.Line_at
  f_Plan_init : ∃ fd dv, FunD K "__init__" "Plan.__init__" (defArgs s_Plan_init) (defBody s_Plan_init) (defScope s_Plan_init) [dv] [] a.Plan_init fd
  f_Plan_deeds : ∃ fd, Fun K "deeds" "Plan.deeds" s_Plan_deeds a.Plan_deeds fd
  m_Plan_deeds : Meth K a.cPlan "deeds" a.Plan_deeds
  f_law_well : ∃ fd, Fun K "_law_well" "_law_well" s_law_well a.law_well fd
  g_law_well : mg "_law_well" = some (.ref a.law_well)
  f_law_draw : ∃ fd, Fun K "_law_draw" "_law_draw" s_law_draw a.law_draw fd
  g_law_draw : mg "_law_draw" = some (.ref a.law_draw)
  f_law_pick : ∃ fd, Fun K "_law_pick" "_law_pick" s_law_pick a.law_pick fd
  g_law_pick : mg "_law_pick" = some (.ref a.law_pick)
  f_law_things : ∃ fd, Fun K "_law_things" "_law_things" s_law_things a.law_things fd
  g_law_things : mg "_law_things" = some (.ref a.law_things)
  f_law_plain : ∃ fd, Fun K "_law_plain" "_law_plain" s_law_plain a.law_plain fd
  g_law_plain : mg "_law_plain" = some (.ref a.law_plain)
  f_law_deed : ∃ fd, Fun K "_law_deed" "_law_deed" s_law_deed a.law_deed fd
  g_law_deed : mg "_law_deed" = some (.ref a.law_deed)
  f_law_distance : ∃ fd, Fun K "_law_distance" "_law_distance" s_law_distance a.law_distance fd
  g_law_distance : mg "_law_distance" = some (.ref a.law_distance)
  f_law_same : ∃ fd, Fun K "_law_same" "_law_same" s_law_same a.law_same fd
  g_law_same : mg "_law_same" = some (.ref a.law_same)
  f_law_stand : ∃ fd, Fun K "_law_stand" "_law_stand" s_law_stand a.law_stand fd
  g_law_stand : mg "_law_stand" = some (.ref a.law_stand)
  f_law_made : ∃ fd, Fun K "_law_made" "_law_made" s_law_made a.law_made fd
  g_law_made : mg "_law_made" = some (.ref a.law_made)
  f_law_went : ∃ fd, Fun K "_law_went" "_law_went" s_law_went a.law_went fd
  g_law_went : mg "_law_went" = some (.ref a.law_went)
  f_law_new_line : ∃ fd, Fun K "_law_new_line" "_law_new_line" s_law_new_line a.law_new_line fd
  g_law_new_line : mg "_law_new_line" = some (.ref a.law_new_line)
  f_law_kept : ∃ fd, Fun K "_law_kept" "_law_kept" s_law_kept a.law_kept fd
  g_law_kept : mg "_law_kept" = some (.ref a.law_kept)
  f_law_alike : ∃ fd, Fun K "_law_alike" "_law_alike" s_law_alike a.law_alike fd
  g_law_alike : mg "_law_alike" = some (.ref a.law_alike)
  f_law_turn : ∃ fd, Fun K "_law_turn" "_law_turn" s_law_turn a.law_turn fd
  g_law_turn : mg "_law_turn" = some (.ref a.law_turn)
  f_law : ∃ fd, Fun K "law" "law" s_law a.law fd
  g_law : mg "law" = some (.ref a.law)
  c_LineWork : Cls K a.cLineWork
  k_LineWork : Mk K a.cLineWork a.LineWork_init
  g_LineWork : mg "LineWork" = some (.ref a.cLineWork)
  n_LineWork_half : NoAttr K a.cLineWork "half"
  n_LineWork_stand : NoAttr K a.cLineWork "stand"
  n_LineWork_hung : NoAttr K a.cLineWork "hung"
  n_LineWork_lengths : NoAttr K a.cLineWork "lengths"
  c_Line : Cls K a.cLine
  k_Line : Mk K a.cLine a.Line_init
  g_Line : mg "Line" = some (.ref a.cLine)
  n_Line_length : NoAttr K a.cLine "length"
  n_Line_work : NoAttr K a.cLine "work"
  n_Line_done : NoAttr K a.cLine "done"
  n_Line_earlier : NoAttr K a.cLine "earlier"
  n_Line_marks : NoAttr K a.cLine "marks"
  c_Plan : Cls K a.cPlan
  k_Plan : Mk K a.cPlan a.Plan_init
  g_Plan : mg "Plan" = some (.ref a.cPlan)
  n_Plan_kept : NoAttr K a.cPlan "kept"
  LETTERS : ∃ t, mg "LETTERS" = some (.str "abcdefghijklmnopqrstuvwxyz" t)
  WINDOWS : mg "WINDOWS" = some (.ref a.WINDOWS)
  windows : ∀ H, SqT K H a.WINDOWS [.str "near", .str "far"]
  LONGEST_THING : ∃ t, mg "LONGEST_THING" = some (.int 8 t)
  GREATEST_DISTANCE : ∃ t, mg "GREATEST_DISTANCE" = some (.int (10 ^ 50) t)
  GREATEST_PULL : ∃ t, mg "GREATEST_PULL" = some (.int 40 t)
  GREATEST_STEP : ∃ t, mg "GREATEST_STEP" = some (.int 6 t)
  MOST_DEEDS : ∃ t, mg "MOST_DEEDS" = some (.int 12 t)
  g_NTU : mg "NothingToUndo" = some (.ref a.cNothingToUndo)
  x_NTU : PySem.W.excIn K a.cNothingToUndo [.type "ValueError", .type "Exception", .type "BaseException", .type "object"] "ValueError.__new__" = true
  k_NTU : PySem.W.keepIn K (.ref a.cNothingToUndo) = true
  s_NTU : PySem.W.subIn K (.ref a.cNothingToUndo) (.type "BaseException") = some true
  t_NTU : PySem.W.typeIn K (.ref a.cNothingToUndo) = some (.type "type")
  g_NM : mg "NoMark" = some (.ref a.cNoMark)
  o_NM : OexC K a.cNoMark
  i_NM : PySem.W.findIn K (.ref a.cNoMark) "__init__" = some (some (.ref a.NoMark_init))
  ti_NM : PySem.W.typeIn K (.ref a.NoMark_init) = some (.type "function")
  n_NM : PySem.W.findIn K (.ref a.cNoMark) "name" = some none
  e_1 : PySem.W.exmOne K (.ref a.cNoMark) (.ref a.cNoMark) = some true
  e_2 : PySem.W.exmOne K (.ref a.cNothingToUndo) (.ref a.cNoMark) = some false
  e_3 : PySem.W.exmOne K (.ref a.cNothingToUndo) (.ref a.cNothingToUndo) = some true
  b_isinstance : mg "isinstance" = none
  b_len : mg "len" = none
  b_all : mg "all" = none
  b_int : mg "int" = none
  b_str : mg "str" = none
  b_tuple : mg "tuple" = none
  b_list : mg "list" = none
  b_bool : mg "bool" = none
  b_abs : mg "abs" = none
  b_max : mg "max" = none
  b_min : mg "min" = none
  b_range : mg "range" = none
  b_dict : mg "dict" = none
  b_sorted : mg "sorted" = none
  b_enumerate : mg "enumerate" = none
end K76

set_option maxRecDepth 100000
set_option maxHeartbeats 4000000
namespace K76
open PySem L2
/-! ## Promises -/
/-- a def keeps its promise; every parameter is given -/
def Ok1 (P : Program) (w : World) (K : PySem.W.Frag) (mg : Str → Option Value) (base : Heap) (CX : CXT) (k : Nat) (f : Addr) (ps : List Str) (sp : Sp) : Prop :=
  ∃ fd, FnOk P w K mg base CX k f fd ps sp ∧ Binds K fd ps [] ∧ PySem.W.keepIn K (.ref f) = true
/-- all that was tracked stands, but what is at F and is no tuple -/
def But (F : List Addr) (H H' : Hp) : Prop := ∀ b o, H b = some o → (b ∈ F → ∃ xs, o = HO.tup xs) → H' b = some o
theorem But.refl {F : List Addr} {H : Hp} : But F H H := fun _ _ e _ => e
theorem But.trans {F F1 : List Addr} {H H1 H2 : Hp} (a : But F H H1) (b : But F1 H1 H2) (h : ∀ x ∈ F1, x ∈ F ∨ H x = none) : But F H H2 := fun c o e hc => by
  refine b c o (a c o e hc) fun hm => ?_
  rcases h c hm with h | h
  · exact hc h
  · rw [e] at h; cases h
theorem But.new {F : List Addr} {H : Hp} {p : Addr} {o : HO} (h : H p = none) : But F H (upd H p o) := fun b u e _ => by
  rw [upd_ne (ne_of_none e h)]
  exact e
theorem But.set {F : List Addr} {H : Hp} {p : Addr} {o u : HO} (hp : p ∈ F) (h : H p = some u) (ht : ∀ xs, u ≠ HO.tup xs) : But F H (upd H p o) := fun b z e hz => by
  by_cases hb : b = p
  · subst hb
    rw [h] at e
    cases e
    obtain ⟨xs, q⟩ := hz hp
    exact absurd q (ht xs)
  · rw [upd_ne hb]
    exact e
theorem But.same {F : List Addr} {H H' : Hp} (h : Same H H') : But F H H' := fun b o e _ => h b o e
theorem But.toSame {H H' : Hp} (h : But [] H H') : Same H H' := fun b o e => h b o e fun q => absurd q (by simp)
theorem But.mono {F G : List Addr} {H H' : Hp} (a : But F H H') (h : ∀ x ∈ F, x ∈ G ∨ H x = none) : But G H H' := fun b o e hb => a b o e fun hm => by
  rcases h b hm with h | h
  · exact hb h
  · rw [e] at h; cases h
theorem But.tup {F : List Addr} {H H' : Hp} {t : Addr} {xs : List V} (a : But F H H') (h : H t = some (.tup xs)) : H' t = some (.tup xs) := a t _ h fun _ => ⟨xs, rfl⟩
theorem But.at {F : List Addr} {H H' : Hp} {t : Addr} {o : HO} (a : But F H H') (hn : t ∉ F) (h : H t = some o) : H' t = some o := a t o h fun q => absurd q hn
theorem But.free {F : List Addr} {H H' : Hp} {t : Addr} (a : But F H H') (h : H' t = none) (hn : t ∉ F) : H t = none := by
  cases e : H t with
  | none => rfl
  | some o => rw [a.at hn e] at h; cases h

/-! ## The line's work on the heap -/
def kvH (hu : Hung) : List (Key × V) := hu.map fun p => (Sum.inr p.1, V.int p.2)
theorem kvH_length (hu : Hung) : (kvH hu).length = hu.length := List.length_map ..
theorem valV_kvH (x : Str) : ∀ hu : Hung, valV (kvH hu) (Sum.inr x : Key) = (lk hu x).map V.int
  | [] => rfl
  | p :: r => by
    show valV (((Sum.inr p.1 : Key), V.int p.2) :: kvH r) (Sum.inr x : Key) = _
    by_cases e : p.1 = x
    · rw [valV_pos (p := ((Sum.inr p.1 : Key), V.int p.2)) (by rw [e])]
      unfold lk
      rw [List.find?_cons_of_pos (by simpa using e)]
      rfl
    · rw [valV_neg (p := ((Sum.inr p.1 : Key), V.int p.2)) (fun q => e (Sum.inr.inj q)), valV_kvH x r]
      unfold lk
      rw [List.find?_cons_of_neg (by simpa using e)]
theorem put_kvH {x : Str} {p : Int} {hu : Hung} (h : lk hu x = none) : putK (kvH hu) (Sum.inr x : Key) (V.int p) = kvH (hu ++ [(x, p)]) := by
  rw [putK_new _ (by rw [valV_kvH, h]; rfl)]
  unfold kvH
  rw [List.map_append]
  rfl
theorem drop_kvH (x : Str) (hu : Hung) : dropK (kvH hu) (Sum.inr x : Key) = kvH (dropH hu x) := by
  unfold dropK kvH dropH
  rw [List.filter_map]
  congr 1
  refine List.filter_congr fun p _ => ?_
  show decide (¬ (Sum.inr p.1 : Key) = Sum.inr x) = decide (¬ p.1 = x)
  by_cases e : p.1 = x
  · simp [e]
  · have : ¬ (Sum.inr p.1 : Key) = Sum.inr x := fun q => e (Sum.inr.inj q)
    simp [e, this]

def wfl (h st : Int) (d : Addr) (l : Int) : List (Str × V) := [("half", .int h), ("stand", .int st), ("hung", .ref d), ("lengths", .int l)]
section
variable {h st l y : Int} {d : Addr}
theorem wfl_half : (wfl h st d l).lookup ("half" : Str) = some (.int h) := by kernel_rfl
theorem wfl_stand : (wfl h st d l).lookup ("stand" : Str) = some (.int st) := by kernel_rfl
theorem wfl_hung : (wfl h st d l).lookup ("hung" : Str) = some (.ref d) := by kernel_rfl
theorem wfl_lengths : (wfl h st d l).lookup ("lengths" : Str) = some (.int l) := by kernel_rfl
theorem wfl_put_stand : putF "stand" (.int y) (wfl h st d l) = wfl h y d l := by kernel_rfl
theorem wfl_put_lengths : putF "lengths" (.int y) (wfl h st d l) = wfl h st d y := by kernel_rfl
theorem wfl_put_hung {d' : Addr} : putF "hung" (.ref d') (wfl h st d l) = wfl h st d' l := by kernel_rfl
theorem wfl_init : putF "lengths" (.int l) (putF "hung" (.ref d) (putF "stand" (.int st) (putF "half" (.int h) []))) = wfl h st d l := by kernel_rfl
theorem wfl_m_spot : (wfl h st d l).lookup ("spot_at" : Str) = none := by kernel_rfl
theorem wfl_m_thing : (wfl h st d l).lookup ("thing_at" : Str) = none := by kernel_rfl
theorem wfl_m_shift : (wfl h st d l).lookup ("shift" : Str) = none := by kernel_rfl
theorem wfl_m_tell : (wfl h st d l).lookup ("tell" : Str) = none := by kernel_rfl
theorem wfl_m_look : (wfl h st d l).lookup ("look" : Str) = none := by kernel_rfl
theorem wfl_m_peg : (wfl h st d l).lookup ("peg" : Str) = none := by kernel_rfl
theorem wfl_m_hang : (wfl h st d l).lookup ("hang" : Str) = none := by kernel_rfl
theorem wfl_m_fetch : (wfl h st d l).lookup ("fetch" : Str) = none := by kernel_rfl
theorem wfl_m_walk : (wfl h st d l).lookup ("walk" : Str) = none := by kernel_rfl
theorem wfl_m_times : (wfl h st d l).lookup ("times_to" : Str) = none := by kernel_rfl
theorem wfl_len : (wfl h st d l).length < 1000 := by show 4 < 1000; decide
end
/-- the instance, its dict of things at d -/
def InsW (C : Addr) (H : Hp) (W d : Addr) (S : WS) : Prop := ∃ dx, H W = some (.ins C dx (wfl S.half S.stand d S.len))
/-- .. and that dict -/
structure WorkAt (C : Addr) (H : Hp) (W d : Addr) (S : WS) : Prop where
  ob : InsW C H W d S
  dc : H d = some (.dK (kvH S.hung))
theorem WorkAt.ne {C W d : Addr} {H : Hp} {S : WS} (h : WorkAt C H W d S) : W ≠ d := let ⟨_, e⟩ := h.ob; ne_of e h.dc (by intro z; cases z)

/-! ## Loops over anything that takes n turns -/
theorem for_it {J : It} {g : TG} {tb : TS} {D : Ends} {σ : L2.St} {H : Hp} (n : Nat) (Pv : Nat → L2.St → Hp → Prop) (h0 : Pv 0 σ H) (go : ∀ i σ H, i < n → Pv i σ H → J.go i H) (stop : ∀ σ H, Pv n σ H → J.stop n H)
    (hs : ∀ i σ H x H', i < n → Pv i σ H → J.yld i H x H' → g x σ H' fun σ2 H2 => tb { D with nx := Pv (i + 1), ct := Pv (i + 1), bk := D.nx } σ2 H2) (hd : ∀ σ H, Pv n σ H → D.nx σ H) :
    ∃ W : Nat → Nat → L2.St → Hp → Prop, (∃ m, W 0 m σ H) ∧ ∀ i m σ H, W i m σ H →
      (J.stop i H ∧ D.nx σ H) ∨ (J.go i H ∧ ∃ N : L2.St → Hp → Prop, (∀ σ' H', N σ' H' → ∃ m', m' < m ∧ W (i + 1) m' σ' H') ∧ ∀ x H', J.yld i H x H' → g x σ H' fun σ2 H2 => tb { D with nx := N, ct := N, bk := D.nx } σ2 H2) := by
  refine ⟨fun i m σ H => m = n - i ∧ i ≤ n ∧ Pv i σ H, ⟨n, by simp, Nat.zero_le _, h0⟩, ?_⟩
  rintro i m σ H ⟨rfl, hi, p⟩
  by_cases hlt : i < n
  · exact .inr ⟨go i σ H hlt p, Pv (i + 1), fun σ' H' p' => ⟨n - (i + 1), by omega, rfl, hlt, p'⟩, fun x H' y => hs i σ H x H' hlt p y⟩
  · have e : i = n := by omega
    subst e
    exact .inl ⟨stop σ H p, hd σ H p⟩
theorem lc_it {J : It} {g : TG} {tt : TT} {te : TE} {vs : List Nat} {σ : L2.St} {H1 : Hp} {D : Addr} {Qd : Hp → Prop} (n : Nat) (Pv : Nat → Hp → Prop) (h0 : Pv 0 (upd H1 D (.lst []))) (go : ∀ i H, i < n → Pv i H → J.go i H) (stop : ∀ H, Pv n H → J.stop n H)
    (hs : ∀ i H x H', i < n → Pv i H → J.yld i H x H' → g x (wipe σ vs) H' fun σ2 H2 => wipe σ2 vs = wipe σ vs ∧ tt σ2 H2 fun b H3 => if b = true then te σ2 H3 fun y H4 => ∃ acc, H4 D = some (.lst acc) ∧ acc.length < sizeLine ∧ Pv (i + 1) (upd H4 D (.lst (acc ++ [y]))) else Pv (i + 1) H3) (hd : ∀ H, Pv n H → Qd H) :
    ∃ W : Nat → Nat → Hp → Prop, (∃ m, W 0 m (upd H1 D (.lst []))) ∧ ∀ i m H, W i m H → (J.stop i H ∧ Qd H) ∨ (J.go i H ∧ ∃ Nx : Hp → Prop, (∀ H', Nx H' → ∃ m', m' < m ∧ W (i + 1) m' H') ∧ ∀ x H', J.yld i H x H' → g x (wipe σ vs) H' fun σ2 H2 => wipe σ2 vs = wipe σ vs ∧ tt σ2 H2 fun b H3 =>
      if b = true then te σ2 H3 fun y H4 => ∃ acc, H4 D = some (.lst acc) ∧ acc.length < sizeLine ∧ Nx (upd H4 D (.lst (acc ++ [y]))) else Nx H3) := by
  refine ⟨fun i m H => m = n - i ∧ i ≤ n ∧ Pv i H, ⟨n, by simp, Nat.zero_le _, h0⟩, ?_⟩
  rintro i m H ⟨rfl, hi, p⟩
  by_cases hlt : i < n
  · exact .inr ⟨go i H hlt p, Pv (i + 1), fun H' p' => ⟨n - (i + 1), by omega, rfl, hlt, p'⟩, fun x H' y => hs i H x H' hlt p y⟩
  · have e : i = n := by omega
    subst e
    exact .inl ⟨stop H p, hd H p⟩
theorem ite_or {c : Bool} {A B : Prop} (h1 : c = true → A) (h2 : c = false → B) : if c = true then A else B := by
  cases c with
  | true => rw [if_pos rfl]; exact h1 rfl
  | false => rw [if_neg Bool.false_ne_true]; exact h2 rfl
end K76

set_option maxRecDepth 100000
set_option maxHeartbeats 4000000
namespace K76
open PySem L2
open PyProof.Rows
/-! ## == of a list or a tuple and an empty one, whatever its items are -/
section
variable {X : Cx}
def rEqNil (K : PySem.W.Frag) : R2 := fun x y H Q => ∃ p q xs, x = .ref p ∧ y = .ref q ∧ SqL K H p xs ∧ SqL K H q [] ∧ Q (.bl xs.isEmpty) H
def rNeNil (K : PySem.W.Frag) : R2 := fun x y H Q => ∃ p q xs, x = .ref p ∧ y = .ref q ∧ SqL K H p xs ∧ SqL K H q [] ∧ Q (.bl (!xs.isEmpty)) H
def rEqNilT (K : PySem.W.Frag) : R2 := fun x y H Q => ∃ p q xs, x = .ref p ∧ y = .ref q ∧ SqT K H p xs ∧ SqT K H q [] ∧ Q (.bl xs.isEmpty) H
theorem op_eqNil (hu : X.A.units < cLine) : OpR X (compareOp .Eq) (rEqNil X.K) := by
  intro pins s σ H x y v u Q I rx ry h
  obtain ⟨p, q, xs, rfl, rfl, h1, h2, k⟩ := h
  cases rx
  cases ry
  obtain ⟨its, r1, l1, z1⟩ := I.list h1
  obtain ⟨jts, r2, l2, z2⟩ := I.list h2
  cases r2
  cases xs with
  | nil =>
    cases r1
    exact SeqAt.eq_listAt (e := fun _ => true) l1.isList l2.isList rfl hu (fun j hj _ => absurd hj (Nat.not_lt_zero _)) ⟨.bl true, H, I, rfl, k⟩
  | cons y ys =>
    cases r1 with
    | cons ra rb => exact SeqAt.eq_list_lengthsAt l1.isList l2.isList (by simp) hu ⟨.bl false, H, I, rfl, k⟩
theorem op_neNil (hu : X.A.units < cLine) : OpR X (compareOp .NotEq) (rNeNil X.K) := by
  intro pins s σ H x y v u Q I rx ry h
  obtain ⟨p, q, xs, rfl, rfl, h1, h2, k⟩ := h
  cases rx
  cases ry
  obtain ⟨its, r1, l1, z1⟩ := I.list h1
  obtain ⟨jts, r2, l2, z2⟩ := I.list h2
  cases r2
  cases xs with
  | nil =>
    cases r1
    exact SeqAt.RcNeAt.lists (e := fun _ => true) l1.isList l2.isList rfl hu (fun j hj _ => absurd hj (Nat.not_lt_zero _)) _ _ _ _ ⟨.bl false, H, I, rfl, k⟩
  | cons y ys =>
    cases r1 with
    | cons ra rb => exact SeqAt.RcNeAt.lists_lengths l1.isList l2.isList (by simp) hu _ _ _ _ ⟨.bl true, H, I, rfl, k⟩
theorem op_eqNilT (hu : X.A.units < cLine) : OpR X (compareOp .Eq) (rEqNilT X.K) := by
  intro pins s σ H x y v u Q I rx ry h
  obtain ⟨p, q, xs, rfl, rfl, h1, h2, k⟩ := h
  cases rx
  cases ry
  obtain ⟨its, r1, l1, z1⟩ := I.tuple h1
  obtain ⟨jts, r2, l2, z2⟩ := I.tuple h2
  cases r2
  refine SeqAt.eq_tupleAt (e := fun _ => true) l1 l2 hu (fun j _ hj => absurd hj (Nat.not_lt_zero _)) ⟨.bl xs.isEmpty, H, I, ?_, k⟩
  cases xs with
  | nil =>
    cases r1
    rfl
  | cons y ys =>
    cases r1 with
    | cons ra rb => simp [L2.RelV]
end
end K76

set_option maxRecDepth 100000
set_option maxHeartbeats 4000000
namespace K76
open PySem L2
/-! ## Rules that the layer lacks -/
section
variable {X : Cx}
/-- y = {k: v for ..}, told as a statement -/
theorem ps_setDc {i : Nat} {y : Str} {py : Pos} {kx vx tg iter : Expr} {ifs : List Expr} {scope : Scope} {own : List (Str × Nat)} {pos spos : Pos} {wi : TI} {g : TG} {tt : TT} {tk tv : TE} (hc : X.calm = true) (hN : X.N.Nodup) (hy : X.N[i]? = some y)
    (hyl : X.env.scope.names.lookup y = some .local) (hsw : swapsWith (.DictComp kx vx [⟨tg, iter, ifs, 0⟩] scope pos) (some (.Name y py)) spos.line X.env = pure true) (hi : PI X tg iter wi) (ok : BlkOk X.N X.env.scope scope own)
    (hg : ∀ (s : Shared) (H : Hp) (C : Addr) (cl : List (Str × Addr)) (fp : List Addr), PG (X.blk s H scope (compEnvC scope cl C X.env) fp) tg g)
    (ht : ∀ (s : Shared) (H : Hp) (C : Addr) (cl : List (Str × Addr)) (fp : List Addr), PTs (X.blk s H scope (compEnvC scope cl C X.env) fp) ifs tt)
    (hk : ∀ (s : Shared) (H : Hp) (C : Addr) (cl : List (Str × Addr)) (fp : List Addr), PE (X.blk s H scope (compEnvC scope cl C X.env) fp) kx tk)
    (hv : ∀ (s : Shared) (H : Hp) (C : Addr) (cl : List (Str × Addr)) (fp : List Addr), PE (X.blk s H scope (compEnvC scope cl C X.env) fp) vx tv) (hs : ∀ x, foldedSetIterable iter X.env x = pure x := by intro _; rfl) :
    PS X (.Assign [.Name y py] (.DictComp kx vx [⟨tg, iter, ifs, 0⟩] scope pos) spos) (tAsg (tDc wi g tt tk tv (own.map (·.2))) (gName i)) := by
  refine ⟨fun pins s σ H D I h => ?_⟩
  rw [exec_Assign_Name_used _ _ _ _ hsw]
  refine wpAny_bind (wpAny_standAt (wpAny_bind ?_))
  rw [arm_evalThenUse_DictComp]
  have h : tDc wi g tt tk tv (own.map (·.2)) σ H (fun x H1 => gName i x σ H1 D.nx) := h
  refine wpAny_bind (thn (dc_core (Qf := fun _ s' => SP X pins D .next s') hc hN I hi ok hg ht hk hv hs h fun L C s1 m H1 I1 q hn f => ?_) fun _ s1 hq => wpAny_pure (wpAny_pure hq))
  show wpAny _ _ (assign (.Name y py) X.env (.ref L)) _ _ _
  refine wpAny_assign_Name (store_ok2 (v := V.ref L) I1 hN hy (.inl hyl) rfl (fun s2 I2 ⟨b, sb, hb⟩ => ?_) (.inr hyl))
  obtain ⟨f0, f1, f2, f3, f4, f5⟩ := f
  have nC : C ≠ b := by
    rcases hb with z | z
    · rw [z]
      exact f1
    · exact fun e => f4 y b z e.symm
  exact ⟨m, hn.sameBut sb nC, fun h3 sb3 => ⟨_, H1, I2.turned (t' := s2.toks) (fun b' o n e => (sb3.2 b' n).trans e) f0 f1 f3 f4 f5, q⟩⟩
theorem swD_true {kx vx : Expr} {gs : List Comprehension} {scope : Scope} {pos py : Pos} {y : Str} {l : Nat} {env : Env} (hk : env.scope.kind = .function) (hy : env.scope.names.lookup y = some .local) (hl : (py.line == pos.line) = true)
    (ha : (scope.names.any fun (n, k) => n == y && (k == .local || k == .cell)) = false) : swapsWith (.DictComp kx vx gs scope pos) (some (.Name y py)) l env = pure true := by
  have e1 : env.kindOf y = some .local := hy
  have e2 : env.blockKind = .function := by
    unfold Env.blockKind
    rw [hk]
    rfl
  unfold swapsWith
  simp only [e2, e1, ha, Expr.pos, hl]
  rfl
/-- o.f as a target -/
def gFld (K : PySem.W.Frag) (ta : TE) (f : Str) : TG := fun v σ H Q => ta σ H fun x H1 => ∃ a C dx fs, x = .ref a ∧ H1 a = some (.ins C dx fs) ∧ Cls K C ∧ NoAttr K C f ∧ fs.length < 1000 ∧ Q σ (upd H1 a (.ins C dx (putF f v fs)))
theorem pg_fld {o : Expr} {f : Str} {pos : Pos} {ta : TE} (ho : PE X o ta) : PG X (.Attribute o f pos) (gFld X.K ta f) := by
  refine ⟨fun pins s σ H v u Q I r h => ?_⟩
  rw [assign_Attribute]
  refine wpAny_bind (wpAny_holding (thn (ho.run pins s σ H _ I h) fun ov s1 ⟨x, H1, I1, rx, b, C, dx, fs, ex, eb, c, n, l, q⟩ => ?_))
  subst ex
  obtain rfl : ov = Value.ref b := rx
  refine wpAny_bind (wpAny_standAt (wpAny_bind (wpAny_holding (setattr_ok I1 eb c n l r fun s2 I2 => ?_))))
  exact wpAny_release ⟨σ, _, I2, q⟩
/-- an attribute, in a comprehension's block -/
theorem pe_fldK {K : PySem.W.Frag} {e : Expr} {f : Str} {pos : Pos} {ta : TE} (hK : X.K = K) (he : PE X e ta) (hb : attributeBase e f X.env (eval e X.env) = eval e X.env) : PE X (.Attribute e f pos) (tFld K ta f) := by
  subst hK
  exact pe_fld he hb
/-- a tuple of targets, in a comprehension's block -/
theorem pg_tupK {K : PySem.W.Frag} {es : List Expr} {k : Nat} {pos : Pos} {t : TGs} {n : Nat} (hK : X.K = K) (hc : X.calm = true) (h : PGs X es t) (hn : (assignEach es X.env).length = n := by rfl) (hst : (assignEach es X.env).findIdx? (·.1) = none := by rfl) :
    PG X (.Tuple es k pos) (gTup K n t) := by
  subst hK
  exact pg_tup hc h hn hst
end
end K76

set_option maxRecDepth 100000
set_option maxHeartbeats 4000000
namespace K76
open PySem L2
section
variable {X : Cx}
/-- a power of a great base -/
def CPowW (i j : Int) : Prop := 0 ≤ j ∧ j ≤ 3 ∧ i.natAbs < 2 ^ 250
theorem op_powW : OpR X (binaryOp .Pow) (rI CPowW fun i j => .int (i ^ j.toNat)) := by
  intro pins s σ H x y v u Q I rx ry h
  obtain ⟨i, j, rfl, rfl, ⟨h0, h1, h2⟩, q⟩ := h
  obtain ⟨t, rfl⟩ := rx
  obtain ⟨t2, rfl⟩ := ry
  have b : Builtin.Int.intBits i ≤ 251 := by
    have l : i.natAbs.log2 < 250 := PySem.Flt.log2_lt_of (by decide) h2
    unfold Builtin.Int.intBits
    split <;> omega
  have hb : (Builtin.Int.intBits i : Int) * j ≤ 2 ^ 27 := by
    have z : (Builtin.Int.intBits i : Int) * j ≤ 251 * 3 := Int.mul_le_mul (by omega) h1 h0 (by decide)
    omega
  exact PyProof.Rows.pow_int h0 hb ⟨.int _, H, I.tok _, ⟨_, rfl⟩, q⟩
/-- a short text, taken a few times -/
theorem op_mulS : OpR X (binaryOp .Mult) (fun x y H Q => ∃ (z : Str) (n : Int), x = .str z ∧ y = .int n ∧ 1 ≤ n ∧ n ≤ 8 ∧ z.length = 1 ∧ Q (.str (Txt.mul z n)) H) := by
  intro pins s σ H x y v u Q I rx ry h
  obtain ⟨z, n, rfl, rfl, h1, h2, hz, q⟩ := h
  obtain ⟨t, rfl⟩ := rx
  obtain ⟨t2, rfl⟩ := ry
  have ok : MulOk z n := by
    refine ⟨?_, fun _ _ => ?_, fun _ _ => ?_⟩
    · rw [decide_eq_false (by omega), decide_eq_false (by omega)]
      rfl
    · rw [hz]
      intro q
      have : (1 : Int) ≤ (2 ^ 63 - 1) / n := by
        apply Int.le_ediv_of_mul_le (by omega)
        omega
      have q : ((1 : Nat) : Int) > (2 ^ 63 - 1) / n := q
      omega
    · rw [hz]
      unfold Builtin.Str.tooLong
      rw [decide_eq_false]
      rw [sizeLine_eq]
      omega
  exact SB.mul ok fun t' k => ⟨.str _, H, I.tok _, ⟨_, rfl⟩, q⟩
section
variable {K : PySem.W.Frag}
theorem ix_listK (hK : X.K = K) : IxR X (rIxL K) := by
  subst hK
  exact ix_list
theorem ix_tupK (hK : X.K = K) : IxR X (rIxT K) := by
  subst hK
  exact ix_tup
theorem sl_listK (hK : X.K = K) : SlR X (rSlL K) := by
  subst hK
  exact sl_list
theorem op_notIn_seqK (hK : X.K = K) : OpR X (compareOp .NotIn) (rIn K true) := by
  subst hK
  exact op_notIn_seq
end
end
end K76

set_option maxRecDepth 100000
set_option maxHeartbeats 4000000
namespace K76
open PySem
open AutoSeq1 (wpAny_loadPart')
/-! ## enumerate(t), t a tuple -/
theorem enumNewT (l : Addr) (items : Array Value) (n : Nat) (dc : Option Addr) (sl : Array (Option Value)) :
    Meets (Builtin.«enumerate.__new__» ⟨[.type "enumerate", .ref l], []⟩) (fun _ R s => s.heap.get? l = some { cls := .type "tuple", dict := dc, data := .seq items n, slots := sl } ∧
      R (.ok (.ret (.ref (s.heap.push { cls := .type "tuple_iterator", data := .fields #[.ref l, .int 0 0] }).objs.size)))
        { s with heap := (s.heap.push { cls := .type "tuple_iterator", data := .fields #[.ref l, .int 0 0] }).push { cls := .type "enumerate", data := .fields #[.none, .bool false, .ref s.heap.objs.size, rawInt 0, .none, .none] } }) :=
  .of_wp fun prog w A R s h => by
    obtain ⟨hp, g, d, tk, os⟩ := s
    obtain ⟨hl, h⟩ := h
    have sub := sub_enumerate
    have hT : Heap.IsTuple (Shared.heap ⟨hp, g, d, tk, os⟩) l items := ⟨_, hl, rfl, n, rfl⟩
    wp_walk using wpAny_loadPart' hl
    refine wpAny_stack_any fun st => wpAny_pure ?_
    split
    · rename_i c _ _ _ _ _
      cases (c == Value.type "enumerate")
      · wp_walk using wpAny_loadPart' hl, wpAny_pyIter_tuple hT
        exact ⟨_, rfl, h⟩
      · wp_walk using wpAny_loadPart' hl, wpAny_pyIter_tuple hT
        exact ⟨_, rfl, h⟩
    · wp_walk using wpAny_loadPart' hl, wpAny_pyIter_tuple hT
      exact ⟨_, rfl, h⟩
section
variable {prog : Program} {w : World} {A : Around} {E : Value → Shared → Prop} {s : Shared}
theorem callEnumT {l : Addr} {items : Array Value} {Q : Value → Shared → Prop} (hT : s.heap.IsTuple l items)
    (h : ∀ h', IsEnum h' (s.heap.objs.size + 1) s.heap.objs.size 0 .none → h'.IsTupleIter s.heap.objs.size l 0 → h'.objs.size = s.heap.objs.size + 2 →
      (∀ b o, s.heap.get? b = some o → h'.get? b = some o) → Q (.ref (s.heap.objs.size + 1)) { s with heap := h' }) :
    wpAny (model prog w) A (call (.type "enumerate") [.ref l]) Q E s := by
  obtain ⟨⟨c, dc, dt, sl⟩, hl, hc, n, hd⟩ := hT
  obtain rfl : c = .type "tuple" := hc
  obtain rfl : dt = .seq items n := hd
  refine callType_new F.called_enumerate (by decide) (F.typeCall_enumerate_1 _) (F.newCall_enumerate_1 _) (fun obj => F.args_object_init_2 obj _) F.entry_enumerate_new (enumNewT l items n dc sl) ⟨hl, ?_⟩
  have hz : (s.heap.push { cls := .type "tuple_iterator", data := .fields #[.ref l, .int 0 0] }).objs.size = s.heap.objs.size + 1 := Heap.size_push ..
  show _ ∧ _
  rw [hz]
  have he : IsEnum ((s.heap.push { cls := .type "tuple_iterator", data := .fields #[.ref l, .int 0 0] }).push
      { cls := .type "enumerate", data := .fields #[.none, .bool false, .ref s.heap.objs.size, rawInt 0, .none, .none] }) (s.heap.objs.size + 1) s.heap.objs.size 0 .none := by
    have z := Heap.get?_push_size (s.heap.push { cls := .type "tuple_iterator", data := .fields #[.ref l, .int 0 0] })
      (o := { cls := .type "enumerate", data := .fields #[.none, .bool false, .ref s.heap.objs.size, rawInt 0, .none, .none] }) rfl
    rw [hz] at z
    exact z
  refine ⟨⟨_, he, rfl⟩, h _ he ⟨_, Heap.get?_push_of_some _ (Heap.get?_push_size _ rfl), rfl, rfl⟩ (by rw [Heap.size_push, hz]) fun b o x => ?_⟩
  exact Heap.get?_push_of_some _ (Heap.get?_push_of_some _ x)
end
open L2
/-- the tuple at a, each item in a new pair -/
def IteT (K : PySem.W.Frag) (a : Addr) (xs : List V) : It :=
  ⟨fun i H => SqT K H a xs ∧ i < xs.length, fun i H v H' => ∃ T x, v = .ref T ∧ H T = none ∧ H' = upd H T (.tup [.int (i : Nat), x]) ∧ xs[i]? = some x, fun i H => SqT K H a xs ∧ xs.length ≤ i⟩
theorem turnEnumT {P : Program} {w : World} {K : PySem.W.Frag} {elts : List Expr} {kk : Nat} {tpos : Pos} (a e it : Addr) (xs : List V) (hae : e ≠ a) (hai : a ≠ it) :
    Turn P w K (.Tuple elts kk tpos) (IteT K a xs) [e, it] e (fun i h => (∃ old, IsEnum h e it ((i : Nat) : Int) old) ∧ h.IsTupleIter it a i ∧ e ≠ it ∧ i ≤ xs.length) where
  mem := by simp
  obj := fun i h st b hb => by
    obtain ⟨⟨old, he⟩, ⟨o, ho, hc, hd⟩, _⟩ := st
    rcases List.mem_cons.mp hb with z | hb
    · rw [z]
      exact ⟨_, he, fun v q => nomatch q⟩
    · rw [List.mem_singleton.mp hb]
      exact ⟨o, ho, fun v q => by rw [hd] at q; cases q⟩
  keep := fun i h h' st k => by
    obtain ⟨⟨old, he⟩, hi, hne, hl⟩ := st
    exact ⟨⟨old, k e (by simp) _ he⟩, hi.at fun o q => k it (by simp) o q, hne, hl⟩
  item := by
    intro X hP hw hK hc i pins s σ H E I hf st hg
    subst hP hw hK
    obtain ⟨⟨old, he⟩, hit, hne, hle⟩ := st
    obtain ⟨hq, hlt⟩ := hg
    obtain ⟨its, rv, p, hz⟩ := I.tuple hq
    have hlen := rv.length
    have hel : e < s.heap.objs.size := Heap.lt_size he
    have hil : it < s.heap.objs.size := by
      obtain ⟨_, q, _⟩ := hit
      exact Heap.lt_size q
    have hh : X.A.in1.handled = none := I.ok.hd hc
    have D := Draws.tuple (prog := X.prog) (w := X.w) (A := X.A.in1) hh it a hai its.toArray
    refine wpAny_pyNext_enum_itemD (i := i) D he ⟨hit, p⟩ (by simp; omega) hne (by simp [hne, hae]) fun u h' tk hu ho hst hT hsz hk => ?_
    have hu : its[i]? = some u := by simpa using hu
    obtain ⟨x, hx⟩ : ∃ x, xs[i]? = some x := ⟨xs[i], by simp [hlt]⟩
    obtain ⟨u', hu', ru⟩ := rv.get hx
    rw [hu] at hu'
    cases hu'
    refine ⟨_, rfl, wpAny_letOwnedTupleGo_enum (s := { s with heap := h', toks := tk + 1 }) ho fun h2 he2 sb => ?_⟩
    have hT2 : h2.get? s.heap.objs.size = some { cls := .type "tuple", data := .seq #[.int i tk, u] } := (sb.2 _ (Nat.ne_of_gt hel)).trans hT
    have new : ObjOk X.prog X.w (upd H s.heap.objs.size (.tup [.int (i : Nat), x])) h2 s.heap.objs.size (.tup [.int (i : Nat), x]) :=
      ⟨by show 2 ≤ sizeLine; decide, [.int i tk, u], .cons ⟨_, rfl⟩ (.cons ru .nil), ⟨_, hT2, rfl, _, rfl⟩⟩
    have I1 : Inv X pins σ (upd H s.heap.objs.size (.tup [.int (i : Nat), x])) { s with heap := h2, toks := tk + 1 } := by
      refine I.turnedNew (ch := [e, it]) (fun b ob hb q => ?_) hf (Nat.le_refl _) new
      exact (sb.2 b (fun z => hb (by simp [z]))).trans (hk b ob (fun z => hb (by simp [z])) (fun z => hb (by simp [z])) q)
    refine ⟨.ref s.heap.objs.size, _, I1, rfl, ⟨_, x, rfl, I.hok.fresh (Nat.le_refl _), rfl, hx⟩, ⟨⟨u, ?_⟩, hst.1.at fun o q => (sb.2 it (Ne.symm hne)).trans q, hne, by omega⟩, fun b hb => ?_⟩
    · have e1 : ((i + 1 : Nat) : Int) = (i : Int) + 1 := by omega
      rw [e1]
      exact he2
    · have lt : b < s.heap.objs.size := by
        rcases List.mem_cons.mp hb with z | hb
        · rw [z]; exact hel
        · rw [List.mem_singleton.mp hb]; exact hil
      rw [upd_ne (Nat.ne_of_lt lt)]
      exact (hf b hb).1
  done := by
    intro X hP hw hK hc i pins s σ H E I hf st hg
    subst hP hw hK
    obtain ⟨⟨old, he⟩, hit, hne, hle⟩ := st
    obtain ⟨hq, hx⟩ := hg
    obtain ⟨its, rv, p, hz⟩ := I.tuple hq
    obtain ⟨f0, f1, f2, f3, f4, f5⟩ := hf it (by simp)
    have hlen := rv.length
    have hh : X.A.in1.handled = none := I.ok.hd hc
    have D := Draws.tuple (prog := X.prog) (w := X.w) (A := X.A.in1) hh it a hai its.toArray
    refine wpAny_pyNext_enum_endD D he (n := its.toArray.size) ?_ fun h' eb => ⟨rfl, I.turned (t' := s.toks) (fun b o hb q => eb b o hb q) f0 f1 f3 f4 f5⟩
    have ei : i = its.toArray.size := by simp; omega
    rw [← ei]
    exact ⟨hit, p⟩
  self := fun A i s Q E st h => let ⟨⟨_, he⟩, _⟩ := st; wpAny_pyIter_enum he h
def iEnumT (K : PySem.W.Frag) (ta : TA) : TI := fun σ H R => ta σ H fun vs H1 => ∃ a xs, vs = [.ref a] ∧ SqT K H1 a xs ∧ R (IteT K a xs) H1
theorem pi_enumT {X : Cx} {e : Expr} {ta : TA} {p pos tpos : Pos} {elts : List Expr} {kk : Nat} (hg : Gl X "enumerate") (hm : X.mg "enumerate" = none) (ha : PA X [e] ta) (hs : starEach [e] X.env = [(false, eval e X.env)] := by rfl) :
    PI X (.Tuple elts kk tpos) (.Call (.Name "enumerate" p) [e] [] pos) (iEnumT X.K ta) := by
  refine ⟨fun pins s σ H R I h => ?_⟩
  refine PyProof.Rows.Call_ (ld_blt I hg hm PyProof.Rows.boot_enumerate (PyProof.Rows.callWith_type1 (thn (ha.run pos pins s σ H _ I h) fun us s1 ⟨vs, H1, I1, r1, q1⟩ => ?_) hs rfl))
  obtain ⟨a, xs, ex, hq, q⟩ := q1
  subst ex
  cases r1 with
  | cons r rr =>
    cases rr
    cases r
    obtain ⟨its, rv, p', hz⟩ := I1.tuple hq
    have al : a < s1.heap.objs.size := p'.lt
    refine callEnumT p' fun h' he hit hsz hk => wpAny_pyIter_enum he ?_
    have I2 : Inv X pins σ H1 { s1 with heap := h' } := I1.kept (t' := s1.toks) hk
    refine ⟨s1.heap.objs.size + 1, [s1.heap.objs.size + 1, s1.heap.objs.size], _, _, H1, rfl, I2, turnEnumT a (s1.heap.objs.size + 1) s1.heap.objs.size xs (Nat.ne_of_gt (Nat.lt_succ_of_lt al)) (Nat.ne_of_lt al), ⟨⟨.none, he⟩, hit, Nat.succ_ne_self _, Nat.zero_le _⟩, fun b hb => ?_, q⟩
    have hle : s1.heap.objs.size ≤ b := by
      rcases List.mem_cons.mp hb with z | hb
      · rw [z]; exact Nat.le_add_right _ _
      · rw [List.mem_singleton.mp hb]; exact Nat.le_refl _
    exact I1.fpOk hle (I1.hok.fresh hle)
end K76

set_option maxRecDepth 100000
set_option maxHeartbeats 4000000
namespace K76
open PySem L2
section
variable {P : Program} {w : World} {K : PySem.W.Frag} {mg : Str → Option Value} {base : Heap} {a : Ad}

def spSpot (C : Addr) : Sp := fun vs H Q _ => ∃ (W d : Addr) (S : WS) (x : Str), vs = [.ref W, .str x] ∧ InsW C H W d S ∧ 1 ≤ S.half ∧ Q (.int (S.spot x)) H
theorem ok_LineWork_spot_at (T : Txt K mg a) : Ok1 P w K mg base CX0 1 a.LineWork_spot_at ["self", "window"] (spSpot a.cLineWork) := by
  obtain ⟨fd, F⟩ := T.f_LineWork_spot_at
  refine ⟨fd, F.ok sc_LineWork_spot_at (fun vs H Q E h => ?_) (fun cdv A outer s H vs Q E hr h => ?_), F.binds (ps := ["self", "window"]) fun _ _ _ _ _ _ us hl => match us, hl with | [_, _], _ => rfl, F.kp⟩
  · obtain ⟨W, d, S, x, rfl, _⟩ := h
    rfl
  · obtain ⟨W, d, S, x, rfl, ⟨dx, hW⟩, hh, k⟩ := h
    refine ⟨_, (pss_one (ps_ret (pe_op op_modN (pe_op op_add (pe_fld (pv 0) rfl) (pe_ifExp (pt_cmpR op_eq (pv 1) pe_str (nomark _)) (pe_fld (pv 0) rfl) pe_int)) (pe_op op_mul pe_int (pe_fld (pv 0) rfl))))), ?_⟩
    have e1 : (if decide (V.str x = V.str "far") = true then S.half else 0) = (if x = "far" then S.half else 0) := by
      by_cases c : x = "far"
      · rw [if_pos c, if_pos (by simp [c])]
      · rw [if_neg c, if_neg (by simp [c])]
    have k' : Q (.int ((S.stand + (if decide (V.str x = V.str "far") = true then S.half else 0)).fmod (2 * S.half))) H := by
      rw [e1]
      exact k
    refine ⟨_, rfl, W, _, dx, _, _, rfl, hW, T.c_LineWork, T.n_LineWork_stand, wfl_stand, _, rfl, rfl, _, rfl, ?_⟩
    by_cases c : decide (V.str x = V.str "far") = true
    · rw [if_pos c] at k' ⊢
      refine ⟨_, rfl, W, _, dx, _, _, rfl, hW, T.c_LineWork, T.n_LineWork_half, wfl_half, _, _, rfl, rfl, ?_⟩
      refine ⟨_, rfl, W, _, dx, _, _, rfl, hW, T.c_LineWork, T.n_LineWork_half, wfl_half, _, _, rfl, rfl, .inl ⟨by decide, by decide⟩, _, _, rfl, rfl, (by show (2 : Int) * S.half ≠ 0; omega), ?_⟩
      exact k'
    · rw [if_neg c] at k' ⊢
      refine ⟨_, _, rfl, rfl, ?_⟩
      refine ⟨_, rfl, W, _, dx, _, _, rfl, hW, T.c_LineWork, T.n_LineWork_half, wfl_half, _, _, rfl, rfl, .inl ⟨by decide, by decide⟩, _, _, rfl, rfl, (by show (2 : Int) * S.half ≠ 0; omega), ?_⟩
      exact k'

def spShift (C : Addr) : Sp := fun vs H Q _ => ∃ (W d : Addr) (S : WS) (n : Int), vs = [.ref W, .int n] ∧ InsW C H W d S ∧ 1 ≤ S.half ∧
  ∀ H', InsW C H' W d (S.shift n) → (∀ b, b ≠ W → H' b = H b) → Q .non H'
theorem ok_LineWork_shift (T : Txt K mg a) : Ok1 P w K mg base CX0 1 a.LineWork_shift ["self", "number"] (spShift a.cLineWork) := by
  obtain ⟨fd, F⟩ := T.f_LineWork_shift
  refine ⟨fd, F.ok sc_LineWork_shift (fun vs H Q E h => ?_) (fun cdv A outer s H vs Q E hr h => ?_), F.binds (ps := ["self", "number"]) fun _ _ _ _ _ _ us hl => match us, hl with | [_, _], _ => rfl, F.kp⟩
  · obtain ⟨W, d, S, x, rfl, _⟩ := h
    rfl
  · obtain ⟨W, d, S, n, rfl, ⟨dx, hW⟩, hh, k⟩ := h
    refine ⟨_, (pss_cons (ps_fld (pv 0) (pe_op op_modN (pe_op op_add (pe_fld (pv 0) rfl) (pv 1)) (pe_op op_mul pe_int (pe_fld (pv 0) rfl))) rfl)
      (pss_one (ps_fldaug (pv 0) (pe_callB call_abs (by rfl) T.b_abs (by decide +kernel) (pa_cons (pv 1) pa_nil)) in_add))), ?_⟩
    refine ⟨_, rfl, W, _, dx, _, _, rfl, hW, T.c_LineWork, T.n_LineWork_stand, wfl_stand, _, rfl, _, _, rfl, rfl, ?_⟩
    refine ⟨_, rfl, W, _, dx, _, _, rfl, hW, T.c_LineWork, T.n_LineWork_half, wfl_half, _, _, rfl, rfl, .inl ⟨by decide, by decide⟩, _, _, rfl, rfl, (by show (2 : Int) * S.half ≠ 0; omega), ?_⟩
    refine ⟨_, rfl, W, _, dx, _, rfl, hW, T.c_LineWork, T.n_LineWork_stand, wfl_len, ?_⟩
    rw [wfl_put_stand]
    refine ⟨_, rfl, W, _, dx, _, _, rfl, upd_same, T.c_LineWork, T.n_LineWork_lengths, wfl_lengths, _, rfl, _, rfl, _, _, rfl, rfl, ?_⟩
    refine ⟨_, _, upd_same, wfl_len, ?_⟩
    rw [wfl_put_lengths]
    exact k _ ⟨dx, upd_same⟩ fun b hb => (by rw [upd_ne hb, upd_ne hb])

/-- the loop over the things, from the i-th on -/
theorem firstAt_drop {sp : Int} : ∀ {hu : Hung} {i : Nat}, firstAt sp (hu.drop i) = match hu[i]? with | none => none | some p => if p.2 = sp then some p.1 else firstAt sp (hu.drop (i + 1))
  | [], i => by simp [firstAt]
  | p :: r, 0 => by simp [firstAt]
  | p :: r, i + 1 => by
    have := firstAt_drop (sp := sp) (hu := r) (i := i)
    simpa using this
def spThing (C : Addr) : Sp := fun vs H Q _ => ∃ (W d : Addr) (S : WS) (x : Str), vs = [.ref W, .str x] ∧ WorkAt C H W d S ∧ 1 ≤ S.half ∧ ∀ H', Same H H' → Q (oS (S.thingAt x)) H'
theorem ok_LineWork_thing_at (T : Txt K mg a) : Ok1 P w K mg base CX0 2 a.LineWork_thing_at ["self", "window"] (spThing a.cLineWork) := by
  obtain ⟨fd, F⟩ := T.f_LineWork_thing_at
  obtain ⟨fd_LineWork_spot_at, G_LineWork_spot_at, b_LineWork_spot_at, kp_LineWork_spot_at⟩ := ok_LineWork_spot_at (P := P) (w := w) (base := base) T
  refine ⟨fd, F.ok sc_LineWork_thing_at (fun vs H Q E h => ?_) (fun cdv A outer s H vs Q E hr h => ?_), F.binds (ps := ["self", "window"]) fun _ _ _ _ _ _ us hl => match us, hl with | [_, _], _ => rfl, F.kp⟩
  · obtain ⟨W, d, S, x, rfl, _⟩ := h
    rfl
  · obtain ⟨W, d, S, x, rfl, hw, hh, k⟩ := h
    obtain ⟨⟨dx, hW⟩, hd⟩ := id hw
    refine ⟨_, (pss_cons (ps_set (i := 2) sc_LineWork_thing_at.nd rfl (Or.inl rfl) (pe_meth (pv 0) T.c_LineWork T.m_LineWork_spot_at G_LineWork_spot_at (hr.mono (by decide)) b_LineWork_spot_at .nil pass0 (pa_cons (pv 1) pa_nil)))
      (pss_cons (ps_lock (ps_for PassesOwn.never rfl (pi_items (pe_fld (pv 0) rfl)) (pg_tup rfl (pgs_cons (pg_name (i := 3) sc_LineWork_thing_at.nd rfl (Or.inl rfl)) (pgs_cons (pg_name (i := 4) sc_LineWork_thing_at.nd rfl (Or.inl rfl)) pgs_nil))) (pss_one (ps_if (pt_cmpR op_eq (pv 4) (pv 2) (nomark _)) (pss_one (ps_ret (pv 3))) pss_nil))))
      (pss_one (ps_ret pe_non)))), ?_⟩
    refine ⟨_, rfl, W, dx, _, rfl, hW, wfl_m_spot, _, rfl, W, d, S, x, rfl, ⟨dx, hW⟩, hh, ?_⟩
    refine ⟨d, _, hd, True.intro, fun od => ?_⟩
    have nWd := hw.ne
    refine ⟨_, rfl, W, _, dx, _, _, rfl, (by rw [upd_ne nWd]; exact hW), T.c_LineWork, T.n_LineWork_hung, wfl_hung, d, od, _, rfl, upd_same, ?_⟩
    refine for_it (S.hung.length) (fun i σ H' => ∃ v p, σ = [some (.ref W), some (.str x), some (.int (S.spot x)), v, p] ∧ Same (upd H d (.frz od (.dK (kvH S.hung)))) H' ∧ firstAt (S.spot x) (S.hung.drop i) = S.thingAt x)
      ⟨none, none, rfl, Same.refl _, rfl⟩ ?go ?stop ?turn ?done
    case go =>
      rintro i σ H' hi ⟨v, p, rfl, sm, e⟩
      exact ⟨sm d _ upd_same, by rw [kvH_length]; exact hi⟩
    case stop =>
      rintro σ H' ⟨v, p, rfl, sm, e⟩
      exact ⟨sm d _ upd_same, by rw [kvH_length]; exact Nat.le_refl _⟩
    case turn =>
      rintro i σ H1 y H2 hi ⟨v, p, rfl, sm, e⟩ ⟨Tt, k1, v1, he, rfl, hT, rfl⟩
      obtain ⟨q, hq⟩ : ∃ q, S.hung[i]? = some q := ⟨S.hung[i], by simp [hi]⟩
      have he' : (Sum.inr q.1, V.int q.2) = (k1, v1) := by
        unfold kvH at he
        rw [List.getElem?_map, hq] at he
        exact Option.some.inj he
      cases he'
      rw [firstAt_drop, hq] at e
      have e : (if q.2 = S.spot x then some q.1 else firstAt (S.spot x) (S.hung.drop (i + 1))) = S.thingAt x := e
      have sm2 : Same (upd H d (.frz od (.dK (kvH S.hung)))) (upd H1 Tt (.tup [kV (Sum.inr q.1), V.int q.2])) := fun b o z => by
        have z1 := sm b o z
        rw [upd_ne (ne_of_none z1 hT)]
        exact z1
      refine ⟨Tt, _, rfl, SqT.of upd_same, rfl, _, _, rfl, _, _, rfl, rfl, ?_⟩
      refine ⟨_, rfl, _, rfl, rfl, _, rfl, ?_⟩
      by_cases c : q.2 = S.spot x
      · rw [if_pos c] at e
        rw [if_pos (by simp [c])]
        refine ⟨_, rfl, sm2 d _ upd_same, ?_⟩
        show Q (.str q.1) _
        have z := k (upd (upd H1 Tt (.tup [kV (Sum.inr q.1), V.int q.2])) d (.dK (kvH S.hung))) (fun b o z => by
          by_cases hb : b = d
          · subst hb
            rw [upd_same, ← hd, z]
          · rw [upd_ne hb]
            exact sm2 b o (by rw [upd_ne hb]; exact z))
        rw [← e] at z
        exact z
      · rw [if_neg c] at e
        rw [if_neg (by simp [c])]
        exact ⟨some (.str q.1), some (.int q.2), rfl, sm2, e⟩
    case done =>
      rintro σ H' ⟨v, p, rfl, sm, e⟩
      refine ⟨sm d _ upd_same, ?_⟩
      show Q .non _
      have z := k (upd H' d (.dK (kvH S.hung))) (fun b o z => by
        by_cases hb : b = d
        · subst hb
          rw [upd_same, ← hd, z]
        · rw [upd_ne hb]
          exact sm b o (by rw [upd_ne hb]; exact z))
      rw [List.drop_length] at e
      rw [← e] at z
      exact z
end
end K76

set_option maxRecDepth 100000
set_option maxHeartbeats 4000000
namespace K76
open PySem L2
section
variable {P : Program} {w : World} {K : PySem.W.Frag} {mg : Str → Option Value} {base : Heap} {a : Ad}
/-! ## peg, look, fetch, hang -/
structure Res (C : Addr) (W d : Addr) (S : WS) (th : List Str) (p : PD) (H : Hp) (Q : VK) : Prop where
  at_ : WorkAt C H W d S
  good : Good th S
  ok : p.ok th
  q : ∀ H', WorkAt C H' W d (tellP S p).2 → But [W, d] H H' → Q (tellP S p).1 H'
theorem WorkAt.same {C W d : Addr} {H H' : Hp} {S : WS} (h : WorkAt C H W d S) (s : Same H H') : WorkAt C H' W d S := ⟨let ⟨dx, e⟩ := h.ob; ⟨dx, s _ _ e⟩, s _ _ h.dc⟩
theorem InsW.same {C W d : Addr} {H H' : Hp} {S : WS} (h : InsW C H W d S) (s : Same H H') : InsW C H' W d S := let ⟨dx, e⟩ := h; ⟨dx, s _ _ e⟩
/-- the dict alone is changed -/
theorem WorkAt.setD {C W d : Addr} {H : Hp} {S : WS} (h : WorkAt C H W d S) (hu : Hung) : WorkAt C (upd H d (.dK (kvH hu))) W d { S with hung := hu } :=
  ⟨let ⟨dx, e⟩ := h.ob; ⟨dx, by rw [upd_ne h.ne]; exact e⟩, upd_same⟩
theorem WorkAt.butD {C W d : Addr} {H : Hp} {S : WS} {o : HO} (h : WorkAt C H W d S) : But [W, d] H (upd H d o) := But.set (by simp) h.dc (by intro xs z; cases z)
theorem WorkAt.insW {C W d : Addr} {H H' : Hp} {S S' : WS} (h : WorkAt C H W d S) (i : InsW C H' W d S') (k : ∀ b, b ≠ W → H' b = H b) (e : S'.hung = S.hung) : WorkAt C H' W d S' :=
  ⟨i, by rw [k d h.ne.symm, e]; exact h.dc⟩
theorem WorkAt.butW {C W d : Addr} {H H' : Hp} {S : WS} (h : WorkAt C H W d S) (k : ∀ b, b ≠ W → H' b = H b) : But [W, d] H H' := fun b o e hb => by
  by_cases c : b = W
  · obtain ⟨xs, rfl⟩ := hb (by rw [c]; simp)
    obtain ⟨dx, z⟩ := h.ob
    rw [c, z] at e
    cases e
  · rw [k b c]
    exact e
theorem oS_non {o : Option Str} : decide (oS o = V.non) = o.isNone := by cases o <;> simp [oS]

def spPeg (C : Addr) : Sp := fun vs H Q _ => ∃ (W d : Addr) (S : WS) (th : List Str) (x t : Str), vs = [.ref W, .str x, .str t] ∧ Res C W d S th (.peg x t) H Q
theorem ok_LineWork_peg (T : Txt K mg a) : Ok1 P w K mg base CX0 3 a.LineWork_peg ["self", "window", "thing"] (spPeg a.cLineWork) := by
  obtain ⟨fd, F⟩ := T.f_LineWork_peg
  obtain ⟨fd_LineWork_spot_at, G_LineWork_spot_at, b_LineWork_spot_at, kp_LineWork_spot_at⟩ := ok_LineWork_spot_at (P := P) (w := w) (base := base) T
  obtain ⟨fd_LineWork_thing_at, G_LineWork_thing_at, b_LineWork_thing_at, kp_LineWork_thing_at⟩ := ok_LineWork_thing_at (P := P) (w := w) (base := base) T
  refine ⟨fd, F.ok sc_LineWork_peg (fun vs H Q E h => ?_) (fun cdv A outer s H vs Q E hr h => ?_), F.binds (ps := ["self", "window", "thing"]) fun _ _ _ _ _ _ us hl => match us, hl with | [_, _, _], _ => rfl, F.kp⟩
  · obtain ⟨W, d, S, th, x, t, rfl, _⟩ := h
    rfl
  · obtain ⟨W, d, S, th, x, t, rfl, ⟨hw, gd, ok, k⟩⟩ := h
    obtain ⟨⟨dx, hW⟩, hd⟩ := id hw
    have hu := hu_of hr
    have nWd := hw.ne
    refine ⟨_, (pss_cons (ps_if (PW.pt (pw_or (pt_cmp (pc_din hu (pv 2) (pe_fld (pv 0) rfl))) (pw_or1 (pt_cmp (pc_notN (pe_meth (pv 0) T.c_LineWork T.m_LineWork_thing_at G_LineWork_thing_at (hr.mono (by decide)) b_LineWork_thing_at .nil pass0 (pa_cons (pv 1) pa_nil))) rfl)))) (pss_one (ps_ret pe_bl)) pss_nil)
      (pss_cons (ps_dput hu (pe_fld (pv 0) rfl) (pv 2) (pe_meth (pv 0) T.c_LineWork T.m_LineWork_spot_at G_LineWork_spot_at (hr.mono (by decide)) b_LineWork_spot_at .nil pass0 (pa_cons (pv 1) pa_nil)) rfl)
      (pss_one (ps_ret pe_bl)))), ?_⟩
    rw [tellP_peg] at k
    refine ⟨_, rfl, _, rfl, W, _, dx, _, _, rfl, hW, T.c_LineWork, T.n_LineWork_hung, wfl_hung, d, _, rfl, DGet.k (k := Sum.inr t) hd, _, rfl, ?_⟩
    rw [valV_kvH]
    refine ite_or (fun c => ?_) (fun c => ?_)
    · have c' : (lk S.hung t).isSome = true := by simpa using c
      rw [if_pos (.inl c')] at k
      exact ite_or (fun _ => k H hw But.refl) (fun z => Bool.noConfusion z)
    · have c' : lk S.hung t = none := by simpa using c
      refine ⟨_, rfl, W, dx, _, rfl, hW, wfl_m_thing, _, rfl, W, d, S, x, rfl, hw, gd.half, fun H1 s1 => ?_⟩
      refine ⟨_, rfl, ?_⟩
      rw [oS_non]
      refine ite_or (fun c2 => ?_) (fun c2 => ?_)
      · have c2' : (S.thingAt x).isSome = true := by
          cases e : S.thingAt x with
          | none => rw [e] at c2; cases c2
          | some z => rfl
        rw [if_pos (.inr c2')] at k
        exact k H1 (hw.same s1) (But.same s1)
      · have c2' : S.thingAt x = none := by
          cases e : S.thingAt x with
          | none => rfl
          | some z => rw [e] at c2; cases c2
        rw [if_neg (by rw [c', c2']; simp)] at k
        have hw1 := hw.same s1
        obtain ⟨⟨dx1, hW1⟩, hd1⟩ := id hw1
        refine ⟨_, rfl, W, dx1, _, rfl, hW1, wfl_m_spot, _, rfl, W, d, S, x, rfl, hw1.ob, gd.half, ?_⟩
        refine ⟨_, rfl, W, _, dx1, _, _, rfl, hW1, T.c_LineWork, T.n_LineWork_hung, wfl_hung, _, rfl, d, _, rfl, DPut.k (k := Sum.inr t) hd1 (small1000 (by rw [kvH_length]; have := gd.size; omega)), ?_⟩
        rw [put_kvH c']
        exact k _ (hw1.setD _) ((But.same s1).trans hw1.butD fun z hz => .inl hz)

def spLook (C : Addr) : Sp := fun vs H Q _ => ∃ (W d : Addr) (S : WS) (th : List Str) (x : Str) (tk : Bool), vs = [.ref W, .str x, .bl tk] ∧ Res C W d S th (if tk = true then .take x else .look x) H Q
theorem ok_LineWork_look (T : Txt K mg a) : Ok1 P w K mg base CX0 3 a.LineWork_look ["self", "window", "takes"] (spLook a.cLineWork) := by
  obtain ⟨fd, F⟩ := T.f_LineWork_look
  obtain ⟨fd_LineWork_thing_at, G_LineWork_thing_at, b_LineWork_thing_at, kp_LineWork_thing_at⟩ := ok_LineWork_thing_at (P := P) (w := w) (base := base) T
  refine ⟨fd, F.ok sc_LineWork_look (fun vs H Q E h => ?_) (fun cdv A outer s H vs Q E hr h => ?_), F.binds (ps := ["self", "window", "takes"]) fun _ _ _ _ _ _ us hl => match us, hl with | [_, _, _], _ => rfl, F.kp⟩
  · obtain ⟨W, d, S, th, x, t, rfl, _⟩ := h
    rfl
  · obtain ⟨W, d, S, th, x, tk, rfl, ⟨hw, gd, ok, k⟩⟩ := h
    obtain ⟨⟨dx, hW⟩, hd⟩ := id hw
    have hu := hu_of hr
    have nWd := hw.ne
    refine ⟨_, (pss_cons (ps_set (i := 3) sc_LineWork_look.nd rfl (Or.inl rfl) (pe_meth (pv 0) T.c_LineWork T.m_LineWork_thing_at G_LineWork_thing_at (hr.mono (by decide)) b_LineWork_thing_at .nil pass0 (pa_cons (pv 1) pa_nil)))
      (pss_cons (ps_if (PW.pt (pw_and (pt_val (pv 2)) (pw_and1 (pt_cmp (pc_notN (pv 3)) rfl)))) (pss_one (ps_expr (pe_dpop1 (pe_fld (pv 0) rfl) (pv 3) ⟨rfl, rfl, rfl, rfl⟩))) pss_nil)
      (pss_one (ps_ret (pv 3))))), ?_⟩
    refine ⟨_, rfl, W, dx, _, rfl, hW, wfl_m_thing, _, rfl, W, d, S, x, rfl, hw, gd.half, fun H1 s1 => ?_⟩
    refine ⟨_, rfl, _, rfl, ?_⟩
    have hw1 := hw.same s1
    obtain ⟨⟨dx1, hW1⟩, hd1⟩ := id hw1
    refine ite_or (fun c => ?_) (fun c => ?_)
    · subst c
      refine ⟨_, rfl, _, rfl, ?_⟩
      rw [oS_non]
      have k := k
      rw [if_pos rfl] at k
      refine ite_or (fun c2 => ?_) (fun c2 => ?_)
      · cases e : S.thingAt x with
        | none => rw [e] at c2; cases c2
        | some z =>
          rw [tellP_take1 e] at k
          have hm : ∃ p, lk S.hung z = some p := by
            cases q : lk S.hung z with
            | some p => exact ⟨p, rfl⟩
            | none => exact absurd (List.mem_map.mpr ⟨_, firstAt_some e, rfl⟩) (lk_none.mp q)
          obtain ⟨p, hp⟩ := hm
          refine ⟨_, rfl, W, _, dx1, _, _, rfl, hW1, T.c_LineWork, T.n_LineWork_hung, wfl_hung, d, rfl, .inl ⟨_, .inl hd1⟩, _, rfl, _, Sum.inr z, _, hd1, rfl, (by rw [valV_kvH, hp]; rfl), ?_⟩
          rw [drop_kvH]
          exact ⟨_, rfl, k _ (hw1.setD _) ((But.same s1).trans hw1.butD fun z hz => .inl hz)⟩
      · cases e : S.thingAt x with
        | some z => rw [e] at c2; cases c2
        | none =>
          rw [tellP_take0 e] at k
          exact ⟨_, rfl, k H1 hw1 (But.same s1)⟩
    · subst c
      have k := k
      rw [if_neg Bool.false_ne_true] at k
      exact ite_or (fun z => Bool.noConfusion z) (fun _ => ⟨_, rfl, k H1 hw1 (But.same s1)⟩)

def spFetch (C : Addr) : Sp := fun vs H Q _ => ∃ (W d : Addr) (S : WS) (th : List Str) (x t : Str), vs = [.ref W, .str x, .str t] ∧ Res C W d S th (.fetch x t) H Q
theorem ok_LineWork_fetch (T : Txt K mg a) : Ok1 P w K mg base CX0 3 a.LineWork_fetch ["self", "window", "thing"] (spFetch a.cLineWork) := by
  obtain ⟨fd, F⟩ := T.f_LineWork_fetch
  obtain ⟨fd_LineWork_spot_at, G_LineWork_spot_at, b_LineWork_spot_at, kp_LineWork_spot_at⟩ := ok_LineWork_spot_at (P := P) (w := w) (base := base) T
  obtain ⟨fd_LineWork_shift, G_LineWork_shift, b_LineWork_shift, kp_LineWork_shift⟩ := ok_LineWork_shift (P := P) (w := w) (base := base) T
  refine ⟨fd, F.ok sc_LineWork_fetch (fun vs H Q E h => ?_) (fun cdv A outer s H vs Q E hr h => ?_), F.binds (ps := ["self", "window", "thing"]) fun _ _ _ _ _ _ us hl => match us, hl with | [_, _, _], _ => rfl, F.kp⟩
  · obtain ⟨W, d, S, th, x, t, rfl, _⟩ := h
    rfl
  · obtain ⟨W, d, S, th, x, t, rfl, ⟨hw, gd, ok, k⟩⟩ := h
    obtain ⟨⟨dx, hW⟩, hd⟩ := id hw
    have hu := hu_of hr
    have nWd := hw.ne
    refine ⟨_, (pss_cons (ps_if (pt_cmp (pc_dnotin hu (pv 2) (pe_fld (pv 0) rfl))) (pss_one (ps_ret pe_non)) pss_nil)
      (pss_cons (ps_set (i := 3) sc_LineWork_fetch.nd rfl (Or.inl rfl) (pe_op op_modN (pe_op op_sub (pe_dget hu (pe_fld (pv 0) rfl) (pv 2) (fun _ _ => rfl)) (pe_meth (pv 0) T.c_LineWork T.m_LineWork_spot_at G_LineWork_spot_at (hr.mono (by decide)) b_LineWork_spot_at .nil pass0 (pa_cons (pv 1) pa_nil))) (pe_op op_mul pe_int (pe_fld (pv 0) rfl))))
      (pss_cons (ps_expr (pe_meth (pv 0) T.c_LineWork T.m_LineWork_shift G_LineWork_shift (hr.mono (by decide)) b_LineWork_shift .nil pass0 (pa_cons (pv 3) pa_nil)))
      (pss_one (ps_ret (pv 3)))))), ?_⟩
    refine ⟨_, rfl, _, rfl, W, _, dx, _, _, rfl, hW, T.c_LineWork, T.n_LineWork_hung, wfl_hung, d, _, rfl, DGet.k (k := Sum.inr t) hd, _, rfl, ?_⟩
    rw [valV_kvH]
    cases e : lk S.hung t with
    | none =>
      rw [tellP_fetch0 e] at k
      exact ite_or (fun _ => k H hw But.refl) (fun z => Bool.noConfusion z)
    | some p =>
      rw [tellP_fetch1 e] at k
      refine ite_or (fun z => Bool.noConfusion z) (fun _ => ?_)
      have g : DGet H d (.str t) (some (V.int p)) := by
        have := DGet.k (k := Sum.inr t) hd
        rw [valV_kvH, e] at this
        exact this
      refine ⟨_, rfl, W, _, dx, _, _, rfl, hW, T.c_LineWork, T.n_LineWork_hung, wfl_hung, _, rfl, d, _, rfl, g, ?_⟩
      refine ⟨_, rfl, W, dx, _, rfl, hW, wfl_m_spot, _, rfl, W, d, S, x, rfl, hw.ob, gd.half, _, _, rfl, rfl, ?_⟩
      refine ⟨_, rfl, W, _, dx, _, _, rfl, hW, T.c_LineWork, T.n_LineWork_half, wfl_half, _, _, rfl, rfl, .inl ⟨by decide, by decide⟩, _, _, rfl, rfl, (by show (2 : Int) * S.half ≠ 0; have := gd.half; omega), ?_⟩
      refine ⟨_, rfl, W, dx, _, rfl, hW, wfl_m_shift, _, rfl, W, d, S, _, rfl, hw.ob, gd.half, fun H1 i1 k1 => ?_⟩
      exact ⟨_, rfl, k H1 (hw.insW i1 k1 rfl) (hw.butW k1)⟩
end
end K76

set_option maxRecDepth 100000
set_option maxHeartbeats 4000000
namespace K76
open PySem L2
section
variable {P : Program} {w : World} {K : PySem.W.Frag} {mg : Str → Option Value} {base : Heap} {a : Ad}
/-! ## hang, times_to, walk -/
def spHang (C : Addr) : Sp := fun vs H Q _ => ∃ (W d : Addr) (S : WS) (th : List Str) (x t : Str), vs = [.ref W, .str x, .str t] ∧ Res C W d S th (.hang x t) H Q
theorem ok_LineWork_hang (T : Txt K mg a) : Ok1 P w K mg base CX0 3 a.LineWork_hang ["self", "window", "thing"] (spHang a.cLineWork) := by
  obtain ⟨fd, F⟩ := T.f_LineWork_hang
  obtain ⟨fd_LineWork_spot_at, G_LineWork_spot_at, b_LineWork_spot_at, kp_LineWork_spot_at⟩ := ok_LineWork_spot_at (P := P) (w := w) (base := base) T
  obtain ⟨fd_LineWork_shift, G_LineWork_shift, b_LineWork_shift, kp_LineWork_shift⟩ := ok_LineWork_shift (P := P) (w := w) (base := base) T
  obtain ⟨fd_LineWork_thing_at, G_LineWork_thing_at, b_LineWork_thing_at, kp_LineWork_thing_at⟩ := ok_LineWork_thing_at (P := P) (w := w) (base := base) T
  refine ⟨fd, F.ok sc_LineWork_hang (fun vs H Q E h => ?_) (fun cdv A outer s H vs Q E hr h => ?_), F.binds (ps := ["self", "window", "thing"]) fun _ _ _ _ _ _ us hl => match us, hl with | [_, _, _], _ => rfl, F.kp⟩
  · obtain ⟨W, d, S, th, x, t, rfl, _⟩ := h
    rfl
  · obtain ⟨W, d, S, th, x, t, rfl, ⟨hw, gd, ok, k⟩⟩ := h
    obtain ⟨⟨dx, hW⟩, hd⟩ := id hw
    have hu := hu_of hr
    refine ⟨_, (pss_cons (ps_if (PW.pt (pw_or (pt_cmp (pc_din hu (pv 2) (pe_fld (pv 0) rfl))) (pw_or1 (pt_cmpR op_eq (pe_callB call_lenD (by rfl) T.b_len (by decide +kernel) (pa_cons (pe_fld (pv 0) rfl) pa_nil)) (pe_op op_mul pe_int (pe_fld (pv 0) rfl)) (nomark _))))) (pss_one (ps_ret pe_non)) pss_nil)
      (pss_cons (ps_set (i := 3) sc_LineWork_hang.nd rfl (Or.inl rfl) pe_int)
      (pss_cons (ps_while PassesOwn.never (pt_cmp (pc_notN (pe_meth (pv 0) T.c_LineWork T.m_LineWork_thing_at G_LineWork_thing_at (hr.mono (by decide)) b_LineWork_thing_at .nil pass0 (pa_cons (pv 1) pa_nil))) rfl) (pss_cons (ps_expr (pe_meth (pv 0) T.c_LineWork T.m_LineWork_shift G_LineWork_shift (hr.mono (by decide)) b_LineWork_shift .nil pass0 (pa_cons pe_int pa_nil)))
      (pss_one (ps_aug (i := 3) sc_LineWork_hang.nd rfl (Or.inl rfl) pe_int ip_add))))
      (pss_cons (ps_dput hu (pe_fld (pv 0) rfl) (pv 2) (pe_meth (pv 0) T.c_LineWork T.m_LineWork_spot_at G_LineWork_spot_at (hr.mono (by decide)) b_LineWork_spot_at .nil pass0 (pa_cons (pv 1) pa_nil)) rfl)
      (pss_one (ps_ret (pv 3))))))), ?_⟩
    rw [tellP_hang] at k
    refine ⟨_, rfl, _, rfl, W, _, dx, _, _, rfl, hW, T.c_LineWork, T.n_LineWork_hung, wfl_hung, d, _, rfl, DGet.k (k := Sum.inr t) hd, _, rfl, ?_⟩
    rw [valV_kvH]
    refine ite_or (fun c => ?_) (fun c => ?_)
    · have c' : (lk S.hung t).isSome = true := by simpa using c
      rw [if_pos (.inl c')] at k
      exact ite_or (fun _ => k H hw But.refl) (fun z => Bool.noConfusion z)
    · have c' : lk S.hung t = none := by simpa using c
      refine ⟨_, rfl, W, _, dx, _, _, rfl, hW, T.c_LineWork, T.n_LineWork_hung, wfl_hung, d, _, rfl, hd, ?_⟩
      refine ⟨_, rfl, W, _, dx, _, _, rfl, hW, T.c_LineWork, T.n_LineWork_half, wfl_half, _, _, rfl, rfl, .inl ⟨by decide, by decide⟩, rfl, _, rfl, ?_⟩
      rw [kvH_length]
      refine ite_or (fun c2 => ?_) (fun c2 => ?_)
      · have c2' : (S.hung.length : Int) = 2 * S.half := V.int.inj (of_decide_eq_true c2)
        rw [if_pos (.inr c2')] at k
        exact k H hw But.refl
      · have c2' : ¬ (S.hung.length : Int) = 2 * S.half := fun z => of_decide_eq_false c2 (congrArg V.int z)
        rw [if_neg (fun z => z.elim (fun y => by rw [c'] at y; cases y) c2')] at k
        obtain ⟨free, taken⟩ := hangN_spec gd x c2'
        refine ⟨fun m σ H' => ∃ n : Nat, σ = [some (.ref W), some (.str x), some (.str t), some (.int (n : Int))] ∧ WorkAt a.cLineWork H' W d (shN S n) ∧ But [W, d] H H' ∧ n ≤ hangN S x ∧ m = hangN S x - n, ⟨_, 0, rfl, hw, But.refl, Nat.zero_le _, rfl⟩, ?_⟩
        rintro m σ H1 ⟨n, rfl, w1, b1, le, rfl⟩
        obtain ⟨⟨dx1, hW1⟩, hd1⟩ := id w1
        have h1 : 1 ≤ (shN S n).half := by rw [shN_half]; exact gd.half
        refine ⟨_, rfl, W, dx1, _, rfl, hW1, wfl_m_thing, _, rfl, W, d, _, x, rfl, w1, h1, fun H2 s2 => ?_⟩
        have w2 := w1.same s2
        obtain ⟨⟨dx2, hW2⟩, hd2⟩ := id w2
        have b2 : But [W, d] H H2 := b1.trans (But.same (F := [W, d]) s2) fun z hz => .inl hz
        refine ⟨_, rfl, ?_⟩
        rw [oS_non]
        refine ite_or (fun c3 => ?_) (fun c3 => ?_)
        · have lt : n < hangN S x := by
            refine Nat.lt_of_le_of_ne le fun e => ?_
            rw [e, free] at c3
            cases c3
          refine ⟨fun σ' H' => σ' = [some (.ref W), some (.str x), some (.str t), some (.int ((n + 1 : Nat) : Int))] ∧ WorkAt a.cLineWork H' W d (shN S (n + 1)) ∧ But [W, d] H H', ?_, ?_⟩
          · rintro σ' H' ⟨rfl, w3, b3⟩
            exact ⟨hangN S x - (n + 1), by omega, n + 1, rfl, w3, b3, lt, rfl⟩
          · refine ⟨_, rfl, W, dx2, _, rfl, hW2, wfl_m_shift, W, d, _, 1, rfl, w2.ob, h1, fun H3 i3 k3 => ?_⟩
            refine ⟨_, rfl, _, _, rfl, rfl, ?_⟩
            exact ⟨rfl, w2.insW i3 k3 rfl, b2.trans (w2.butW k3) fun z hz => .inl hz⟩
        · have e : n = hangN S x := by
            refine Classical.byContradiction fun ne => taken n (Nat.lt_of_le_of_ne le ne) ?_
            cases q : (shN S n).thingAt x with
            | none => rfl
            | some z => rw [q] at c3; cases c3
          subst e
          refine ⟨_, rfl, W, dx2, _, rfl, hW2, wfl_m_spot, _, rfl, W, d, _, x, rfl, w2.ob, h1, ?_⟩
          have ee : (shN S (hangN S x)).hung = S.hung := shN_hung S _
          refine ⟨_, rfl, W, _, dx2, _, _, rfl, hW2, T.c_LineWork, T.n_LineWork_hung, wfl_hung, _, rfl, d, _, rfl, DPut.k (k := Sum.inr t) hd2 (small1000 (by rw [kvH_length, ee]; have := gd.size; omega)), ?_⟩
          rw [put_kvH (by rw [ee]; exact c')]
          exact ⟨_, rfl, k _ (w2.setD _) (b2.trans w2.butD fun z hz => .inl hz)⟩

def spTimes (C : Addr) : Sp := fun vs H Q _ => ∃ (W d : Addr) (S : WS) (x : Str) (p st : Int), vs = [.ref W, .str x, .int p, .int st] ∧ InsW C H W d S ∧ 1 ≤ S.half ∧ st ≠ 0 ∧ -6 ≤ st ∧ st ≤ 6 ∧ Q (oI (timesTo S x p st)) H
theorem timesTo_some {S : WS} {x : Str} {p st : Int} {r : Nat} (hr : r < (iabs st).toNat) (h : (lenAt S x p st r).fmod (iabs st) = 0) (hn : ∀ q, q < r → (lenAt S x p st q).fmod (iabs st) ≠ 0) :
    timesTo S x p st = some ((lenAt S x p st r).fdiv (iabs st)) := by
  unfold timesTo
  have e : (List.range (iabs st).toNat).find? (fun r => decide ((lenAt S x p st r).fmod (iabs st) = 0)) = some r :=
    List.find?_range_eq_some.mpr ⟨by simpa using h, by simpa using hr, fun j hj => by simpa using hn j hj⟩
  rw [e]
  rfl
theorem timesTo_none {S : WS} {x : Str} {p st : Int} (hn : ∀ q, q < (iabs st).toNat → (lenAt S x p st q).fmod (iabs st) ≠ 0) : timesTo S x p st = none := by
  unfold timesTo
  have e : (List.range (iabs st).toNat).find? (fun r => decide ((lenAt S x p st r).fmod (iabs st) = 0)) = none :=
    List.find?_eq_none.mpr fun q hq => by simpa using hn q (List.mem_range.mp hq)
  rw [e]
  rfl
theorem ok_LineWork_times_to (T : Txt K mg a) : Ok1 P w K mg base CX0 2 a.LineWork_times_to ["self", "window", "place", "step"] (spTimes a.cLineWork) := by
  obtain ⟨fd, F⟩ := T.f_LineWork_times_to
  obtain ⟨fd_LineWork_spot_at, G_LineWork_spot_at, b_LineWork_spot_at, kp_LineWork_spot_at⟩ := ok_LineWork_spot_at (P := P) (w := w) (base := base) T
  refine ⟨fd, F.ok sc_LineWork_times_to (fun vs H Q E h => ?_) (fun cdv A outer s H vs Q E hr h => ?_), F.binds (ps := ["self", "window", "place", "step"]) fun _ _ _ _ _ _ us hl => match us, hl with | [_, _, _, _], _ => rfl, F.kp⟩
  · obtain ⟨W, d, S, x, p, st, rfl, _⟩ := h
    rfl
  · obtain ⟨W, d, S, x, p, st, rfl, hi, hh, h0, h1, h2, k⟩ := h
    obtain ⟨dx, hW⟩ := id hi
    refine ⟨_, (pss_cons (ps_set (i := 4) sc_LineWork_times_to.nd rfl (Or.inl rfl) (pe_op op_sub (pv 2) (pe_meth (pv 0) T.c_LineWork T.m_LineWork_spot_at G_LineWork_spot_at (hr.mono (by decide)) b_LineWork_spot_at .nil pass0 (pa_cons (pv 1) pa_nil))))
      (pss_cons (ps_set (i := 5) sc_LineWork_times_to.nd rfl (Or.inl rfl) (pe_op op_modN (pe_ifExp (pt_cmpR op_gt (pv 3) pe_int (nomark _)) (pv 4) (pe_un un_neg (pv 4))) (pe_op op_mul pe_int (pe_fld (pv 0) rfl))))
      (pss_cons (ps_for PassesOwn.never rfl (pi_range1 (by rfl) T.b_range (pa_cons (pe_callB call_abs (by rfl) T.b_abs (by decide +kernel) (pa_cons (pv 3) pa_nil)) pa_nil)) (pg_name (i := 6) sc_LineWork_times_to.nd rfl (Or.inl rfl)) (pss_cons (ps_set (i := 7) sc_LineWork_times_to.nd rfl (Or.inl rfl) (pe_op op_add (pv 5) (pe_op op_mul (pe_op op_mul (pv 6) pe_int) (pe_fld (pv 0) rfl))))
      (pss_one (ps_if (pt_cmpR op_eq (pe_op op_modN (pv 7) (pe_callB call_abs (by rfl) T.b_abs (by decide +kernel) (pa_cons (pv 3) pa_nil))) pe_int (nomark _)) (pss_one (ps_ret (pe_op op_fdivN (pv 7) (pe_callB call_abs (by rfl) T.b_abs (by decide +kernel) (pa_cons (pv 3) pa_nil))))) pss_nil))))
      (pss_one (ps_ret pe_non))))), ?_⟩
    have ab : iabs st = if st < 0 then -st else st := rfl
    have ab1 : 1 ≤ iabs st ∧ iabs st ≤ 6 := by rw [ab]; split <;> omega
    refine ⟨_, rfl, _, rfl, W, dx, _, rfl, hW, wfl_m_spot, _, rfl, W, d, S, x, rfl, hi, hh, _, _, rfl, rfl, ?_⟩
    refine ⟨_, rfl, _, _, rfl, rfl, _, rfl, ?_⟩
    -- the first length
    have go : ∀ f : Int, f = first S x p st →
        tSeq (tFor (iRng1 (tCons (tCB (fun xs H Q => ∃ i, xs = [V.int i] ∧ Q (V.int (if i < 0 then -i else i)) H) (tCons (tVar 3) tNil)) tNil)) (gName 6) (tSeq (tAsg (tOp (rI0 fun i j => .int (i + j)) (tVar 5) (tOp (rI CMul fun i j => .int (i * j)) (tOp (rI CMul fun i j => .int (i * j)) (tVar 6) (tC (.int 2))) (tFld K (tVar 0) "half"))) (gName 7)) (tIfS (tTest (tOp rEq (tOp (rI (fun _ j => j ≠ 0) fun i j => .int (i.fmod j)) (tVar 7) (tCB (fun xs H Q => ∃ i, xs = [V.int i] ∧ Q (V.int (if i < 0 then -i else i)) H) (tCons (tVar 3) tNil))) (tC (.int 0)))) (tRet (tOp (rI CDivN fun i j => .int (i.fdiv j)) (tVar 7) (tCB (fun xs H Q => ∃ i, xs = [V.int i] ∧ Q (V.int (if i < 0 then -i else i)) H) (tCons (tVar 3) tNil)))) tNext))) (tRet (tC .non))
          { nx := fun _ H' => Q .non H', rt := Q } [some (.ref W), some (.str x), some (.int p), some (.int st), some (.int (p - S.spot x)), some (.int f), none, none] H := by
      intro f hf
      refine ⟨_, rfl, _, rfl, _, rfl, ?_, ?_, ?_⟩
      · show -(2 ^ 62) ≤ iabs st
        omega
      · show iabs st < 2 ^ 62
        omega
      · refine for_range (lo := 0) (n := (iabs st).toNat) (fun i σ H' => ∃ v l, σ = [some (.ref W), some (.str x), some (.int p), some (.int st), some (.int (p - S.spot x)), some (.int f), v, l] ∧ H' = H ∧ ∀ q, q < i → (lenAt S x p st q).fmod (iabs st) ≠ 0) ⟨none, none, rfl, rfl, fun q hq => absurd hq (Nat.not_lt_zero _)⟩ ?_ ?_
        · rintro i σ H' hi' ⟨v, l, rfl, rfl, hq⟩
          have hi2 : (i : Int) < 6 := by omega
          refine ⟨_, rfl, _, rfl, _, _, rfl, rfl, .inl ⟨by omega, by omega⟩, _, rfl, W, _, dx, _, _, rfl, hW, T.c_LineWork, T.n_LineWork_half, wfl_half, _, _, rfl, rfl, .inl ⟨by omega, by omega⟩, _, _, rfl, rfl, ?_⟩
          have el : f + (0 + (i : Int)) * 2 * S.half = lenAt S x p st i := by
            unfold lenAt
            rw [hf, Int.zero_add]
          refine ⟨_, rfl, _, rfl, _, rfl, _, _, rfl, rfl, (by show iabs st ≠ 0; omega), rfl, _, rfl, ?_⟩
          rw [el]
          refine ite_or (fun c => ?_) (fun c => ?_)
          · have c' : (lenAt S x p st i).fmod (iabs st) = 0 := V.int.inj (of_decide_eq_true c)
            refine ⟨_, rfl, _, rfl, _, rfl, _, _, rfl, rfl, ⟨(by show iabs st ≠ 0; omega), (by show (iabs st).natAbs < 1073741824; omega)⟩, ?_⟩
            have z := k
            rw [timesTo_some (by omega) c' hq, ← el] at z
            exact z
          · have c' : (lenAt S x p st i).fmod (iabs st) ≠ 0 := fun z => of_decide_eq_false c (congrArg V.int z)
            refine ⟨_, _, rfl, rfl, fun q hq' => ?_⟩
            rcases Nat.lt_succ_iff_lt_or_eq.mp hq' with h | h
            · exact hq q h
            · rw [h]; exact c'
        · rintro σ H' ⟨v, l, rfl, rfl, hq⟩
          have z := k
          rw [timesTo_none hq] at z
          exact z
    refine ite_or (fun c => ?_) (fun c => ?_)
    · have c' : st > 0 := of_decide_eq_true c
      refine ⟨_, rfl, _, rfl, W, _, dx, _, _, rfl, hW, T.c_LineWork, T.n_LineWork_half, wfl_half, _, _, rfl, rfl, .inl ⟨by decide, by decide⟩, _, _, rfl, rfl, (by show (2 : Int) * S.half ≠ 0; omega), ?_⟩
      exact go _ (by unfold first; rw [if_pos c'])
    · have c' : ¬ st > 0 := of_decide_eq_false c
      refine ⟨_, rfl, _, rfl, _, rfl, W, _, dx, _, _, rfl, hW, T.c_LineWork, T.n_LineWork_half, wfl_half, _, _, rfl, rfl, .inl ⟨by decide, by decide⟩, _, _, rfl, rfl, (by show (2 : Int) * S.half ≠ 0; omega), ?_⟩
      exact go _ (by unfold first; rw [if_neg c'])
end
end K76

set_option maxRecDepth 100000
set_option maxHeartbeats 4000000
namespace K76
open PySem L2
section
variable {P : Program} {w : World} {K : PySem.W.Frag} {mg : Str → Option Value} {base : Heap} {a : Ad}
/-! ## walk -/
theorem minL_of : ∀ {ns : List Int} {m : Int}, m ∈ ns → (∀ y, y ∈ ns → m ≤ y) → minL ns = some m
  | [], m, h, _ => by cases h
  | x :: r, m, h, hl => by
    unfold minL
    cases e : minL r with
    | none =>
      cases r with
      | nil =>
        rcases List.mem_cons.mp h with h | h
        · rw [h]
        · cases h
      | cons y s =>
        exfalso
        unfold minL at e
        cases q : minL s <;> rw [q] at e <;> cases e
    | some y =>
      have hy : ∀ {l : List Int} {z : Int}, minL l = some z → z ∈ l ∧ ∀ u, u ∈ l → z ≤ u := by
        intro l
        induction l with
        | nil => intro z hz; cases hz
        | cons b s ih =>
          intro z hz
          unfold minL at hz
          cases q : minL s with
          | none =>
            rw [q] at hz
            cases hz
            cases s with
            | nil => exact ⟨by simp, fun u hu => by simp at hu; omega⟩
            | cons c s' =>
              exfalso
              unfold minL at q
              cases q2 : minL s' <;> rw [q2] at q <;> cases q
          | some v =>
            rw [q] at hz
            obtain ⟨i1, i2⟩ := ih q
            have hz : some (if b ≤ v then b else v) = some z := hz
            have hz' := Option.some.inj hz
            by_cases c : b ≤ v
            · rw [if_pos c] at hz'
              subst hz'
              refine ⟨by simp, fun u hu => ?_⟩
              rcases List.mem_cons.mp hu with h | h
              · omega
              · have := i2 u h; omega
            · rw [if_neg c] at hz'
              subst hz'
              refine ⟨List.mem_cons_of_mem _ i1, fun u hu => ?_⟩
              rcases List.mem_cons.mp hu with h | h
              · omega
              · exact i2 u h
      obtain ⟨y1, y2⟩ := hy e
      show some (if x ≤ y then x else y) = some m
      have a1 := hl x (by simp)
      have a2 := hl y (List.mem_cons_of_mem _ y1)
      rcases List.mem_cons.mp h with h | h
      · by_cases c : x ≤ y
        · rw [if_pos c, h]
        · omega
      · have := y2 m h
        by_cases c : x ≤ y
        · rw [if_pos c]
          congr 1
          omega
        · rw [if_neg c]
          congr 1
          omega
theorem minL_nil : minL [] = none := rfl

def spWalk (C : Addr) : Sp := fun vs H Q _ => ∃ (W d : Addr) (S : WS) (th : List Str) (x : Str) (st : Int), vs = [.ref W, .str x, .int st] ∧ Res C W d S th (.walk x st) H Q
def oL : Option Int → List Int
  | none => []
  | some z => [z]
theorem someInts_snoc : ∀ (l : List (Option Int)) (o : Option Int), someInts (l ++ [o]) = someInts l ++ oL o
  | [], none => rfl
  | [], some z => rfl
  | none :: r, o => someInts_snoc r o
  | some y :: r, o => by
    show y :: someInts (r ++ [o]) = y :: someInts r ++ _
    rw [someInts_snoc r o]
    rfl
theorem ok_LineWork_walk (T : Txt K mg a) : Ok1 P w K mg base CX0 3 a.LineWork_walk ["self", "window", "step"] (spWalk a.cLineWork) := by
  obtain ⟨fd, F⟩ := T.f_LineWork_walk
  obtain ⟨fd_LineWork_shift, G_LineWork_shift, b_LineWork_shift, kp_LineWork_shift⟩ := ok_LineWork_shift (P := P) (w := w) (base := base) T
  obtain ⟨fd_LineWork_times_to, G_LineWork_times_to, b_LineWork_times_to, kp_LineWork_times_to⟩ := ok_LineWork_times_to (P := P) (w := w) (base := base) T
  refine ⟨fd, F.ok sc_LineWork_walk (fun vs H Q E h => ?_) (fun cdv A outer s H vs Q E hr h => ?_), F.binds (ps := ["self", "window", "step"]) fun _ _ _ _ _ _ us hl => match us, hl with | [_, _, _], _ => rfl, F.kp⟩
  · obtain ⟨W, d, S, th, x, st, rfl, _⟩ := h
    rfl
  · obtain ⟨W, d, S, th, x, st, rfl, ⟨hw, gd, ok, k⟩⟩ := h
    obtain ⟨⟨dx, hW⟩, hd⟩ := id hw
    obtain ⟨_, ok0, ok1, ok2⟩ := id ok
    refine ⟨_, (pss_cons (ps_lock (ps_setLc (i := 3) (own := [("place", 5)]) (g := gName 5) (tt := tYes) rfl sc_LineWork_walk.nd rfl rfl (sw_true rfl rfl rfl (by decide +kernel)) (pi_values (pe_fld (pv 0) rfl)) (blkOk_by (N := ["self", "window", "step", "found", "times", "place", "one"]) (sc := defScope s_LineWork_walk) (by decide +kernel)) (fun _ _ _ _ _ => (pg_name (i := 5) sc_LineWork_walk.nd rfl (Or.inl rfl))) (fun _ _ _ _ _ => pts_nil) (fun _ _ _ _ _ => (pe_meth (pv 0) T.c_LineWork T.m_LineWork_times_to G_LineWork_times_to (hr.mono (by decide)) b_LineWork_times_to .nil pass0 (pa_cons (pv 1) (pa_cons (pv 5) (pa_cons (pv 2) pa_nil)))))))
      (pss_cons (ps_set (i := 4) sc_LineWork_walk.nd rfl (Or.inl rfl) (pe_callBK (ck_min rfl) (by rfl) T.b_min (by decide +kernel) (pa_cons (pe_lc (own := [("one", 6)]) (g := gName 6) (tt := _) rfl sc_LineWork_walk.nd (pi_list (pv 3)) (blkOk_by (N := ["self", "window", "step", "found", "times", "place", "one"]) (sc := defScope s_LineWork_walk) (by decide +kernel)) (fun _ _ _ _ _ => (pg_name (i := 6) sc_LineWork_walk.nd rfl (Or.inl rfl))) (fun _ _ _ _ _ => (pts_one (pt_cmp (pc_notN (pv 6)) rfl))) (fun _ _ _ _ _ => (pv 6))) pa_nil) (pk_cons pe_non pk_nil)))
      (pss_cons (ps_if (pt_cmp (pc_notN (pv 4)) rfl) (pss_one (ps_expr (pe_meth (pv 0) T.c_LineWork T.m_LineWork_shift G_LineWork_shift (hr.mono (by decide)) b_LineWork_shift .nil pass0 (pa_cons (pe_op op_mul (pv 4) (pv 2)) pa_nil)))) pss_nil)
      (pss_one (ps_ret (pv 4)))))), ?_⟩
    have nWd := hw.ne
    refine ⟨d, _, hd, True.intro, fun od => ?_⟩
    refine ⟨_, rfl, W, _, dx, _, _, rfl, (by rw [upd_ne nWd]; exact hW), T.c_LineWork, T.n_LineWork_hung, wfl_hung, d, od, _, rfl, upd_same, fun D hD => ?_⟩
    have sD : Same (upd H d (.frz od (.dK (kvH S.hung)))) (upd (upd H d (.frz od (.dK (kvH S.hung)))) D (.lst [])) := fun b o e => by
      rw [upd_ne (ne_of_none e hD)]; exact e
    refine lc_it (S.hung.length) (fun i H' => ∃ acc, H' = upd (upd H d (.frz od (.dK (kvH S.hung)))) D (.lst acc) ∧ acc = ((timesAll S x st).take i).map oI)
      ⟨[], rfl, rfl⟩ ?go ?stop ?turn ?done
    case go =>
      rintro i H' hi ⟨acc, rfl, e⟩
      refine ⟨?_, by rw [kvH_length]; exact hi⟩
      rw [upd_ne (ne_of_none upd_same hD)]
      exact upd_same
    case stop =>
      rintro H' ⟨acc, rfl, e⟩
      refine ⟨?_, by rw [kvH_length]; exact Nat.le_refl _⟩
      rw [upd_ne (ne_of_none upd_same hD)]
      exact upd_same
    case turn =>
      rintro i H' y H2 hi ⟨acc, rfl, e⟩ ⟨rfl, k1, he⟩
      obtain ⟨q, hq⟩ : ∃ q, S.hung[i]? = some q := ⟨S.hung[i], by simp [hi]⟩
      have he' : (Sum.inr q.1, V.int q.2) = (k1, y) := by
        unfold kvH at he
        rw [List.getElem?_map, hq] at he
        exact Option.some.inj he
      cases he'
      have hW2 : (upd (upd H d (.frz od (.dK (kvH S.hung)))) D (.lst acc)) W = some (.ins a.cLineWork dx (wfl S.half S.stand d S.len)) := by
        have z : (upd H d (.frz od (.dK (kvH S.hung)))) W = some (.ins a.cLineWork dx (wfl S.half S.stand d S.len)) := by
          rw [upd_ne nWd]; exact hW
        rw [upd_ne (ne_of_none z hD)]
        exact z
      refine ⟨rfl, ?_⟩
      refine ⟨_, rfl, W, dx, _, rfl, hW2, wfl_m_times, _, rfl, _, rfl, _, rfl, W, d, S, x, q.2, st, rfl, ⟨dx, hW2⟩, gd.half, ok0, ok1, ok2, ?_⟩
      refine ⟨acc, upd_same, ?_, _, upd_upd, ?_⟩
      · rw [e, List.length_map, List.length_take]
        have := gd.size
        have : (timesAll S x st).length = S.hung.length := by unfold timesAll; simp
        exact small1000 (by omega)
      · rw [e, List.take_succ, List.map_append]
        congr 1
        unfold timesAll
        rw [List.getElem?_map, hq]
        rfl
    case done =>
      rintro H' ⟨acc, rfl, e⟩
      have e2 : acc = (timesAll S x st).map oI := by
        rw [e, List.take_of_length_le (by unfold timesAll; simp)]
      have dD : d ≠ D := ne_of_none upd_same hD
      have hHD : H D = none := by
        have z := hD
        rw [upd_ne dD.symm] at z
        exact z
      refine ⟨by rw [upd_ne dD]; exact upd_same, ?_⟩
      have s0 : Same H (upd (upd (upd H d (.frz od (.dK (kvH S.hung)))) D (.lst acc)) d (.dK (kvH S.hung))) := fun b o z => by
        by_cases hb : b = d
        · subst hb
          rw [upd_same, ← hd, z]
        · rw [upd_ne hb, upd_ne (ne_of_none z hHD), upd_ne hb]
          exact z
      generalize hH1 : (upd (upd (upd H d (.frz od (.dK (kvH S.hung)))) D (.lst acc)) d (.dK (kvH S.hung))) = H1 at s0 ⊢
      have hDl : H1 D = some (.lst acc) := by rw [← hH1, upd_ne dD.symm, upd_same]
      clear hH1
      refine ⟨_, rfl, D, rfl, ⟨_, SqL.of hDl⟩, fun D2 hD2 => ?_⟩
      refine lc_list (K := K) (a := D) (xs := acc) (fun i H' => ∃ ns, H' = upd H1 D2 (.lst (ns.map V.int)) ∧ ns = someInts ((timesAll S x st).take i)) ⟨[], rfl, rfl⟩ (fun i H' _ ⟨ns, q, _⟩ => by
        rw [q]
        exact SqL.of (by rw [upd_ne (ne_of_none hDl hD2)]; exact hDl)) ?_ ?_
      · rintro i y H' hy ⟨ns, rfl, e3⟩
        refine ⟨rfl, ?_⟩
        obtain ⟨o, ho, hoy⟩ : ∃ o, (timesAll S x st)[i]? = some o ∧ y = oI o := by
          rw [e2, List.getElem?_map] at hy
          cases q : (timesAll S x st)[i]? with
          | none => rw [q] at hy; cases hy
          | some o => rw [q] at hy; exact ⟨o, rfl, (Option.some.inj hy).symm⟩
        subst hoy
        refine ⟨_, rfl, _, rfl, ?_⟩
        have sn : someInts ((timesAll S x st).take (i + 1)) = ns ++ oL o := by
          rw [List.take_succ, ho, e3]
          exact someInts_snoc _ _
        cases o with
        | none =>
          refine ite_or (fun z => Bool.noConfusion z) (fun _ => ⟨ns, rfl, ?_⟩)
          rw [sn]
          exact (List.append_nil ns).symm
        | some z =>
          refine ite_or (fun _ => ?_) (fun z => Bool.noConfusion z)
          refine ⟨_, rfl, _, upd_same, ?_, ns ++ [z], ?_, sn.symm⟩
          · have l1 : ns.length ≤ (timesAll S x st).length := by
              have : ∀ l : List (Option Int), (someInts l).length ≤ l.length := fun l => by
                induction l with
                | nil => exact Nat.le_refl _
                | cons o r ih =>
                  cases o with
                  | none => exact Nat.le_succ_of_le ih
                  | some z => exact Nat.succ_le_succ ih
              have := this ((timesAll S x st).take i)
              rw [← e3, List.length_take] at this
              omega
            have l2 : (timesAll S x st).length = S.hung.length := by unfold timesAll; simp
            rw [List.length_map]
            have := gd.size
            exact small1000 (by omega)
          · rw [upd_upd, List.map_append]
            rfl
      · rintro H' ⟨ns, rfl, e3⟩
        have e4 : ns = someInts (timesAll S x st) := by
          rw [e3, List.take_of_length_le (by rw [e2]; simp)]
        have s1 : Same H (upd H1 D2 (.lst (ns.map V.int))) := fun b o z => by
          rw [upd_ne (ne_of_none (s0 b o z) hD2)]
          exact s0 b o z
        have w1 := hw.same s1
        obtain ⟨⟨dx1, hW1⟩, hd1⟩ := id w1
        refine ⟨D2, ns, rfl, rfl, SqL.of upd_same, fun hn => ?_, fun m hm hl => ?_⟩
        · have z : times S x st = none := by
            unfold times
            rw [← e4, hn]
            rfl
          rw [tellP_walk0 z] at k
          refine ⟨_, rfl, _, rfl, ?_⟩
          refine ite_or (fun z => Bool.noConfusion z) (fun _ => ⟨_, rfl, k _ w1 (But.same s1)⟩)
        · have z : times S x st = some m := by
            unfold times
            rw [← e4]
            exact minL_of hm hl
          rw [tellP_walk1 z] at k
          refine ⟨_, rfl, _, rfl, ?_⟩
          refine ite_or (fun _ => ?_) (fun z => Bool.noConfusion z)
          refine ⟨_, rfl, W, dx1, _, rfl, hW1, wfl_m_shift, _, rfl, _, rfl, _, _, rfl, rfl, .inr ⟨by omega, by omega⟩, W, d, S, _, rfl, w1.ob, gd.half, fun H3 i3 k3 => ?_⟩
          exact ⟨_, rfl, k H3 (w1.insW i3 k3 rfl) ((But.same s1).trans (w1.butW k3) fun z hz => .inl hz)⟩
end
end K76

set_option maxRecDepth 100000
set_option maxHeartbeats 4000000
namespace K76
open PySem L2
section
variable {P : Program} {w : World} {K : PySem.W.Frag} {mg : Str → Option Value} {base : Heap} {a : Ad}
/-! ## tell -/
def PD.vs : PD → List V
  | .pull n => [.str "pull", .int n]
  | .peg w x => [.str "peg", .str w, .str x]
  | .hang w x => [.str "hang", .str w, .str x]
  | .fetch w x => [.str "fetch", .str w, .str x]
  | .walk w s => [.str "walk", .str w, .int s]
  | .take w => [.str "take", .str w]
  | .look w => [.str "look", .str w]
/-- the deed's tuple stands at t -/
def DeedAt (H : Hp) (t : Addr) : DD → Prop
  | .plain p => H t = some (.tup p.vs)
  | .whn w o p => ∃ u, H t = some (.tup [.str "when", .str w, oS o, .ref u]) ∧ H u = some (.tup p.vs)
theorem DeedAt.but {F : List Addr} {H H' : Hp} {t : Addr} {D : DD} (h : DeedAt H t D) (b : But F H H') : DeedAt H' t D := by
  cases D with
  | plain p => exact b.tup h
  | whn w o p =>
    obtain ⟨u, h1, h2⟩ := h
    exact ⟨u, b.tup h1, b.tup h2⟩
theorem yesT {c : Bool} {A B : Prop} (h : c = true) (x : A) : if c = true then A else B := by rw [if_pos h]; exact x
theorem noF {c : Bool} {A B : Prop} (h : c = false) (x : B) : if c = true then A else B := by rw [if_neg (by rw [h]; exact Bool.false_ne_true)]; exact x
structure Tells (C : Addr) (W d : Addr) (S : WS) (th : List Str) (D : DD) (H : Hp) (Q : VK) : Prop where
  at_ : WorkAt C H W d S
  good : Good th S
  ok : D.ok th
  q : ∀ H', WorkAt C H' W d (tell S D).2 → But [W, d] H H' → Q (tell S D).1 H'
def spTellP (C : Addr) : Sp := fun vs H Q _ => ∃ (W d t : Addr) (S : WS) (th : List Str) (p : PD), vs = [.ref W, .ref t] ∧ H t = some (.tup p.vs) ∧ Res C W d S th p H Q
theorem ok_LineWork_tellP (T : Txt K mg a) : Ok1 P w K mg base CX0 4 a.LineWork_tell ["self", "deed"] (spTellP a.cLineWork) := by
  obtain ⟨fd, F⟩ := T.f_LineWork_tell
  obtain ⟨fd_LineWork_thing_at, G_LineWork_thing_at, b_LineWork_thing_at, kp_LineWork_thing_at⟩ := ok_LineWork_thing_at (P := P) (w := w) (base := base) T
  obtain ⟨fd_LineWork_shift, G_LineWork_shift, b_LineWork_shift, kp_LineWork_shift⟩ := ok_LineWork_shift (P := P) (w := w) (base := base) T
  obtain ⟨fd_LineWork_peg, G_LineWork_peg, b_LineWork_peg, kp_LineWork_peg⟩ := ok_LineWork_peg (P := P) (w := w) (base := base) T
  obtain ⟨fd_LineWork_hang, G_LineWork_hang, b_LineWork_hang, kp_LineWork_hang⟩ := ok_LineWork_hang (P := P) (w := w) (base := base) T
  obtain ⟨fd_LineWork_fetch, G_LineWork_fetch, b_LineWork_fetch, kp_LineWork_fetch⟩ := ok_LineWork_fetch (P := P) (w := w) (base := base) T
  obtain ⟨fd_LineWork_walk, G_LineWork_walk, b_LineWork_walk, kp_LineWork_walk⟩ := ok_LineWork_walk (P := P) (w := w) (base := base) T
  obtain ⟨fd_LineWork_look, G_LineWork_look, b_LineWork_look, kp_LineWork_look⟩ := ok_LineWork_look (P := P) (w := w) (base := base) T
  refine ⟨fd, F.ok sc_LineWork_tell (fun vs H Q E h => ?_) (fun cdv A outer s H vs Q E hr h => ?_), F.binds (ps := ["self", "deed"]) fun _ _ _ _ _ _ us hl => match us, hl with | [_, _], _ => rfl, F.kp⟩
  · obtain ⟨W, d, t, S, th, p, rfl, _⟩ := h
    rfl
  · obtain ⟨W, d, t, S, th, p, rfl, ht, ⟨hw, gd, ok, k⟩⟩ := h
    obtain ⟨⟨dx, hW⟩, hd⟩ := id hw
    refine ⟨_, (pss_cons (ps_set (i := 2) sc_LineWork_tell.nd rfl (Or.inl rfl) (pe_ix ix_tup (pv 1) pe_int (fun _ _ => rfl)))
      (pss_cons (ps_if (pt_cmpR op_eq (pv 2) pe_str (nomark _)) (pss_one ps_never) pss_nil)
      (pss_cons (ps_if (pt_cmpR op_eq (pv 2) pe_str (nomark _)) (pss_cons (ps_expr (pe_meth (pv 0) T.c_LineWork T.m_LineWork_shift G_LineWork_shift (hr.mono (by decide)) b_LineWork_shift .nil pass0 (pa_cons (pe_ix ix_tup (pv 1) pe_int (fun _ _ => rfl)) pa_nil)))
      (pss_one (ps_ret pe_bl))) pss_nil)
      (pss_cons (ps_if (pt_cmpR op_eq (pv 2) pe_str (nomark _)) (pss_one (ps_ret (pe_meth (pv 0) T.c_LineWork T.m_LineWork_peg G_LineWork_peg (hr.mono (by decide)) b_LineWork_peg .nil pass0 (pa_cons (pe_ix ix_tup (pv 1) pe_int (fun _ _ => rfl)) (pa_cons (pe_ix ix_tup (pv 1) pe_int (fun _ _ => rfl)) pa_nil))))) pss_nil)
      (pss_cons (ps_if (pt_cmpR op_eq (pv 2) pe_str (nomark _)) (pss_one (ps_ret (pe_meth (pv 0) T.c_LineWork T.m_LineWork_hang G_LineWork_hang (hr.mono (by decide)) b_LineWork_hang .nil pass0 (pa_cons (pe_ix ix_tup (pv 1) pe_int (fun _ _ => rfl)) (pa_cons (pe_ix ix_tup (pv 1) pe_int (fun _ _ => rfl)) pa_nil))))) pss_nil)
      (pss_cons (ps_if (pt_cmpR op_eq (pv 2) pe_str (nomark _)) (pss_one (ps_ret (pe_meth (pv 0) T.c_LineWork T.m_LineWork_fetch G_LineWork_fetch (hr.mono (by decide)) b_LineWork_fetch .nil pass0 (pa_cons (pe_ix ix_tup (pv 1) pe_int (fun _ _ => rfl)) (pa_cons (pe_ix ix_tup (pv 1) pe_int (fun _ _ => rfl)) pa_nil))))) pss_nil)
      (pss_cons (ps_if (pt_cmpR op_eq (pv 2) pe_str (nomark _)) (pss_one (ps_ret (pe_meth (pv 0) T.c_LineWork T.m_LineWork_walk G_LineWork_walk (hr.mono (by decide)) b_LineWork_walk .nil pass0 (pa_cons (pe_ix ix_tup (pv 1) pe_int (fun _ _ => rfl)) (pa_cons (pe_ix ix_tup (pv 1) pe_int (fun _ _ => rfl)) pa_nil))))) pss_nil)
      (pss_one (ps_ret (pe_meth (pv 0) T.c_LineWork T.m_LineWork_look G_LineWork_look (hr.mono (by decide)) b_LineWork_look .nil pass0 (pa_cons (pe_ix ix_tup (pv 1) pe_int (fun _ _ => rfl)) (pa_cons (pe_cmpR op_eq (pv 2) pe_str (nomark _)) pa_nil)))))))))))), ?_⟩
    cases p with
    | pull n =>
      refine ⟨_, rfl, t, _, _, _, rfl, rfl, SqT.of ht, rfl, ?_⟩
      refine ⟨_, rfl, rfl, _, rfl, noF (by decide +kernel) ?_⟩
      refine ⟨_, rfl, rfl, _, rfl, yesT (by decide +kernel) ?_⟩
      refine ⟨_, rfl, W, dx, _, rfl, hW, wfl_m_shift, _, rfl, t, _, _, _, rfl, rfl, SqT.of ht, rfl, W, d, S, n, rfl, hw.ob, gd.half, fun H1 i1 k1 => ?_⟩
      exact k H1 (hw.insW i1 k1 rfl) (hw.butW k1)
    | peg x y =>
      refine ⟨_, rfl, t, _, _, _, rfl, rfl, SqT.of ht, rfl, ?_⟩
      refine ⟨_, rfl, rfl, _, rfl, noF (by decide +kernel) ?_⟩
      refine ⟨_, rfl, rfl, _, rfl, noF (by decide +kernel) ?_⟩
      refine ⟨_, rfl, rfl, _, rfl, yesT (by decide +kernel) ?_⟩
      refine ⟨_, rfl, W, dx, _, rfl, hW, wfl_m_peg, _, rfl, t, _, _, _, rfl, rfl, SqT.of ht, rfl, _, rfl, t, _, _, _, rfl, rfl, SqT.of ht, rfl, ?_⟩
      exact ⟨W, d, S, th, _, _, rfl, ⟨hw, gd, ok, k⟩⟩
    | hang x y =>
      refine ⟨_, rfl, t, _, _, _, rfl, rfl, SqT.of ht, rfl, ?_⟩
      refine ⟨_, rfl, rfl, _, rfl, noF (by decide +kernel) ?_⟩
      refine ⟨_, rfl, rfl, _, rfl, noF (by decide +kernel) ?_⟩
      refine ⟨_, rfl, rfl, _, rfl, noF (by decide +kernel) ?_⟩
      refine ⟨_, rfl, rfl, _, rfl, yesT (by decide +kernel) ?_⟩
      refine ⟨_, rfl, W, dx, _, rfl, hW, wfl_m_hang, _, rfl, t, _, _, _, rfl, rfl, SqT.of ht, rfl, _, rfl, t, _, _, _, rfl, rfl, SqT.of ht, rfl, ?_⟩
      exact ⟨W, d, S, th, _, _, rfl, ⟨hw, gd, ok, k⟩⟩
    | fetch x y =>
      refine ⟨_, rfl, t, _, _, _, rfl, rfl, SqT.of ht, rfl, ?_⟩
      refine ⟨_, rfl, rfl, _, rfl, noF (by decide +kernel) ?_⟩
      refine ⟨_, rfl, rfl, _, rfl, noF (by decide +kernel) ?_⟩
      refine ⟨_, rfl, rfl, _, rfl, noF (by decide +kernel) ?_⟩
      refine ⟨_, rfl, rfl, _, rfl, noF (by decide +kernel) ?_⟩
      refine ⟨_, rfl, rfl, _, rfl, yesT (by decide +kernel) ?_⟩
      refine ⟨_, rfl, W, dx, _, rfl, hW, wfl_m_fetch, _, rfl, t, _, _, _, rfl, rfl, SqT.of ht, rfl, _, rfl, t, _, _, _, rfl, rfl, SqT.of ht, rfl, ?_⟩
      exact ⟨W, d, S, th, _, _, rfl, ⟨hw, gd, ok, k⟩⟩
    | walk x st =>
      refine ⟨_, rfl, t, _, _, _, rfl, rfl, SqT.of ht, rfl, ?_⟩
      refine ⟨_, rfl, rfl, _, rfl, noF (by decide +kernel) ?_⟩
      refine ⟨_, rfl, rfl, _, rfl, noF (by decide +kernel) ?_⟩
      refine ⟨_, rfl, rfl, _, rfl, noF (by decide +kernel) ?_⟩
      refine ⟨_, rfl, rfl, _, rfl, noF (by decide +kernel) ?_⟩
      refine ⟨_, rfl, rfl, _, rfl, noF (by decide +kernel) ?_⟩
      refine ⟨_, rfl, rfl, _, rfl, yesT (by decide +kernel) ?_⟩
      refine ⟨_, rfl, W, dx, _, rfl, hW, wfl_m_walk, _, rfl, t, _, _, _, rfl, rfl, SqT.of ht, rfl, _, rfl, t, _, _, _, rfl, rfl, SqT.of ht, rfl, ?_⟩
      exact ⟨W, d, S, th, _, _, rfl, ⟨hw, gd, ok, k⟩⟩
    | take x =>
      refine ⟨_, rfl, t, _, _, _, rfl, rfl, SqT.of ht, rfl, ?_⟩
      refine ⟨_, rfl, rfl, _, rfl, noF (by decide +kernel) ?_⟩
      refine ⟨_, rfl, rfl, _, rfl, noF (by decide +kernel) ?_⟩
      refine ⟨_, rfl, rfl, _, rfl, noF (by decide +kernel) ?_⟩
      refine ⟨_, rfl, rfl, _, rfl, noF (by decide +kernel) ?_⟩
      refine ⟨_, rfl, rfl, _, rfl, noF (by decide +kernel) ?_⟩
      refine ⟨_, rfl, rfl, _, rfl, noF (by decide +kernel) ?_⟩
      refine ⟨_, rfl, W, dx, _, rfl, hW, wfl_m_look, _, rfl, t, _, _, _, rfl, rfl, SqT.of ht, rfl, _, rfl, rfl, ?_⟩
      have e : decide (V.str "take" = V.str "take") = true := by decide +kernel
      show spLook _ [V.ref W, V.str x, V.bl (decide (V.str "take" = V.str "take"))] H Q E0
      rw [e]
      exact ⟨W, d, S, th, _, _, rfl, ⟨hw, gd, ok, k⟩⟩
    | look x =>
      refine ⟨_, rfl, t, _, _, _, rfl, rfl, SqT.of ht, rfl, ?_⟩
      refine ⟨_, rfl, rfl, _, rfl, noF (by decide +kernel) ?_⟩
      refine ⟨_, rfl, rfl, _, rfl, noF (by decide +kernel) ?_⟩
      refine ⟨_, rfl, rfl, _, rfl, noF (by decide +kernel) ?_⟩
      refine ⟨_, rfl, rfl, _, rfl, noF (by decide +kernel) ?_⟩
      refine ⟨_, rfl, rfl, _, rfl, noF (by decide +kernel) ?_⟩
      refine ⟨_, rfl, rfl, _, rfl, noF (by decide +kernel) ?_⟩
      refine ⟨_, rfl, W, dx, _, rfl, hW, wfl_m_look, _, rfl, t, _, _, _, rfl, rfl, SqT.of ht, rfl, _, rfl, rfl, ?_⟩
      have e : decide (V.str "look" = V.str "take") = false := by decide +kernel
      show spLook _ [V.ref W, V.str x, V.bl (decide (V.str "look" = V.str "take"))] H Q E0
      rw [e]
      exact ⟨W, d, S, th, _, _, rfl, ⟨hw, gd, ok, k⟩⟩
def spTell (C : Addr) : Sp := fun vs H Q _ => ∃ (W d t : Addr) (S : WS) (th : List Str) (D : DD), vs = [.ref W, .ref t] ∧ DeedAt H t D ∧ Tells C W d S th D H Q
theorem oS_eq {o u : Option Str} : decide (oS o = oS u) = decide (o = u) := by
  cases o with
  | none => cases u <;> simp [oS]
  | some x => cases u <;> simp [oS]
theorem oS_scal {o u : Option Str} : scal (oS o) (oS u) = true := by
  cases o <;> cases u <;> rfl
theorem ok_LineWork_tell (T : Txt K mg a) : Ok1 P w K mg base CX0 5 a.LineWork_tell ["self", "deed"] (spTell a.cLineWork) := by
  obtain ⟨fd, F⟩ := T.f_LineWork_tell
  obtain ⟨fd_LineWork_thing_at, G_LineWork_thing_at, b_LineWork_thing_at, kp_LineWork_thing_at⟩ := ok_LineWork_thing_at (P := P) (w := w) (base := base) T
  obtain ⟨fd_LineWork_shift, G_LineWork_shift, b_LineWork_shift, kp_LineWork_shift⟩ := ok_LineWork_shift (P := P) (w := w) (base := base) T
  obtain ⟨fd_LineWork_peg, G_LineWork_peg, b_LineWork_peg, kp_LineWork_peg⟩ := ok_LineWork_peg (P := P) (w := w) (base := base) T
  obtain ⟨fd_LineWork_hang, G_LineWork_hang, b_LineWork_hang, kp_LineWork_hang⟩ := ok_LineWork_hang (P := P) (w := w) (base := base) T
  obtain ⟨fd_LineWork_fetch, G_LineWork_fetch, b_LineWork_fetch, kp_LineWork_fetch⟩ := ok_LineWork_fetch (P := P) (w := w) (base := base) T
  obtain ⟨fd_LineWork_walk, G_LineWork_walk, b_LineWork_walk, kp_LineWork_walk⟩ := ok_LineWork_walk (P := P) (w := w) (base := base) T
  obtain ⟨fd_LineWork_look, G_LineWork_look, b_LineWork_look, kp_LineWork_look⟩ := ok_LineWork_look (P := P) (w := w) (base := base) T
  obtain ⟨fd_LineWork_tell, G_LineWork_tell, b_LineWork_tell, kp_LineWork_tell⟩ := ok_LineWork_tellP (P := P) (w := w) (base := base) T
  refine ⟨fd, F.ok sc_LineWork_tell (fun vs H Q E h => ?_) (fun cdv A outer s H vs Q E hr h => ?_), F.binds (ps := ["self", "deed"]) fun _ _ _ _ _ _ us hl => match us, hl with | [_, _], _ => rfl, F.kp⟩
  · obtain ⟨W, d, t, S, th, p, rfl, _⟩ := h
    rfl
  · obtain ⟨W, d, t, S, th, D, rfl, ht, ⟨hw, gd, ok, k⟩⟩ := h
    obtain ⟨⟨dx, hW⟩, hd⟩ := id hw
    refine ⟨_, (pss_cons (ps_set (i := 2) sc_LineWork_tell.nd rfl (Or.inl rfl) (pe_ix ix_tup (pv 1) pe_int (fun _ _ => rfl)))
      (pss_cons (ps_if (pt_cmpR op_eq (pv 2) pe_str (nomark _)) (pss_one (ps_ret (pe_ifExp (pt_cmpR op_eq (pe_meth (pv 0) T.c_LineWork T.m_LineWork_thing_at G_LineWork_thing_at (hr.mono (by decide)) b_LineWork_thing_at .nil pass0 (pa_cons (pe_ix ix_tup (pv 1) pe_int (fun _ _ => rfl)) pa_nil)) (pe_ix ix_tup (pv 1) pe_int (fun _ _ => rfl)) (nomark _)) (pe_meth (pv 0) T.c_LineWork T.m_LineWork_tell G_LineWork_tell (hr.mono (by decide)) b_LineWork_tell .nil pass0 (pa_cons (pe_ix ix_tup (pv 1) pe_int (fun _ _ => rfl)) pa_nil)) pe_str))) pss_nil)
      (pss_cons (ps_if (pt_cmpR op_eq (pv 2) pe_str (nomark _)) (pss_cons (ps_expr (pe_meth (pv 0) T.c_LineWork T.m_LineWork_shift G_LineWork_shift (hr.mono (by decide)) b_LineWork_shift .nil pass0 (pa_cons (pe_ix ix_tup (pv 1) pe_int (fun _ _ => rfl)) pa_nil)))
      (pss_one (ps_ret pe_bl))) pss_nil)
      (pss_cons (ps_if (pt_cmpR op_eq (pv 2) pe_str (nomark _)) (pss_one (ps_ret (pe_meth (pv 0) T.c_LineWork T.m_LineWork_peg G_LineWork_peg (hr.mono (by decide)) b_LineWork_peg .nil pass0 (pa_cons (pe_ix ix_tup (pv 1) pe_int (fun _ _ => rfl)) (pa_cons (pe_ix ix_tup (pv 1) pe_int (fun _ _ => rfl)) pa_nil))))) pss_nil)
      (pss_cons (ps_if (pt_cmpR op_eq (pv 2) pe_str (nomark _)) (pss_one (ps_ret (pe_meth (pv 0) T.c_LineWork T.m_LineWork_hang G_LineWork_hang (hr.mono (by decide)) b_LineWork_hang .nil pass0 (pa_cons (pe_ix ix_tup (pv 1) pe_int (fun _ _ => rfl)) (pa_cons (pe_ix ix_tup (pv 1) pe_int (fun _ _ => rfl)) pa_nil))))) pss_nil)
      (pss_cons (ps_if (pt_cmpR op_eq (pv 2) pe_str (nomark _)) (pss_one (ps_ret (pe_meth (pv 0) T.c_LineWork T.m_LineWork_fetch G_LineWork_fetch (hr.mono (by decide)) b_LineWork_fetch .nil pass0 (pa_cons (pe_ix ix_tup (pv 1) pe_int (fun _ _ => rfl)) (pa_cons (pe_ix ix_tup (pv 1) pe_int (fun _ _ => rfl)) pa_nil))))) pss_nil)
      (pss_cons (ps_if (pt_cmpR op_eq (pv 2) pe_str (nomark _)) (pss_one (ps_ret (pe_meth (pv 0) T.c_LineWork T.m_LineWork_walk G_LineWork_walk (hr.mono (by decide)) b_LineWork_walk .nil pass0 (pa_cons (pe_ix ix_tup (pv 1) pe_int (fun _ _ => rfl)) (pa_cons (pe_ix ix_tup (pv 1) pe_int (fun _ _ => rfl)) pa_nil))))) pss_nil)
      (pss_one (ps_ret (pe_meth (pv 0) T.c_LineWork T.m_LineWork_look G_LineWork_look (hr.mono (by decide)) b_LineWork_look .nil pass0 (pa_cons (pe_ix ix_tup (pv 1) pe_int (fun _ _ => rfl)) (pa_cons (pe_cmpR op_eq (pv 2) pe_str (nomark _)) pa_nil)))))))))))), ?_⟩
    rcases D with p | ⟨x, o, p⟩
    · have ht : H t = some (.tup p.vs) := ht
      have ok : p.ok th := ok
      cases p with
      | pull n =>
        refine ⟨_, rfl, t, _, _, _, rfl, rfl, SqT.of ht, rfl, ?_⟩
        refine ⟨_, rfl, rfl, _, rfl, noF (by decide +kernel) ?_⟩
        refine ⟨_, rfl, rfl, _, rfl, yesT (by decide +kernel) ?_⟩
        refine ⟨_, rfl, W, dx, _, rfl, hW, wfl_m_shift, _, rfl, t, _, _, _, rfl, rfl, SqT.of ht, rfl, W, d, S, n, rfl, hw.ob, gd.half, fun H1 i1 k1 => ?_⟩
        exact k H1 (hw.insW i1 k1 rfl) (hw.butW k1)
      | peg x y =>
        refine ⟨_, rfl, t, _, _, _, rfl, rfl, SqT.of ht, rfl, ?_⟩
        refine ⟨_, rfl, rfl, _, rfl, noF (by decide +kernel) ?_⟩
        refine ⟨_, rfl, rfl, _, rfl, noF (by decide +kernel) ?_⟩
        refine ⟨_, rfl, rfl, _, rfl, yesT (by decide +kernel) ?_⟩
        refine ⟨_, rfl, W, dx, _, rfl, hW, wfl_m_peg, _, rfl, t, _, _, _, rfl, rfl, SqT.of ht, rfl, _, rfl, t, _, _, _, rfl, rfl, SqT.of ht, rfl, ?_⟩
        exact ⟨W, d, S, th, _, _, rfl, ⟨hw, gd, ok, k⟩⟩
      | hang x y =>
        refine ⟨_, rfl, t, _, _, _, rfl, rfl, SqT.of ht, rfl, ?_⟩
        refine ⟨_, rfl, rfl, _, rfl, noF (by decide +kernel) ?_⟩
        refine ⟨_, rfl, rfl, _, rfl, noF (by decide +kernel) ?_⟩
        refine ⟨_, rfl, rfl, _, rfl, noF (by decide +kernel) ?_⟩
        refine ⟨_, rfl, rfl, _, rfl, yesT (by decide +kernel) ?_⟩
        refine ⟨_, rfl, W, dx, _, rfl, hW, wfl_m_hang, _, rfl, t, _, _, _, rfl, rfl, SqT.of ht, rfl, _, rfl, t, _, _, _, rfl, rfl, SqT.of ht, rfl, ?_⟩
        exact ⟨W, d, S, th, _, _, rfl, ⟨hw, gd, ok, k⟩⟩
      | fetch x y =>
        refine ⟨_, rfl, t, _, _, _, rfl, rfl, SqT.of ht, rfl, ?_⟩
        refine ⟨_, rfl, rfl, _, rfl, noF (by decide +kernel) ?_⟩
        refine ⟨_, rfl, rfl, _, rfl, noF (by decide +kernel) ?_⟩
        refine ⟨_, rfl, rfl, _, rfl, noF (by decide +kernel) ?_⟩
        refine ⟨_, rfl, rfl, _, rfl, noF (by decide +kernel) ?_⟩
        refine ⟨_, rfl, rfl, _, rfl, yesT (by decide +kernel) ?_⟩
        refine ⟨_, rfl, W, dx, _, rfl, hW, wfl_m_fetch, _, rfl, t, _, _, _, rfl, rfl, SqT.of ht, rfl, _, rfl, t, _, _, _, rfl, rfl, SqT.of ht, rfl, ?_⟩
        exact ⟨W, d, S, th, _, _, rfl, ⟨hw, gd, ok, k⟩⟩
      | walk x st =>
        refine ⟨_, rfl, t, _, _, _, rfl, rfl, SqT.of ht, rfl, ?_⟩
        refine ⟨_, rfl, rfl, _, rfl, noF (by decide +kernel) ?_⟩
        refine ⟨_, rfl, rfl, _, rfl, noF (by decide +kernel) ?_⟩
        refine ⟨_, rfl, rfl, _, rfl, noF (by decide +kernel) ?_⟩
        refine ⟨_, rfl, rfl, _, rfl, noF (by decide +kernel) ?_⟩
        refine ⟨_, rfl, rfl, _, rfl, noF (by decide +kernel) ?_⟩
        refine ⟨_, rfl, rfl, _, rfl, yesT (by decide +kernel) ?_⟩
        refine ⟨_, rfl, W, dx, _, rfl, hW, wfl_m_walk, _, rfl, t, _, _, _, rfl, rfl, SqT.of ht, rfl, _, rfl, t, _, _, _, rfl, rfl, SqT.of ht, rfl, ?_⟩
        exact ⟨W, d, S, th, _, _, rfl, ⟨hw, gd, ok, k⟩⟩
      | take x =>
        refine ⟨_, rfl, t, _, _, _, rfl, rfl, SqT.of ht, rfl, ?_⟩
        refine ⟨_, rfl, rfl, _, rfl, noF (by decide +kernel) ?_⟩
        refine ⟨_, rfl, rfl, _, rfl, noF (by decide +kernel) ?_⟩
        refine ⟨_, rfl, rfl, _, rfl, noF (by decide +kernel) ?_⟩
        refine ⟨_, rfl, rfl, _, rfl, noF (by decide +kernel) ?_⟩
        refine ⟨_, rfl, rfl, _, rfl, noF (by decide +kernel) ?_⟩
        refine ⟨_, rfl, rfl, _, rfl, noF (by decide +kernel) ?_⟩
        refine ⟨_, rfl, W, dx, _, rfl, hW, wfl_m_look, _, rfl, t, _, _, _, rfl, rfl, SqT.of ht, rfl, _, rfl, rfl, ?_⟩
        have e : decide (V.str "take" = V.str "take") = true := by decide +kernel
        show spLook _ [V.ref W, V.str x, V.bl (decide (V.str "take" = V.str "take"))] H Q E0
        rw [e]
        exact ⟨W, d, S, th, _, _, rfl, ⟨hw, gd, ok, k⟩⟩
      | look x =>
        refine ⟨_, rfl, t, _, _, _, rfl, rfl, SqT.of ht, rfl, ?_⟩
        refine ⟨_, rfl, rfl, _, rfl, noF (by decide +kernel) ?_⟩
        refine ⟨_, rfl, rfl, _, rfl, noF (by decide +kernel) ?_⟩
        refine ⟨_, rfl, rfl, _, rfl, noF (by decide +kernel) ?_⟩
        refine ⟨_, rfl, rfl, _, rfl, noF (by decide +kernel) ?_⟩
        refine ⟨_, rfl, rfl, _, rfl, noF (by decide +kernel) ?_⟩
        refine ⟨_, rfl, rfl, _, rfl, noF (by decide +kernel) ?_⟩
        refine ⟨_, rfl, W, dx, _, rfl, hW, wfl_m_look, _, rfl, t, _, _, _, rfl, rfl, SqT.of ht, rfl, _, rfl, rfl, ?_⟩
        have e : decide (V.str "look" = V.str "take") = false := by decide +kernel
        show spLook _ [V.ref W, V.str x, V.bl (decide (V.str "look" = V.str "take"))] H Q E0
        rw [e]
        exact ⟨W, d, S, th, _, _, rfl, ⟨hw, gd, ok, k⟩⟩
    · obtain ⟨u, ht, hu⟩ := ht
      refine ⟨_, rfl, t, _, _, _, rfl, rfl, SqT.of ht, rfl, ?_⟩
      refine ⟨_, rfl, rfl, _, rfl, yesT (by decide +kernel) ?_⟩
      refine ⟨_, rfl, W, dx, _, rfl, hW, wfl_m_thing, _, rfl, t, _, _, _, rfl, rfl, SqT.of ht, rfl, W, d, S, x, rfl, hw, gd.half, fun H1 s1 => ?_⟩
      have w1 := hw.same s1
      obtain ⟨⟨dx1, hW1⟩, hd1⟩ := id w1
      have ht1 := s1 _ _ ht
      have hu1 := s1 _ _ hu
      refine ⟨_, rfl, t, _, _, _, rfl, rfl, SqT.of ht1, rfl, oS_scal, _, rfl, ?_⟩
      rw [oS_eq]
      rw [tell_whn] at k
      refine ite_or (fun c => ?_) (fun c => ?_)
      · have c' : S.thingAt x = o := of_decide_eq_true c
        rw [if_pos c'] at k
        refine ⟨_, rfl, W, dx1, _, rfl, hW1, wfl_m_tell, _, rfl, t, _, _, _, rfl, rfl, SqT.of ht1, rfl, ?_⟩
        refine ⟨W, d, u, S, th, p, rfl, hu1, ⟨w1, gd, ok.2.2, fun H2 w2 b2 => k H2 w2 ?_⟩⟩
        exact (But.same s1).trans b2 fun z hz => .inl hz
      · have c' : ¬ S.thingAt x = o := of_decide_eq_false c
        rw [if_neg c'] at k
        exact k H1 w1 (But.same s1)
end
end K76

set_option maxRecDepth 100000
set_option maxHeartbeats 4000000
namespace K76
open PySem L2
section
variable {P : Program} {w : World} {K : PySem.W.Frag} {mg : Str → Option Value} {base : Heap} {a : Ad}

/-! ## names: each test of a true thing is True -/
theorem thing_letter {x : Str} (h : lower x) : ∀ c ∈ x.cps.toList, c ∈ ("abcdefghijklmnopqrstuvwxyz" : Str).cps.toList := fun c hc => by
  have all : ∀ c, c < 123 → 97 ≤ c → c ∈ ("abcdefghijklmnopqrstuvwxyz" : Str).cps.toList := by decide +kernel
  obtain ⟨h1, h2⟩ := h c hc
  exact all c (by omega) h1

def spWhole : Sp := fun vs H Q _ => ∃ (i : Int), vs = [.int i] ∧ Q (.bl true) H
theorem ok_is_whole (T : Txt K mg a) : Ok1 P w K mg base CX0 1 a.is_whole ["thing"] (spWhole) := by
  obtain ⟨fd, F⟩ := T.f_is_whole
  refine ⟨fd, F.ok sc_is_whole (fun vs H Q E h => ?_) (fun cdv A outer s H vs Q E hr h => ?_), F.binds (ps := ["thing"]) fun _ _ _ _ _ _ us hl => match us, hl with | [_], _ => rfl, F.kp⟩
  · obtain ⟨i, rfl, _⟩ := h
    rfl
  · skip
    refine ⟨_, (pss_one (ps_ret (pe_and (pe_callB call_isi (by rfl) T.b_isinstance (by decide +kernel) (pa_cons (pv 0) (pa_cons (pe_bltn (v := .ty "int") (by rfl) T.b_int (by decide +kernel) rfl) pa_nil))) (pe_one (pe_not (pe_callB call_isi (by rfl) T.b_isinstance (by decide +kernel) (pa_cons (pv 0) (pa_cons (pe_bltn (v := .ty "bool") (by rfl) T.b_bool (by decide +kernel) rfl) pa_nil)))))))), ?_⟩
    obtain ⟨i, rfl, k⟩ := h
    refine ⟨_, rfl, .int i, .ty "int", .type "int", .type "int", true, rfl, ClsV.ty _, .base (.int i), kit_ty (by decide +kernel), true, rfl, iteT ?_⟩
    exact ⟨_, rfl, .int i, .ty "bool", .type "int", .type "bool", false, rfl, ClsV.ty _, .base (.int i), kit_ty (by decide +kernel), false, rfl, k⟩
def spThingT : Sp := fun vs H Q _ => ∃ (x : Str), vs = [.str x] ∧ IsThing x ∧ ∀ H', Same H H' → Q (.bl true) H'
theorem ok_is_thing (T : Txt K mg a) : Ok1 P w K mg base CX0 1 a.is_thing ["thing"] (spThingT) := by
  obtain ⟨fd, F⟩ := T.f_is_thing
  obtain ⟨_, hLETTERS⟩ := T.LETTERS
  obtain ⟨_, hLONGEST_THING⟩ := T.LONGEST_THING
  refine ⟨fd, F.ok sc_is_thing (fun vs H Q E h => ?_) (fun cdv A outer s H vs Q E hr h => ?_), F.binds (ps := ["thing"]) fun _ _ _ _ _ _ us hl => match us, hl with | [_], _ => rfl, F.kp⟩
  · obtain ⟨x, rfl, _⟩ := h
    rfl
  · skip
    refine ⟨_, (pss_cons (ps_if (PW.pt (pw_or (pt_not (pt_val (pe_callB call_isi (by rfl) T.b_isinstance (by decide +kernel) (pa_cons (pv 0) (pa_cons (pe_bltn (v := .ty "str") (by rfl) T.b_str (by decide +kernel) rfl) pa_nil))))) (pw_or1 (pt_not (pt_chain op_le op_le pe_int (pe_callB call_len_str (by rfl) T.b_len (by decide +kernel) (pa_cons (pv 0) pa_nil)) (pe_glob (v := .int 8) rfl hLONGEST_THING ⟨_, rfl⟩)))))) (pss_one (ps_ret pe_bl)) pss_nil)
      (pss_one (ps_ret (pe_callB (cr_all rfl) (by rfl) T.b_all (by decide +kernel) (pa_cons (pe_lc (own := [("sign", 1)]) (g := gName 1) (tt := tYes) rfl sc_is_thing.nd (pi_str (pv 0)) (blkOk_by (N := ["thing", "sign"]) (sc := defScope s_is_thing) (by decide +kernel)) (fun _ _ _ _ _ => (pg_name (i := 1) sc_is_thing.nd rfl (Or.inl rfl))) (fun _ _ _ _ _ => pts_nil) (fun _ _ _ _ _ => (pe_cmpR op_in_sign (pv 1) (pe_glob (v := .str "abcdefghijklmnopqrstuvwxyz") rfl hLETTERS ⟨_, rfl⟩) (by rfl)))) pa_nil))))), ?_⟩
    obtain ⟨x, rfl, ht, k⟩ := h
    refine ⟨_, rfl, .str x, .ty "str", .type "str", .type "str", true, rfl, ClsV.ty _, .base (.str x), kit_ty (by decide +kernel), true, rfl, iteF ?_⟩
    have hm := ht.most
    have hl := ht.least
    refine ⟨_, rfl, _, rfl, (by rw [sizeLine_eq]; omega), _, _, rfl, rfl, true, (congrArg V.bl (decide_eq_true (by omega))), iteT ?_⟩
    refine ⟨_, _, rfl, rfl, true, (congrArg V.bl (decide_eq_true (by omega))), iteF ?_⟩
    refine ⟨_, rfl, x, rfl, fun D hD => ?_⟩
    refine lc_it (x.cps.size) (fun i H' => H' = upd H D (.lst ((List.replicate i true).map V.bl))) rfl (fun i H' hi _ => hi) (fun H' _ => Nat.le_refl _) ?turn ?done
    case turn =>
      rintro i H' y H2 hi rfl ⟨rfl, c, hc, rfl⟩
      refine ⟨rfl, _, rfl, c, _, rfl, rfl, ?_⟩
      refine ⟨_, upd_same, ?_, ?_⟩
      · rw [List.length_map, List.length_replicate]
        have : x.length = x.cps.size := rfl
        exact small1000 (by omega)
      · have hc' : c ∈ x.cps.toList := List.mem_of_getElem? (by simpa using hc)
        rw [decide_eq_true (thing_letter ht.low c hc'), upd_upd, List.replicate_succ', List.map_append]
        rfl
    case done =>
      rintro H' rfl
      refine ⟨D, _, rfl, SqL.of upd_same, ?_⟩
      have e : (List.replicate x.cps.size true).all id = true := by
        rw [List.all_eq_true]
        intro b hb
        exact (List.mem_replicate.mp hb).2
      rw [e]
      refine k _ fun b o z => ?_
      rw [upd_ne (ne_of_none z hD)]
      exact z
def spWindow : Sp := fun vs H Q _ => ∃ (x : Str), vs = [.str x] ∧ IsWin x ∧ Q (.bl true) H
theorem ok_is_window (T : Txt K mg a) : Ok1 P w K mg base CX0 1 a.is_window ["thing"] (spWindow) := by
  obtain ⟨fd, F⟩ := T.f_is_window
  refine ⟨fd, F.ok sc_is_window (fun vs H Q E h => ?_) (fun cdv A outer s H vs Q E hr h => ?_), F.binds (ps := ["thing"]) fun _ _ _ _ _ _ us hl => match us, hl with | [_], _ => rfl, F.kp⟩
  · obtain ⟨x, rfl, _⟩ := h
    rfl
  · skip
    refine ⟨_, (pss_one (ps_ret (pe_and (pe_callB call_isi (by rfl) T.b_isinstance (by decide +kernel) (pa_cons (pv 0) (pa_cons (pe_bltn (v := .ty "str") (by rfl) T.b_str (by decide +kernel) rfl) pa_nil))) (pe_one (pe_cmpR op_in_seq (pv 0) (pe_glob (v := .ref a.WINDOWS) rfl T.WINDOWS rfl) (by rfl)))))), ?_⟩
    obtain ⟨x, rfl, hx, k⟩ := h
    refine ⟨_, rfl, .str x, .ty "str", .type "str", .type "str", true, rfl, ClsV.ty _, .base (.str x), kit_ty (by decide +kernel), true, rfl, iteT ?_⟩
    refine ⟨_, rfl, a.WINDOWS, _, rfl, .inr (T.windows H), rfl, rfl, ?_⟩
    have e : inV (V.str x) [V.str "near", V.str "far"] = true := by
      rcases hx with rfl | rfl <;> decide +kernel
    show Q (.bl (inV (V.str x) [V.str "near", V.str "far"])) H
    rw [e]
    exact k
def spDist : Sp := fun vs H Q _ => ∃ (i : Int), vs = [.int i] ∧ 1 ≤ i ∧ i ≤ 10 ^ 50 ∧ Q (.bl true) H
theorem ok_is_distance (T : Txt K mg a) : Ok1 P w K mg base CX0 2 a.is_distance ["thing"] (spDist) := by
  obtain ⟨fd, F⟩ := T.f_is_distance
  obtain ⟨fd_is_whole, G_is_whole, b_is_whole, kp_is_whole⟩ := ok_is_whole (P := P) (w := w) (base := base) T
  obtain ⟨_, hGREATEST_DISTANCE⟩ := T.GREATEST_DISTANCE
  refine ⟨fd, F.ok sc_is_distance (fun vs H Q E h => ?_) (fun cdv A outer s H vs Q E hr h => ?_), F.binds (ps := ["thing"]) fun _ _ _ _ _ _ us hl => match us, hl with | [_], _ => rfl, F.kp⟩
  · obtain ⟨i, rfl, _⟩ := h
    rfl
  · skip
    refine ⟨_, (pss_one (ps_ret (pe_and (pe_call G_is_whole (hr.mono (by decide)) rfl T.g_is_whole kp_is_whole b_is_whole .nil pass0 (pa_cons (pv 0) pa_nil)) (pe_one (pe_chain op_le op_le pe_int (pv 0) (pe_glob (v := .int (10 ^ 50)) rfl hGREATEST_DISTANCE ⟨_, rfl⟩)))))), ?_⟩
    obtain ⟨i, rfl, h1, h2, k⟩ := h
    refine ⟨_, rfl, i, rfl, true, rfl, iteT ?_⟩
    refine ⟨_, rfl, _, _, rfl, rfl, true, (congrArg V.bl (decide_eq_true h1)), iteT ?_⟩
    refine ⟨_, _, rfl, rfl, ?_⟩
    show Q (.bl (decide (i ≤ 10 ^ 50))) H
    rw [decide_eq_true h2]
    exact k
def spLength : Sp := fun vs H Q _ => ∃ (i m : Int), vs = [.int i, .int m] ∧ i ≠ 0 ∧ -m ≤ i ∧ i ≤ m ∧ Q (.bl true) H
theorem ok_is_length (T : Txt K mg a) : Ok1 P w K mg base CX0 2 a.is_length ["thing", "most"] (spLength) := by
  obtain ⟨fd, F⟩ := T.f_is_length
  obtain ⟨fd_is_whole, G_is_whole, b_is_whole, kp_is_whole⟩ := ok_is_whole (P := P) (w := w) (base := base) T
  refine ⟨fd, F.ok sc_is_length (fun vs H Q E h => ?_) (fun cdv A outer s H vs Q E hr h => ?_), F.binds (ps := ["thing", "most"]) fun _ _ _ _ _ _ us hl => match us, hl with | [_, _], _ => rfl, F.kp⟩
  · obtain ⟨i, m, rfl, _⟩ := h
    rfl
  · skip
    refine ⟨_, (pss_one (ps_ret (pe_and (pe_call G_is_whole (hr.mono (by decide)) rfl T.g_is_whole kp_is_whole b_is_whole .nil pass0 (pa_cons (pv 0) pa_nil)) (pe_and (pe_cmpR op_ne (pv 0) pe_int (nomark _)) (pe_one (pe_chain op_le op_le (pe_un un_neg (pv 1)) (pv 0) (pv 1))))))), ?_⟩
    obtain ⟨i, m, rfl, h0, h1, h2, k⟩ := h
    refine ⟨_, rfl, i, rfl, true, rfl, iteT ?_⟩
    refine ⟨_, rfl, rfl, true, ?_, iteT ?_⟩
    · rw [decide_eq_false (fun z => h0 (V.int.inj z))]
      rfl
    refine ⟨_, rfl, _, rfl, _, rfl, _, _, rfl, rfl, true, (congrArg V.bl (decide_eq_true h1)), iteT ?_⟩
    refine ⟨_, rfl, _, _, rfl, rfl, ?_⟩
    show Q (.bl (decide (i ≤ m))) H
    rw [decide_eq_true h2]
    exact k
end
end K76
set_option maxRecDepth 100000
set_option maxHeartbeats 4000000
namespace K76
open PySem L2
section
variable {P : Program} {w : World} {K : PySem.W.Frag} {mg : Str → Option Value} {base : Heap} {a : Ad}

/-! ## is_plain_deed, is_deed -/
def PD.word : PD → Str
  | .pull _ => "pull"
  | .peg _ _ => "peg"
  | .hang _ _ => "hang"
  | .fetch _ _ => "fetch"
  | .walk _ _ => "walk"
  | .take _ => "take"
  | .look _ => "look"
theorem PD.at0 (p : PD) : atI p.vs (0 : Int) = some (.str p.word) := by cases p <;> rfl
theorem PD.notNil (p : PD) : p.vs.isEmpty = false := by cases p <;> rfl
def spPDeed : Sp := fun vs H Q _ => ∃ (t : Addr) (th : List Str) (p : PD), vs = [.ref t] ∧ H t = some (.tup p.vs) ∧ p.ok th ∧ ∀ H', Same H H' → Q (.bl true) H' 
theorem ok_is_plain_deed (T : Txt K mg a) : Ok1 P w K mg base CX0 3 a.is_plain_deed ["thing"] (spPDeed) := by
  obtain ⟨fd, F⟩ := T.f_is_plain_deed
  obtain ⟨fd_is_length, G_is_length, b_is_length, kp_is_length⟩ := ok_is_length (P := P) (w := w) (base := base) T
  obtain ⟨fd_is_window, G_is_window, b_is_window, kp_is_window⟩ := ok_is_window (P := P) (w := w) (base := base) T
  obtain ⟨fd_is_thing, G_is_thing, b_is_thing, kp_is_thing⟩ := ok_is_thing (P := P) (w := w) (base := base) T
  obtain ⟨_, hGREATEST_PULL⟩ := T.GREATEST_PULL
  obtain ⟨_, hGREATEST_STEP⟩ := T.GREATEST_STEP
  refine ⟨fd, F.ok sc_is_plain_deed (fun vs H Q E h => ?_) (fun cdv A outer s H vs Q E hr h => ?_), F.binds (ps := ["thing"]) fun _ _ _ _ _ _ us hl => match us, hl with | [_], _ => rfl, F.kp⟩
  · obtain ⟨t, th, p, rfl, _⟩ := h
    rfl
  · skip
    refine ⟨_, (pss_cons (ps_if (PW.pt (pw_or (pt_not (pt_val (pe_callB call_isi (by rfl) T.b_isinstance (by decide +kernel) (pa_cons (pv 0) (pa_cons (pe_bltn (v := .ty "tuple") (by rfl) T.b_tuple (by decide +kernel) rfl) pa_nil))))) (pw_or (pt_cmpR (op_eqNilT hr.units0) (pv 0) (pe_tup pa_nil) (nomark _)) (pw_or1 (pt_not (pt_val (pe_callB call_isi (by rfl) T.b_isinstance (by decide +kernel) (pa_cons (pe_ix ix_tup (pv 0) pe_int (fun _ _ => rfl)) (pa_cons (pe_bltn (v := .ty "str") (by rfl) T.b_str (by decide +kernel) rfl) pa_nil))))))))) (pss_one (ps_ret pe_bl)) pss_nil)
      (pss_cons (ps_if (pt_cmpR op_eq (pe_ix ix_tup (pv 0) pe_int (fun _ _ => rfl)) pe_str (nomark _)) (pss_one (ps_ret (pe_and (pe_cmpR op_eq (pe_callB call_len_seq (by rfl) T.b_len (by decide +kernel) (pa_cons (pv 0) pa_nil)) pe_int (nomark _)) (pe_one (pe_call G_is_length (hr.mono (by decide)) rfl T.g_is_length kp_is_length b_is_length .nil pass0 (pa_cons (pe_ix ix_tup (pv 0) pe_int (fun _ _ => rfl)) (pa_cons (pe_glob (v := .int 40) rfl hGREATEST_PULL ⟨_, rfl⟩) pa_nil))))))) pss_nil)
      (pss_cons (ps_if (PW.pt (pw_or (pt_cmpR op_lt (pe_callB call_len_seq (by rfl) T.b_len (by decide +kernel) (pa_cons (pv 0) pa_nil)) pe_int (nomark _)) (pw_or1 (pt_not (pt_val (pe_call G_is_window (hr.mono (by decide)) rfl T.g_is_window kp_is_window b_is_window .nil pass0 (pa_cons (pe_ix ix_tup (pv 0) pe_int (fun _ _ => rfl)) pa_nil))))))) (pss_one (ps_ret pe_bl)) pss_nil)
      (pss_cons (ps_if (pt_cmpR op_in_seq (pe_ix ix_tup (pv 0) pe_int (fun _ _ => rfl)) (pe_tup (pa_cons pe_str (pa_cons pe_str pa_nil))) (by rfl)) (pss_one (ps_ret (pe_cmpR op_eq (pe_callB call_len_seq (by rfl) T.b_len (by decide +kernel) (pa_cons (pv 0) pa_nil)) pe_int (nomark _)))) pss_nil)
      (pss_cons (ps_if (pt_cmpR op_in_seq (pe_ix ix_tup (pv 0) pe_int (fun _ _ => rfl)) (pe_tup (pa_cons pe_str (pa_cons pe_str (pa_cons pe_str pa_nil)))) (by rfl)) (pss_one (ps_ret (pe_and (pe_cmpR op_eq (pe_callB call_len_seq (by rfl) T.b_len (by decide +kernel) (pa_cons (pv 0) pa_nil)) pe_int (nomark _)) (pe_one (pe_call G_is_thing (hr.mono (by decide)) rfl T.g_is_thing kp_is_thing b_is_thing .nil pass0 (pa_cons (pe_ix ix_tup (pv 0) pe_int (fun _ _ => rfl)) pa_nil)))))) pss_nil)
      (pss_one (ps_ret (pe_and (pe_cmpR op_eq (pe_ix ix_tup (pv 0) pe_int (fun _ _ => rfl)) pe_str (nomark _)) (pe_and (pe_cmpR op_eq (pe_callB call_len_seq (by rfl) T.b_len (by decide +kernel) (pa_cons (pv 0) pa_nil)) pe_int (nomark _)) (pe_one (pe_call G_is_length (hr.mono (by decide)) rfl T.g_is_length kp_is_length b_is_length .nil pass0 (pa_cons (pe_ix ix_tup (pv 0) pe_int (fun _ _ => rfl)) (pa_cons (pe_glob (v := .int 6) rfl hGREATEST_STEP ⟨_, rfl⟩) pa_nil))))))))))))), ?_⟩
    obtain ⟨t, th, p, rfl, ht, ok, k⟩ := h
    refine ⟨_, rfl, .ref t, .ty "tuple", .type "tuple", .type "tuple", true, rfl, ClsV.ty _, .base (.tup ht), kit_ty (by decide +kernel), true, rfl, iteF ?_⟩
    refine ⟨_, rfl, (by show 0 ≤ sizeLine; decide), fun p1 hp1 => ?_⟩
    have s1 : Same H (upd H p1 (.tup [])) := fun b o z => by rw [upd_ne (ne_of_none z hp1)]; exact z
    have ht1 := s1 _ _ ht
    refine ⟨t, p1, _, rfl, rfl, SqT.of ht1, SqT.of upd_same, _, rfl, noF p.notNil ?_⟩
    refine ⟨_, rfl, t, _, _, _, rfl, rfl, SqT.of ht1, PD.at0 p, .str p.word, .ty "str", .type "str", .type "str", true, rfl, ClsV.ty _, .base (.str _), kit_ty (by decide +kernel), true, rfl, iteF ?_⟩
    cases p with
    | pull n =>
      refine ⟨_, rfl, t, _, _, _, rfl, rfl, SqT.of ht1, rfl, rfl, _, rfl, yesT (by decide +kernel) ?_⟩
      obtain ⟨o0, o1, o2⟩ := ok
      refine ⟨_, rfl, t, _, rfl, .inr (SqT.of ht1), rfl, true, rfl, iteT ?_⟩
      exact ⟨_, rfl, t, _, _, _, rfl, rfl, SqT.of ht1, rfl, _, 40, rfl, o0, o1, o2, k _ s1⟩
    | peg x y =>
      refine ⟨_, rfl, t, _, _, _, rfl, rfl, SqT.of ht1, rfl, rfl, _, rfl, noF (by decide +kernel) ?_⟩
      refine ⟨_, rfl, t, _, rfl, .inr (SqT.of ht1), _, _, rfl, rfl, _, rfl, noF (decide_eq_false (by show ¬ (3 : Int) < 2; decide)) ?_⟩
      refine ⟨_, rfl, t, _, _, _, rfl, rfl, SqT.of ht1, rfl, _, rfl, ok.1, true, rfl, iteF ?_⟩
      refine ⟨_, rfl, t, _, _, _, rfl, rfl, SqT.of ht1, rfl, (by show 2 ≤ sizeLine; decide), fun p2 hp2 => ?_⟩
      have s2 : Same H (upd (upd H p1 (.tup [])) p2 (.tup [.str "take", .str "look"])) := fun b o z => by rw [upd_ne (ne_of_none (s1 b o z) hp2)]; exact s1 b o z
      have ht2 := s2 _ _ ht
      refine ⟨p2, _, rfl, .inr (SqT.of upd_same), rfl, rfl, _, rfl, noF (by decide +kernel) ?_⟩
      refine ⟨_, rfl, t, _, _, _, rfl, rfl, SqT.of ht2, rfl, (by show 3 ≤ sizeLine; decide), fun p3 hp3 => ?_⟩
      have s3 : Same H (upd (upd (upd H p1 (.tup [])) p2 (.tup [.str "take", .str "look"])) p3 (.tup [.str "peg", .str "hang", .str "fetch"])) := fun b o z => by rw [upd_ne (ne_of_none (s2 b o z) hp3)]; exact s2 b o z
      have ht3 := s3 _ _ ht
      refine ⟨p3, _, rfl, .inr (SqT.of upd_same), rfl, rfl, _, rfl, yesT (by decide +kernel) ?_⟩
      refine ⟨_, rfl, t, _, rfl, .inr (SqT.of ht3), rfl, true, rfl, iteT ?_⟩
      exact ⟨_, rfl, t, _, _, _, rfl, rfl, SqT.of ht3, rfl, _, rfl, ok.2.1, fun H4 s4 => k _ (s3.trans s4)⟩
    | hang x y =>
      refine ⟨_, rfl, t, _, _, _, rfl, rfl, SqT.of ht1, rfl, rfl, _, rfl, noF (by decide +kernel) ?_⟩
      refine ⟨_, rfl, t, _, rfl, .inr (SqT.of ht1), _, _, rfl, rfl, _, rfl, noF (decide_eq_false (by show ¬ (3 : Int) < 2; decide)) ?_⟩
      refine ⟨_, rfl, t, _, _, _, rfl, rfl, SqT.of ht1, rfl, _, rfl, ok.1, true, rfl, iteF ?_⟩
      refine ⟨_, rfl, t, _, _, _, rfl, rfl, SqT.of ht1, rfl, (by show 2 ≤ sizeLine; decide), fun p2 hp2 => ?_⟩
      have s2 : Same H (upd (upd H p1 (.tup [])) p2 (.tup [.str "take", .str "look"])) := fun b o z => by rw [upd_ne (ne_of_none (s1 b o z) hp2)]; exact s1 b o z
      have ht2 := s2 _ _ ht
      refine ⟨p2, _, rfl, .inr (SqT.of upd_same), rfl, rfl, _, rfl, noF (by decide +kernel) ?_⟩
      refine ⟨_, rfl, t, _, _, _, rfl, rfl, SqT.of ht2, rfl, (by show 3 ≤ sizeLine; decide), fun p3 hp3 => ?_⟩
      have s3 : Same H (upd (upd (upd H p1 (.tup [])) p2 (.tup [.str "take", .str "look"])) p3 (.tup [.str "peg", .str "hang", .str "fetch"])) := fun b o z => by rw [upd_ne (ne_of_none (s2 b o z) hp3)]; exact s2 b o z
      have ht3 := s3 _ _ ht
      refine ⟨p3, _, rfl, .inr (SqT.of upd_same), rfl, rfl, _, rfl, yesT (by decide +kernel) ?_⟩
      refine ⟨_, rfl, t, _, rfl, .inr (SqT.of ht3), rfl, true, rfl, iteT ?_⟩
      exact ⟨_, rfl, t, _, _, _, rfl, rfl, SqT.of ht3, rfl, _, rfl, ok.2.1, fun H4 s4 => k _ (s3.trans s4)⟩
    | fetch x y =>
      refine ⟨_, rfl, t, _, _, _, rfl, rfl, SqT.of ht1, rfl, rfl, _, rfl, noF (by decide +kernel) ?_⟩
      refine ⟨_, rfl, t, _, rfl, .inr (SqT.of ht1), _, _, rfl, rfl, _, rfl, noF (decide_eq_false (by show ¬ (3 : Int) < 2; decide)) ?_⟩
      refine ⟨_, rfl, t, _, _, _, rfl, rfl, SqT.of ht1, rfl, _, rfl, ok.1, true, rfl, iteF ?_⟩
      refine ⟨_, rfl, t, _, _, _, rfl, rfl, SqT.of ht1, rfl, (by show 2 ≤ sizeLine; decide), fun p2 hp2 => ?_⟩
      have s2 : Same H (upd (upd H p1 (.tup [])) p2 (.tup [.str "take", .str "look"])) := fun b o z => by rw [upd_ne (ne_of_none (s1 b o z) hp2)]; exact s1 b o z
      have ht2 := s2 _ _ ht
      refine ⟨p2, _, rfl, .inr (SqT.of upd_same), rfl, rfl, _, rfl, noF (by decide +kernel) ?_⟩
      refine ⟨_, rfl, t, _, _, _, rfl, rfl, SqT.of ht2, rfl, (by show 3 ≤ sizeLine; decide), fun p3 hp3 => ?_⟩
      have s3 : Same H (upd (upd (upd H p1 (.tup [])) p2 (.tup [.str "take", .str "look"])) p3 (.tup [.str "peg", .str "hang", .str "fetch"])) := fun b o z => by rw [upd_ne (ne_of_none (s2 b o z) hp3)]; exact s2 b o z
      have ht3 := s3 _ _ ht
      refine ⟨p3, _, rfl, .inr (SqT.of upd_same), rfl, rfl, _, rfl, yesT (by decide +kernel) ?_⟩
      refine ⟨_, rfl, t, _, rfl, .inr (SqT.of ht3), rfl, true, rfl, iteT ?_⟩
      exact ⟨_, rfl, t, _, _, _, rfl, rfl, SqT.of ht3, rfl, _, rfl, ok.2.1, fun H4 s4 => k _ (s3.trans s4)⟩
    | walk x st =>
      refine ⟨_, rfl, t, _, _, _, rfl, rfl, SqT.of ht1, rfl, rfl, _, rfl, noF (by decide +kernel) ?_⟩
      refine ⟨_, rfl, t, _, rfl, .inr (SqT.of ht1), _, _, rfl, rfl, _, rfl, noF (decide_eq_false (by show ¬ (3 : Int) < 2; decide)) ?_⟩
      refine ⟨_, rfl, t, _, _, _, rfl, rfl, SqT.of ht1, rfl, _, rfl, ok.1, true, rfl, iteF ?_⟩
      refine ⟨_, rfl, t, _, _, _, rfl, rfl, SqT.of ht1, rfl, (by show 2 ≤ sizeLine; decide), fun p2 hp2 => ?_⟩
      have s2 : Same H (upd (upd H p1 (.tup [])) p2 (.tup [.str "take", .str "look"])) := fun b o z => by rw [upd_ne (ne_of_none (s1 b o z) hp2)]; exact s1 b o z
      have ht2 := s2 _ _ ht
      refine ⟨p2, _, rfl, .inr (SqT.of upd_same), rfl, rfl, _, rfl, noF (by decide +kernel) ?_⟩
      refine ⟨_, rfl, t, _, _, _, rfl, rfl, SqT.of ht2, rfl, (by show 3 ≤ sizeLine; decide), fun p3 hp3 => ?_⟩
      have s3 : Same H (upd (upd (upd H p1 (.tup [])) p2 (.tup [.str "take", .str "look"])) p3 (.tup [.str "peg", .str "hang", .str "fetch"])) := fun b o z => by rw [upd_ne (ne_of_none (s2 b o z) hp3)]; exact s2 b o z
      have ht3 := s3 _ _ ht
      refine ⟨p3, _, rfl, .inr (SqT.of upd_same), rfl, rfl, _, rfl, noF (by decide +kernel) ?_⟩
      refine ⟨_, rfl, t, _, _, _, rfl, rfl, SqT.of ht3, rfl, rfl, true, rfl, iteT ?_⟩
      refine ⟨_, rfl, t, _, rfl, .inr (SqT.of ht3), rfl, true, rfl, iteT ?_⟩
      obtain ⟨_, o0, o1, o2⟩ := ok
      exact ⟨_, rfl, t, _, _, _, rfl, rfl, SqT.of ht3, rfl, _, 6, rfl, o0, o1, o2, k _ s3⟩
    | take x =>
      refine ⟨_, rfl, t, _, _, _, rfl, rfl, SqT.of ht1, rfl, rfl, _, rfl, noF (by decide +kernel) ?_⟩
      refine ⟨_, rfl, t, _, rfl, .inr (SqT.of ht1), _, _, rfl, rfl, _, rfl, noF (decide_eq_false (by show ¬ (2 : Int) < 2; decide)) ?_⟩
      refine ⟨_, rfl, t, _, _, _, rfl, rfl, SqT.of ht1, rfl, _, rfl, ok, true, rfl, iteF ?_⟩
      refine ⟨_, rfl, t, _, _, _, rfl, rfl, SqT.of ht1, rfl, (by show 2 ≤ sizeLine; decide), fun p2 hp2 => ?_⟩
      have s2 : Same H (upd (upd H p1 (.tup [])) p2 (.tup [.str "take", .str "look"])) := fun b o z => by rw [upd_ne (ne_of_none (s1 b o z) hp2)]; exact s1 b o z
      have ht2 := s2 _ _ ht
      refine ⟨p2, _, rfl, .inr (SqT.of upd_same), rfl, rfl, _, rfl, yesT (by decide +kernel) ?_⟩
      exact ⟨_, rfl, t, _, rfl, .inr (SqT.of ht2), rfl, k _ s2⟩
    | look x =>
      refine ⟨_, rfl, t, _, _, _, rfl, rfl, SqT.of ht1, rfl, rfl, _, rfl, noF (by decide +kernel) ?_⟩
      refine ⟨_, rfl, t, _, rfl, .inr (SqT.of ht1), _, _, rfl, rfl, _, rfl, noF (decide_eq_false (by show ¬ (2 : Int) < 2; decide)) ?_⟩
      refine ⟨_, rfl, t, _, _, _, rfl, rfl, SqT.of ht1, rfl, _, rfl, ok, true, rfl, iteF ?_⟩
      refine ⟨_, rfl, t, _, _, _, rfl, rfl, SqT.of ht1, rfl, (by show 2 ≤ sizeLine; decide), fun p2 hp2 => ?_⟩
      have s2 : Same H (upd (upd H p1 (.tup [])) p2 (.tup [.str "take", .str "look"])) := fun b o z => by rw [upd_ne (ne_of_none (s1 b o z) hp2)]; exact s1 b o z
      have ht2 := s2 _ _ ht
      refine ⟨p2, _, rfl, .inr (SqT.of upd_same), rfl, rfl, _, rfl, yesT (by decide +kernel) ?_⟩
      exact ⟨_, rfl, t, _, rfl, .inr (SqT.of ht2), rfl, k _ s2⟩
def spDeed : Sp := fun vs H Q _ => ∃ (t : Addr) (th : List Str) (D : DD), vs = [.ref t] ∧ DeedAt H t D ∧ D.ok th ∧ ∀ H', Same H H' → Q (.bl true) H' 
theorem ok_is_deed (T : Txt K mg a) : Ok1 P w K mg base CX0 4 a.is_deed ["thing"] (spDeed) := by
  obtain ⟨fd, F⟩ := T.f_is_deed
  obtain ⟨fd_is_plain_deed, G_is_plain_deed, b_is_plain_deed, kp_is_plain_deed⟩ := ok_is_plain_deed (P := P) (w := w) (base := base) T
  obtain ⟨fd_is_thing, G_is_thing, b_is_thing, kp_is_thing⟩ := ok_is_thing (P := P) (w := w) (base := base) T
  obtain ⟨fd_is_window, G_is_window, b_is_window, kp_is_window⟩ := ok_is_window (P := P) (w := w) (base := base) T
  refine ⟨fd, F.ok sc_is_deed (fun vs H Q E h => ?_) (fun cdv A outer s H vs Q E hr h => ?_), F.binds (ps := ["thing"]) fun _ _ _ _ _ _ us hl => match us, hl with | [_], _ => rfl, F.kp⟩
  · obtain ⟨t, th, D, rfl, _⟩ := h
    rfl
  · skip
    refine ⟨_, (pss_cons (ps_if (PW.pt (pw_or (pt_not (pt_val (pe_callB call_isi (by rfl) T.b_isinstance (by decide +kernel) (pa_cons (pv 0) (pa_cons (pe_bltn (v := .ty "tuple") (by rfl) T.b_tuple (by decide +kernel) rfl) pa_nil))))) (pw_or (pt_cmpR op_ne (pe_callB call_len_seq (by rfl) T.b_len (by decide +kernel) (pa_cons (pv 0) pa_nil)) pe_int (nomark _)) (pw_or (pt_not (pt_val (pe_callB call_isi (by rfl) T.b_isinstance (by decide +kernel) (pa_cons (pe_ix ix_tup (pv 0) pe_int (fun _ _ => rfl)) (pa_cons (pe_bltn (v := .ty "str") (by rfl) T.b_str (by decide +kernel) rfl) pa_nil))))) (pw_or1 (pt_cmpR op_ne (pe_ix ix_tup (pv 0) pe_int (fun _ _ => rfl)) pe_str (nomark _))))))) (pss_one (ps_ret (pe_call G_is_plain_deed (hr.mono (by decide)) rfl T.g_is_plain_deed kp_is_plain_deed b_is_plain_deed .nil pass0 (pa_cons (pv 0) pa_nil)))) pss_nil)
      (pss_one (ps_ret (pe_and (pe_call G_is_window (hr.mono (by decide)) rfl T.g_is_window kp_is_window b_is_window .nil pass0 (pa_cons (pe_ix ix_tup (pv 0) pe_int (fun _ _ => rfl)) pa_nil)) (pe_and (pe_or (pe_cmp (pc_isN (pe_ix ix_tup (pv 0) pe_int (fun _ _ => rfl))) rfl) (pe_one (pe_call G_is_thing (hr.mono (by decide)) rfl T.g_is_thing kp_is_thing b_is_thing .nil pass0 (pa_cons (pe_ix ix_tup (pv 0) pe_int (fun _ _ => rfl)) pa_nil)))) (pe_one (pe_call G_is_plain_deed (hr.mono (by decide)) rfl T.g_is_plain_deed kp_is_plain_deed b_is_plain_deed .nil pass0 (pa_cons (pe_ix ix_tup (pv 0) pe_int (fun _ _ => rfl)) pa_nil)))))))), ?_⟩
    obtain ⟨t, th, D, rfl, ht, ok, k⟩ := h
    rcases D with p | ⟨x, o, p⟩
    · have ht : H t = some (.tup p.vs) := ht
      have hl : (!decide (V.int (p.vs.length : Int) = V.int 4)) = true := by cases p <;> rfl
      refine ⟨_, rfl, .ref t, .ty "tuple", .type "tuple", .type "tuple", true, rfl, ClsV.ty _, .base (.tup ht), kit_ty (by decide +kernel), true, rfl, iteF ?_⟩
      refine ⟨_, rfl, t, _, rfl, .inr (SqT.of ht), rfl, _, rfl, yesT hl ?_⟩
      exact ⟨_, rfl, t, th, p, rfl, ht, ok, k⟩
    · obtain ⟨u, ht, hu⟩ := ht
      obtain ⟨ok1, ok2, ok3⟩ := ok
      refine ⟨_, rfl, .ref t, .ty "tuple", .type "tuple", .type "tuple", true, rfl, ClsV.ty _, .base (.tup ht), kit_ty (by decide +kernel), true, rfl, iteF ?_⟩
      refine ⟨_, rfl, t, _, rfl, .inr (SqT.of ht), rfl, _, rfl, noF rfl ?_⟩
      refine ⟨_, rfl, t, _, _, _, rfl, rfl, SqT.of ht, rfl, .str "when", .ty "str", .type "str", .type "str", true, rfl, ClsV.ty _, .base (.str _), kit_ty (by decide +kernel), true, rfl, iteF ?_⟩
      refine ⟨_, rfl, t, _, _, _, rfl, rfl, SqT.of ht, rfl, rfl, _, rfl, noF (by decide +kernel) ?_⟩
      refine ⟨_, rfl, t, _, _, _, rfl, rfl, SqT.of ht, rfl, _, rfl, ok1, true, rfl, iteT ?_⟩
      refine ⟨_, rfl, t, _, _, _, rfl, rfl, SqT.of ht, rfl, _, rfl, ?_⟩
      cases o with
      | none =>
        refine yesT (by decide +kernel) ?_
        refine ⟨_, rfl, iteT ?_⟩
        exact ⟨_, rfl, t, _, _, _, rfl, rfl, SqT.of ht, rfl, u, th, p, rfl, hu, ok3, k⟩
      | some z =>
        refine noF (decide_eq_false (by intro q; cases q)) ?_
        refine ⟨_, rfl, t, _, _, _, rfl, rfl, SqT.of ht, rfl, z, rfl, (ok2 z rfl).1, fun H1 s1 => ?_⟩
        have ht1 := s1 _ _ ht
        refine ⟨_, rfl, iteT ?_⟩
        exact ⟨_, rfl, t, _, _, _, rfl, rfl, SqT.of ht1, rfl, u, th, p, rfl, s1 _ _ hu, ok3, fun H2 s2 => k _ (s1.trans s2)⟩
def spWInit (C : Addr) : Sp := fun vs H Q _ => ∃ (W dx : Addr) (h : Int), vs = [.ref W, .int h] ∧ H W = some (.ins C dx []) ∧
  ∀ d H', H d = none → WorkAt C H' W d ⟨h, 0, [], 0⟩ → But [W] H H' → Q .non H'
theorem ok_LineWork_init (T : Txt K mg a) : Ok1 P w K mg base CX0 1 a.LineWork_init ["self", "length"] (spWInit a.cLineWork) := by
  obtain ⟨fd, F⟩ := T.f_LineWork_init
  refine ⟨fd, F.ok sc_LineWork_init (fun vs H Q E h => ?_) (fun cdv A outer s H vs Q E hr h => ?_), F.binds (ps := ["self", "length"]) fun _ _ _ _ _ _ us hl => match us, hl with | [_, _], _ => rfl, F.kp⟩
  · obtain ⟨W, dx, h, rfl, _⟩ := h
    rfl
  · skip
    refine ⟨_, (pss_cons (ps_fld (pv 0) (pv 1) rfl)
      (pss_cons (ps_fld (pv 0) pe_int rfl)
      (pss_cons (ps_fld (pv 0) pe_dnewK rfl)
      (pss_one (ps_fld (pv 0) pe_int rfl))))), ?_⟩
    obtain ⟨W, dx, n, rfl, hW, k⟩ := h
    refine ⟨_, rfl, _, rfl, W, _, dx, _, rfl, hW, T.c_LineWork, T.n_LineWork_half, (by show 0 < 1000; decide), ?_⟩
    refine ⟨_, rfl, W, _, dx, _, rfl, upd_same, T.c_LineWork, T.n_LineWork_stand, (by show 1 < 1000; decide), ?_⟩
    intro d hd
    have nWd : W ≠ d := ne_of_none upd_same hd
    have hd0 : H d = none := by
      rw [upd_ne nWd.symm, upd_ne nWd.symm] at hd
      exact hd
    refine ⟨_, rfl, W, _, dx, _, rfl, (by rw [upd_ne nWd]; exact upd_same), T.c_LineWork, T.n_LineWork_hung, ?_, ?_⟩
    · exact Nat.lt_of_le_of_lt (Nat.le_of_eq (by kernel_rfl : (putF "stand" (.int 0) (putF "half" (.int n) [])).length = 2)) (by decide)
    refine ⟨_, rfl, W, _, dx, _, rfl, upd_same, T.c_LineWork, T.n_LineWork_lengths, ?_, ?_⟩
    · exact Nat.lt_of_le_of_lt (Nat.le_of_eq (by kernel_rfl : (putF "hung" (.ref d) (putF "stand" (.int 0) (putF "half" (.int n) []))).length = 3)) (by decide)
    rw [wfl_init]
    refine k d _ hd0 ⟨⟨dx, upd_same⟩, ?_⟩ fun b o z hb => ?_
    · rw [upd_ne nWd.symm, upd_ne nWd.symm, upd_same]
      rfl
    · by_cases c : b = W
      · obtain ⟨xs, rfl⟩ := hb (by rw [c]; simp)
        rw [c, hW] at z
        cases z
      · rw [upd_ne c, upd_ne c, upd_ne (ne_of_none z hd0), upd_ne c, upd_ne c]
        exact z
end
end K76
set_option maxRecDepth 100000
set_option maxHeartbeats 4000000
namespace K76
open PySem L2
section
variable {P : Program} {w : World} {K : PySem.W.Frag} {mg : Str → Option Value} {base : Heap} {a : Ad}

/-! ## A line on the heap -/
def lfl (h : Int) (W t e m : Addr) : List (Str × V) := [("length", .int h), ("work", .ref W), ("done", .ref t), ("earlier", .ref e), ("marks", .ref m)]
section
variable {h y : Int} {W t e m z : Addr}

theorem lfl_length : (lfl h W t e m).lookup ("length" : Str) = some (.int h) := by kernel_rfl
theorem lfl_work : (lfl h W t e m).lookup ("work" : Str) = some (.ref W) := by kernel_rfl
theorem lfl_done : (lfl h W t e m).lookup ("done" : Str) = some (.ref t) := by kernel_rfl
theorem lfl_earlier : (lfl h W t e m).lookup ("earlier" : Str) = some (.ref e) := by kernel_rfl
theorem lfl_marks : (lfl h W t e m).lookup ("marks" : Str) = some (.ref m) := by kernel_rfl
theorem lfl_put_done : putF "done" (.ref z) (lfl h W t e m) = lfl h W z e m := by kernel_rfl
theorem lfl_put_marks : putF "marks" (.ref z) (lfl h W t e m) = lfl h W t e z := by kernel_rfl
theorem lfl_init : putF "marks" (.ref m) (putF "earlier" (.ref e) (putF "done" (.ref t) (putF "work" (.ref W) (putF "length" (.int h) [])))) = lfl h W t e m := by kernel_rfl
theorem lfl_2 : (putF "work" (.ref W) (putF "length" (.int h) [])).length = 2 := by kernel_rfl
theorem lfl_3 : (putF "done" (.ref t) (putF "work" (.ref W) (putF "length" (.int h) []))).length = 3 := by kernel_rfl
theorem lfl_4 : (putF "earlier" (.ref e) (putF "done" (.ref t) (putF "work" (.ref W) (putF "length" (.int h) [])))).length = 4 := by kernel_rfl
theorem lfl_len : (lfl h W t e m).length < 1000 := by show 5 < 1000; decide
theorem lfl_m_remember : (lfl h W t e m).lookup ("remember" : Str) = none := by kernel_rfl
theorem lfl_m_do : (lfl h W t e m).lookup ("do" : Str) = none := by kernel_rfl
theorem lfl_m_do_plan : (lfl h W t e m).lookup ("do_plan" : Str) = none := by kernel_rfl
theorem lfl_m_undo : (lfl h W t e m).lookup ("undo" : Str) = none := by kernel_rfl
theorem lfl_m_mark : (lfl h W t e m).lookup ("mark" : Str) = none := by kernel_rfl
theorem lfl_m_back_to : (lfl h W t e m).lookup ("back_to" : Str) = none := by kernel_rfl
theorem lfl_m_things : (lfl h W t e m).lookup ("things" : Str) = none := by kernel_rfl
theorem lfl_m_at : (lfl h W t e m).lookup ("at" : Str) = none := by kernel_rfl
end
theorem few {n k : Nat} (h : n = k) (hk : k < 1000 := by decide) : n < 1000 := by omega
/-- where a line's things stand; rs: of each call that stands the record, the copy of the dict of things, the row of deeds -/
structure LA where
  L : Addr
  W : Addr
  t : Addr
  e : Addr
  m : Addr
  d : Addr
  rs : List (Addr × Addr × Addr)
def LA.fp (A : LA) : List Addr := A.L :: A.W :: A.e :: A.m :: A.d :: A.rs.map (·.2.1)
structure RecAt (H : Hp) (r : Addr × Addr × Addr) (s : Sn) : Prop where
  rc : H r.1 = some (.tup [.int s.S.stand, .ref r.2.1, .int s.S.len, .ref r.2.2])
  dc : H r.2.1 = some (.dK (kvH s.S.hung))
  dn : ∃ ds, H r.2.2 = some (.tup ds) ∧ ds.length = s.n
def names3 : List Str := ["here", "there", "b"]
def kvM (ms : List (Str × Nat)) : List (Key × V) := ms.map fun p => (Sum.inr p.1, V.int (p.2 : Int))
def lkM (ms : List (Str × Nat)) (x : Str) : Option Nat := (ms.find? fun p => decide (p.1 = x)).map (·.2)
/-- the dict of marks: what it finds is f -/
def MarksAt (H : Hp) (m : Addr) (f : Str → Option Nat) : Prop := ∃ ms : List (Str × Nat), H m = some (.dK (kvM ms)) ∧ (ms.map (·.1)).Nodup ∧ (∀ p ∈ ms, p.1 ∈ names3) ∧ ∀ x, lkM ms x = f x
theorem kvM_length (ms : List (Str × Nat)) : (kvM ms).length = ms.length := List.length_map ..
theorem valV_kvM (x : Str) : ∀ ms : List (Str × Nat), valV (kvM ms) (Sum.inr x : Key) = (lkM ms x).map fun n => V.int (n : Int)
  | [] => rfl
  | p :: r => by
    show valV (((Sum.inr p.1 : Key), V.int (p.2 : Int)) :: kvM r) (Sum.inr x : Key) = _
    by_cases e : p.1 = x
    · rw [valV_pos (p := ((Sum.inr p.1 : Key), V.int (p.2 : Int))) (by rw [e])]
      unfold lkM
      rw [List.find?_cons_of_pos (by simpa using e)]
      rfl
    · rw [valV_neg (p := ((Sum.inr p.1 : Key), V.int (p.2 : Int))) (fun q => e (Sum.inr.inj q)), valV_kvM x r]
      unfold lkM
      rw [List.find?_cons_of_neg (by simpa using e)]
theorem few_names {ms : List (Str × Nat)} (h1 : (ms.map (·.1)).Nodup) (h2 : ∀ p ∈ ms, p.1 ∈ names3) : ms.length ≤ 3 := by
  have h := length_le_of_nodup h1 (m := names3) (fun x hx => by
    obtain ⟨p, hp, rfl⟩ := List.mem_map.mp hx
    exact h2 p hp)
  rw [List.length_map] at h
  exact h
/-- the line at A.L, of length h, behind the calls cs, with the marks f -/
structure LineAt (CL CW : Addr) (H : Hp) (A : LA) (h : Int) (cs : List Call) (f : Str → Option Nat) : Prop where
  ob : ∃ dx, H A.L = some (.ins CL dx (lfl h A.W A.t A.e A.m))
  wk : WorkAt CW H A.W A.d (behind h cs).S
  dn : ∃ ds, H A.t = some (.tup ds) ∧ ds.length = (behind h cs).n
  er : H A.e = some (.lst (A.rs.map fun r => V.ref r.1))
  ea : Paired (RecAt H) A.rs (aheads h cs)
  mks : MarksAt H A.m f
  nd : (A.d :: A.m :: A.rs.map (·.2.1)).Nodup
/-- the history's deeds are good ones -/
structure Hist (th : List Str) (h : Int) (cs : List Call) : Prop where
  h1 : 1 ≤ h
  h2 : h ≤ 10 ^ 50
  few : th.length ≤ 4
  calls : ∀ c ∈ cs, c.ok th
  most : cs.length ≤ 100
theorem good_runDs {th : List Str} : ∀ {ds : List DD} {S : WS}, Good th S → (∀ d ∈ ds, d.ok th) → Good th (runDs S ds).2
  | [], _, g, _ => g
  | d :: r, S, g, h => good_runDs (ds := r) (g.tell (h d List.mem_cons_self)) fun x hx => h x (List.mem_cons_of_mem _ hx)
theorem good_fold {th : List Str} : ∀ {cs : List Call} {s : Sn}, Good th s.S → (∀ c ∈ cs, c.ok th) → Good th (cs.foldl Sn.call s).S
  | [], _, g, _ => g
  | c :: r, s, g, h => good_fold (cs := r) (s := s.call c) (good_runDs g (h c List.mem_cons_self).1) fun x hx => h x (List.mem_cons_of_mem _ hx)
theorem Hist.good {th : List Str} {h : Int} {cs : List Call} (x : Hist th h cs) : Good th (behind h cs).S :=
  good_fold ⟨x.h1, x.few, List.nodup_nil, fun p hp => absurd hp (by simp [Sn.start]), List.nodup_nil, fun p hp => absurd hp (by simp [Sn.start])⟩ x.calls
theorem n_fold {th : List Str} : ∀ {cs : List Call} {s : Sn}, (∀ c ∈ cs, c.ok th) → (cs.foldl Sn.call s).n ≤ s.n + 5 * cs.length
  | [], _, _ => Nat.le_refl _
  | c :: r, s, h => by
    have ih := n_fold (cs := r) (s := s.call c) fun x hx => h x (List.mem_cons_of_mem _ hx)
    have h1 := (h c List.mem_cons_self).2.1
    show (r.foldl Sn.call (s.call c)).n ≤ _
    have : (s.call c).n = s.n + c.ds.length := rfl
    rw [List.length_cons]
    omega
theorem Hist.size {th : List Str} {h : Int} {cs : List Call} (x : Hist th h cs) : (behind h cs).n ≤ 500 := by
  have z := n_fold (s := Sn.start h) x.calls
  have := x.most
  show (cs.foldl Sn.call (Sn.start h)).n ≤ 500
  have : (Sn.start h).n = 0 := rfl
  omega
theorem Paired.len {α β : Type} {F : α → β → Prop} {l : List α} {m : List β} (h : Paired F l m) : l.length = m.length := Paired.length h
theorem Paired.snoc {α β : Type} {F : α → β → Prop} : ∀ {l : List α} {m : List β} {x : α} {y : β}, Paired F l m → F x y → Paired F (l ++ [x]) (m ++ [y])
  | _, _, _, _, .nil, h => .cons h .nil
  | _, _, _, _, .cons a b, h => .cons a (Paired.snoc b h)
theorem Paired.unsnoc {α β : Type} {F : α → β → Prop} : ∀ {l : List α} {m : List β} {y : β}, Paired F l (m ++ [y]) → ∃ l' x, l = l' ++ [x] ∧ Paired F l' m ∧ F x y
  | _, [], _, .cons a .nil => ⟨[], _, rfl, .nil, a⟩
  | _, b :: m, _, .cons a r => by
    obtain ⟨l', x, rfl, p, q⟩ := Paired.unsnoc (m := m) r
    exact ⟨_ :: l', x, rfl, .cons a p, q⟩
theorem Paired.mapH {α β : Type} {F G : α → β → Prop} : ∀ {l : List α} {m : List β}, Paired F l m → (∀ x ∈ l, ∀ y, F x y → G x y) → Paired G l m
  | _, _, .nil, _ => .nil
  | _, _, .cons a b, h => .cons (h _ List.mem_cons_self _ a) (Paired.mapH b fun x hx => h x (List.mem_cons_of_mem _ hx))
theorem RecAt.keep {H H' : Hp} {r : Addr × Addr × Addr} {s : Sn} (x : RecAt H r s) (ht : ∀ b xs, H b = some (.tup xs) → H' b = some (.tup xs)) (hd : H r.2.1 = some (.dK (kvH s.S.hung)) → H' r.2.1 = some (.dK (kvH s.S.hung))) : RecAt H' r s :=
  ⟨ht _ _ x.rc, hd x.dc, let ⟨ds, e, l⟩ := x.dn; ⟨ds, ht _ _ e, l⟩⟩
theorem MarksAt.keep {H H' : Hp} {m : Addr} {f : Str → Option Nat} (x : MarksAt H m f) (h : ∀ o, H m = some o → H' m = some o) : MarksAt H' m f :=
  let ⟨ms, e, r⟩ := x; ⟨ms, h _ e, r⟩
section
variable {CL CW : Addr} {H H' : Hp} {A : LA} {h : Int} {cs : List Call} {f : Str → Option Nat}
theorem ins_ne {C C' dx dx' : Addr} {fs : List (Str × V)} {h' st l : Int} {d W t e m : Addr} : HO.ins C dx (lfl h W t e m) ≠ HO.ins C' dx' (wfl h' st d l) := fun z => by
  injection z with _ _ z
  injection z with z _
  injection z with z _
  exact absurd z (by decide +kernel)
theorem LineAt.LW (x : LineAt CL CW H A h cs f) : A.L ≠ A.W := by
  obtain ⟨dx, e1⟩ := x.ob
  obtain ⟨dy, e2⟩ := x.wk.ob
  exact ne_of e1 e2 (ins_ne (fs := []))
/-- what is at fp is no tuple -/
theorem LineAt.noTup (x : LineAt CL CW H A h cs f) : ∀ b ∈ A.fp, ∃ o, H b = some o ∧ ∀ xs, o ≠ HO.tup xs := by
  intro b hb
  unfold LA.fp at hb
  simp only [List.mem_cons] at hb
  rcases hb with rfl | rfl | rfl | rfl | rfl | hb
  · obtain ⟨dx, e1⟩ := x.ob
    exact ⟨_, e1, fun xs z => by cases z⟩
  · obtain ⟨dx, e1⟩ := x.wk.ob
    exact ⟨_, e1, fun xs z => by cases z⟩
  · exact ⟨_, x.er, fun xs z => by cases z⟩
  · obtain ⟨ms, e, _⟩ := x.mks
    exact ⟨_, e, fun xs z => by cases z⟩
  · exact ⟨_, x.wk.dc, fun xs z => by cases z⟩
  · obtain ⟨r, hr, rfl⟩ := List.mem_map.mp hb
    have : ∀ {l : List (Addr × Addr × Addr)} {m : List Sn}, Paired (RecAt H) l m → r ∈ l → ∃ s, RecAt H r s := by
      intro l m p
      induction p with
      | nil => intro z; cases z
      | cons a b ih =>
        intro z
        rcases List.mem_cons.mp z with z | z
        · exact ⟨_, z ▸ a⟩
        · exact ih z
    obtain ⟨s, rs⟩ := this x.ea hr
    exact ⟨_, rs.dc, fun xs z => by cases z⟩
/-- a line stands where its own things stand -/
theorem LineAt.keep (x : LineAt CL CW H A h cs f) (hk : ∀ b ∈ A.fp, ∀ o, H b = some o → H' b = some o) (ht : ∀ b xs, H b = some (.tup xs) → H' b = some (.tup xs)) : LineAt CL CW H' A h cs f := by
  have m1 : A.L ∈ A.fp := by simp [LA.fp]
  have m2 : A.W ∈ A.fp := by simp [LA.fp]
  have m3 : A.e ∈ A.fp := by simp [LA.fp]
  have m4 : A.m ∈ A.fp := by simp [LA.fp]
  have m5 : A.d ∈ A.fp := by simp [LA.fp]
  refine ⟨?_, ⟨?_, hk _ m5 _ x.wk.dc⟩, ?_, hk _ m3 _ x.er, K76.Paired.mapH x.ea fun r hr s z => z.keep ht fun e => hk _ ?_ _ e, x.mks.keep fun o e => hk _ m4 _ e, x.nd⟩
  · obtain ⟨dx, e⟩ := x.ob
    exact ⟨dx, hk _ m1 _ e⟩
  · obtain ⟨dx, e⟩ := x.wk.ob
    exact ⟨dx, hk _ m2 _ e⟩
  · obtain ⟨ds, e, l⟩ := x.dn
    exact ⟨ds, ht _ _ e, l⟩
  · unfold LA.fp
    simp only [List.mem_cons]
    exact .inr (.inr (.inr (.inr (.inr (List.mem_map.mpr ⟨r, hr, rfl⟩)))))
theorem LineAt.same (x : LineAt CL CW H A h cs f) (s : Same H H') : LineAt CL CW H' A h cs f := x.keep (fun b _ o e => s b o e) fun b xs e => s b _ e
theorem LineAt.but {F : List Addr} (x : LineAt CL CW H A h cs f) (s : But F H H') (hn : ∀ b ∈ A.fp, b ∉ F) : LineAt CL CW H' A h cs f := x.keep (fun b hb o e => s.at (hn b hb) e) fun b xs e => s.tup e
end
/-- from A to A' the line alone is changed -/
structure Stp (A A' : LA) (H H' : Hp) : Prop where
  L : A'.L = A.L
  but : But A.fp H H'
  fresh : ∀ b ∈ A'.fp, b ∈ A.fp ∨ H b = none
theorem Stp.trans {A A1 A2 : LA} {H H1 H2 : Hp} (x : Stp A A1 H H1) (y : Stp A1 A2 H1 H2) : Stp A A2 H H2 :=
  ⟨y.L.trans x.L, x.but.trans y.but x.fresh, fun b hb => by
    rcases y.fresh b hb with z | z
    · exact x.fresh b z
    · by_cases c : b ∈ A.fp
      · exact .inl c
      · exact .inr (x.but.free z c)⟩
theorem Stp.same {A : LA} {H H' : Hp} (s : Same H H') : Stp A A H H' := ⟨rfl, But.same s, fun b hb => .inl hb⟩
theorem Stp.but' {A : LA} {H H' : Hp} (s : But A.fp H H') : Stp A A H H' := ⟨rfl, s, fun b hb => .inl hb⟩

end
end K76
set_option maxRecDepth 100000
set_option maxHeartbeats 4000000
namespace K76
open PySem L2
section
variable {P : Program} {w : World} {K : PySem.W.Frag} {mg : Str → Option Value} {base : Heap} {a : Ad}

/-! ## Line: made, read, marked -/
theorem WorkAt.setO {C W d p : Addr} {H : Hp} {S : WS} {o : HO} (w : WorkAt C H W d S) (h1 : W ≠ p) (h2 : d ≠ p) : WorkAt C (upd H p o) W d S :=
  ⟨let ⟨dx, e⟩ := w.ob; ⟨dx, by rw [upd_ne h1]; exact e⟩, by rw [upd_ne h2]; exact w.dc⟩
def spLInit (CL CW : Addr) : Sp := fun vs H Q _ => ∃ (L dx : Addr) (h : Int), vs = [.ref L, .int h] ∧ H L = some (.ins CL dx []) ∧ 1 ≤ h ∧ h ≤ 10 ^ 50 ∧
  ∀ (A : LA) H', A.L = L → LineAt CL CW H' A h [] (fun _ => none) → But [L] H H' → (∀ b ∈ A.fp, b = L ∨ H b = none) → Q .non H' 
theorem ok_Line_init (T : Txt K mg a) : Ok1 P w K mg base CX0 4 a.Line_init ["self", "distance"] (spLInit a.cLine a.cLineWork) := by
  obtain ⟨fd, F⟩ := T.f_Line_init
  obtain ⟨fd_is_distance, G_is_distance, b_is_distance, kp_is_distance⟩ := ok_is_distance (P := P) (w := w) (base := base) T
  obtain ⟨fd_LineWork_init, G_LineWork_init, b_LineWork_init, kp_LineWork_init⟩ := ok_LineWork_init (P := P) (w := w) (base := base) T
  refine ⟨fd, F.ok sc_Line_init (fun vs H Q E h => ?_) (fun cdv A outer s H vs Q E hr h => ?_), F.binds (ps := ["self", "distance"]) fun _ _ _ _ _ _ us hl => match us, hl with | [_, _], _ => rfl, F.kp⟩
  · obtain ⟨L, dx, h, rfl, _⟩ := h
    rfl
  · skip
    refine ⟨_, (pss_cons (ps_if (pt_not (pt_val (pe_call G_is_distance (hr.mono (by decide)) rfl T.g_is_distance kp_is_distance b_is_distance .nil pass0 (pa_cons (pv 1) pa_nil)))) (pss_one ps_never) pss_nil)
      (pss_cons (ps_fld (pv 0) (pv 1) rfl)
      (pss_cons (ps_fld (pv 0) (pe_make T.k_LineWork G_LineWork_init (hr.mono (by decide)) rfl T.g_LineWork b_LineWork_init .nil pass0 (pa_cons (pv 1) pa_nil)) rfl)
      (pss_cons (ps_fld (pv 0) (pe_tup pa_nil) rfl)
      (pss_cons (ps_fld (pv 0) (pe_lst pa_nil) rfl)
      (pss_one (ps_fld (pv 0) pe_dnewK rfl))))))), ?_⟩
    obtain ⟨L, dx, h, rfl, hL, h1, h2, k⟩ := h
    refine ⟨_, rfl, h, rfl, h1, h2, true, rfl, iteF ?_⟩
    refine ⟨_, rfl, _, rfl, L, _, dx, _, rfl, hL, T.c_Line, T.n_Line_length, (by show 0 < 1000; decide), ?_⟩
    refine ⟨_, rfl, ?_⟩
    intro W dxw nW ndx nne
    generalize hH1 : upd H L (HO.ins a.cLine dx (putF "length" (.int h) [])) = H1 at nW ndx ⊢
    have l1 : H1 L = some (.ins a.cLine dx (putF "length" (.int h) [])) := by rw [← hH1]; exact upd_same
    have b1 : But [L] H H1 := by rw [← hH1]; exact But.set (by simp) hL (by intro xs z; cases z)
    have LW : L ≠ W := ne_of_none l1 nW
    have Ldx : L ≠ dxw := ne_of_none l1 ndx
    have nW0 : H W = none := b1.free nW (by simp; exact fun z => LW z.symm)
    refine ⟨W, dxw, h, rfl, upd_same, fun d H2 hd w2 b2 => ⟨rfl, ?_⟩⟩
    have b2' : But [L] H H2 := by
      refine b1.trans (F1 := [W]) ?_ fun x hx => ?_
      · refine But.trans (F1 := [W]) (H1 := upd (upd H1 dxw (.own W)) W (.ins a.cLineWork dxw [])) ?_ b2 fun x hx => .inl hx
        refine But.trans (F1 := [W]) (H1 := upd H1 dxw (.own W)) (But.new ndx) (But.new ?_) fun x hx => .inl hx
        rw [upd_ne nne.symm]
        exact nW
      · rw [List.mem_singleton.mp hx]
        exact .inr nW0
    have nd1 : H1 d = none := by
      by_cases c : d = W
      · rw [c, upd_same] at hd; cases hd
      · rw [upd_ne c] at hd
        by_cases c2 : d = dxw
        · rw [c2, upd_same] at hd; cases hd
        · rw [upd_ne c2] at hd
          exact hd
    have Ld : L ≠ d := ne_of_none l1 nd1
    have nd0 : H d = none := b1.free nd1 (by simp; exact fun z => Ld z.symm)
    have l2 : H2 L = some (.ins a.cLine dx (putF "length" (.int h) [])) := b2.at (by simp; exact LW) (by rw [upd_ne LW, upd_ne Ldx]; exact l1)
    refine ⟨_, rfl, L, _, dx, _, rfl, l2, T.c_Line, T.n_Line_work, (by show 1 < 1000; decide), ?_⟩
    -- done
    refine ⟨(by show 0 ≤ sizeLine; decide), fun t nt => ?_⟩
    have w3 := w2.setO (p := L) (o := .ins a.cLine dx (putF "work" (.ref W) (putF "length" (.int h) []))) LW.symm Ld.symm
    have l3 : (upd H2 L (.ins a.cLine dx (putF "work" (.ref W) (putF "length" (.int h) [])))) L = some (.ins a.cLine dx (putF "work" (.ref W) (putF "length" (.int h) []))) := upd_same
    have b3 : But [L] H (upd H2 L (.ins a.cLine dx (putF "work" (.ref W) (putF "length" (.int h) [])))) := b2'.trans (But.set (F := [L]) (by simp) l2 (by intro xs z; cases z)) fun x hx => .inl hx
    generalize (upd H2 L (.ins a.cLine dx (putF "work" (.ref W) (putF "length" (.int h) [])))) = H3 at w3 l3 b3 nt ⊢
    have Lt : L ≠ t := ne_of_none l3 nt
    have nt0 : H t = none := b3.free nt (by simp; exact fun z => Lt z.symm)
    have Wt : W ≠ t := let ⟨dy, e⟩ := w3.ob; ne_of_none e nt
    have dt : d ≠ t := ne_of_none w3.dc nt
    refine ⟨_, rfl, L, _, dx, _, rfl, (by rw [upd_ne Lt]; exact l3), T.c_Line, T.n_Line_done, few lfl_2, ?_⟩
    have w4 := (w3.setO (p := t) (o := .tup []) Wt dt).setO (p := L) (o := .ins a.cLine dx (putF "done" (.ref t) (putF "work" (.ref W) (putF "length" (.int h) [])))) LW.symm Ld.symm
    have l4 : (upd (upd H3 t (.tup [])) L (.ins a.cLine dx (putF "done" (.ref t) (putF "work" (.ref W) (putF "length" (.int h) []))))) L = some (.ins a.cLine dx (putF "done" (.ref t) (putF "work" (.ref W) (putF "length" (.int h) [])))) := upd_same
    have t4 : (upd (upd H3 t (.tup [])) L (.ins a.cLine dx (putF "done" (.ref t) (putF "work" (.ref W) (putF "length" (.int h) []))))) t = some (.tup []) := by rw [upd_ne Lt.symm]; exact upd_same
    have b4 : But [L] H (upd (upd H3 t (.tup [])) L (.ins a.cLine dx (putF "done" (.ref t) (putF "work" (.ref W) (putF "length" (.int h) []))))) := by
      refine (b3.trans (F1 := [L]) (But.new nt) fun x hx => .inl hx).trans (But.set (F := [L]) (by simp) (by rw [upd_ne Lt]; exact l3) (by intro xs z; cases z)) fun x hx => .inl hx
    generalize (upd (upd H3 t (.tup [])) L (.ins a.cLine dx (putF "done" (.ref t) (putF "work" (.ref W) (putF "length" (.int h) []))))) = H4 at w4 l4 t4 b4 ⊢
    -- earlier
    refine ⟨(by show 0 ≤ sizeLine; decide), fun e ne => ?_⟩
    have Le : L ≠ e := ne_of_none l4 ne
    have ne0 : H e = none := b4.free ne (by simp; exact fun z => Le z.symm)
    have We : W ≠ e := let ⟨dy, q⟩ := w4.ob; ne_of_none q ne
    have de : d ≠ e := ne_of_none w4.dc ne
    have te : t ≠ e := ne_of_none t4 ne
    refine ⟨_, rfl, L, _, dx, _, rfl, (by rw [upd_ne Le]; exact l4), T.c_Line, T.n_Line_earlier, few lfl_3, ?_⟩
    have w5 := (w4.setO (p := e) (o := .lst []) We de).setO (p := L) (o := .ins a.cLine dx (putF "earlier" (.ref e) (putF "done" (.ref t) (putF "work" (.ref W) (putF "length" (.int h) []))))) LW.symm Ld.symm
    have l5 : (upd (upd H4 e (.lst [])) L (.ins a.cLine dx (putF "earlier" (.ref e) (putF "done" (.ref t) (putF "work" (.ref W) (putF "length" (.int h) [])))))) L = some (.ins a.cLine dx (putF "earlier" (.ref e) (putF "done" (.ref t) (putF "work" (.ref W) (putF "length" (.int h) []))))) := upd_same
    have t5 : (upd (upd H4 e (.lst [])) L (.ins a.cLine dx (putF "earlier" (.ref e) (putF "done" (.ref t) (putF "work" (.ref W) (putF "length" (.int h) [])))))) t = some (.tup []) := by rw [upd_ne Lt.symm, upd_ne te]; exact t4
    have e5 : (upd (upd H4 e (.lst [])) L (.ins a.cLine dx (putF "earlier" (.ref e) (putF "done" (.ref t) (putF "work" (.ref W) (putF "length" (.int h) [])))))) e = some (.lst []) := by rw [upd_ne Le.symm]; exact upd_same
    have b5 : But [L] H (upd (upd H4 e (.lst [])) L (.ins a.cLine dx (putF "earlier" (.ref e) (putF "done" (.ref t) (putF "work" (.ref W) (putF "length" (.int h) [])))))) := by
      refine (b4.trans (F1 := [L]) (But.new ne) fun x hx => .inl hx).trans (But.set (F := [L]) (by simp) (by rw [upd_ne Le]; exact l4) (by intro xs z; cases z)) fun x hx => .inl hx
    generalize (upd (upd H4 e (.lst [])) L (.ins a.cLine dx (putF "earlier" (.ref e) (putF "done" (.ref t) (putF "work" (.ref W) (putF "length" (.int h) [])))))) = H5 at w5 l5 t5 e5 b5 ⊢
    -- marks
    intro m nm
    have Lm : L ≠ m := ne_of_none l5 nm
    have nm0 : H m = none := b5.free nm (by simp; exact fun z => Lm z.symm)
    have Wm : W ≠ m := let ⟨dy, q⟩ := w5.ob; ne_of_none q nm
    have dm : d ≠ m := ne_of_none w5.dc nm
    have tm : t ≠ m := ne_of_none t5 nm
    have em : e ≠ m := ne_of_none e5 nm
    refine ⟨_, rfl, L, _, dx, _, rfl, (by rw [upd_ne Lm]; exact l5), T.c_Line, T.n_Line_marks, few lfl_4, ?_⟩
    rw [lfl_init]
    refine k ⟨L, W, t, e, m, d, []⟩ _ rfl ⟨⟨dx, upd_same⟩, (w5.setO Wm dm).setO LW.symm Ld.symm, ⟨[], ?_, rfl⟩, ?_, .nil, ⟨[], ?_, List.nodup_nil, fun p hp => (by cases hp), fun _ => rfl⟩, ?_⟩ ?_ ?_
    · rw [upd_ne Lt.symm, upd_ne tm]; exact t5
    · rw [upd_ne Le.symm, upd_ne em]; exact e5
    · rw [upd_ne Lm.symm]; exact upd_same
    · show [d, m].Nodup
      simp [dm]
    · refine (b5.trans (F1 := [L]) (But.new nm) fun x hx => .inl hx).trans (But.set (F := [L]) (by simp) (by rw [upd_ne Lm]; exact l5) (by intro xs z; cases z)) fun x hx => .inl hx
    · intro b hb
      simp only [LA.fp, List.map_nil, List.mem_cons, List.not_mem_nil, or_false] at hb
      rcases hb with rfl | rfl | rfl | rfl | rfl
      · exact .inl rfl
      · exact .inr nW0
      · exact .inr ne0
      · exact .inr nm0
      · exact .inr nd0
def sp_Line_distance (CL CW : Addr) : Sp := fun vs H Q _ => ∃ (A : LA) (h : Int) (cs : List Call) (f : Str → Option Nat), vs = [.ref A.L] ∧ LineAt CL CW H A h cs f ∧ Q (.int h) H
theorem ok_Line_distance (T : Txt K mg a) : Ok1 P w K mg base CX0 1 a.Line_distance ["self"] (sp_Line_distance a.cLine a.cLineWork) := by
  obtain ⟨fd, F⟩ := T.f_Line_distance
  refine ⟨fd, F.ok sc_Line_distance (fun vs H Q E h => ?_) (fun cdv A outer s H vs Q E hr h => ?_), F.binds (ps := ["self"]) fun _ _ _ _ _ _ us hl => match us, hl with | [_], _ => rfl, F.kp⟩
  · obtain ⟨A, h, cs, f, rfl, _⟩ := h
    rfl
  · skip
    refine ⟨_, (pss_one (ps_ret (pe_fld (pv 0) rfl))), ?_⟩
    obtain ⟨A, h, cs, f, rfl, x, k⟩ := h
    obtain ⟨dx, hL⟩ := x.ob
    obtain ⟨dy, hW⟩ := x.wk.ob
    exact ⟨_, rfl, A.L, _, dx, _, _, rfl, hL, T.c_Line, T.n_Line_length, lfl_length, k⟩
def sp_Line_turn (CL CW : Addr) : Sp := fun vs H Q _ => ∃ (A : LA) (h : Int) (cs : List Call) (f : Str → Option Nat), vs = [.ref A.L] ∧ LineAt CL CW H A h cs f ∧ Q (.int (behind h cs).S.stand) H
theorem ok_Line_turn (T : Txt K mg a) : Ok1 P w K mg base CX0 1 a.Line_turn ["self"] (sp_Line_turn a.cLine a.cLineWork) := by
  obtain ⟨fd, F⟩ := T.f_Line_turn
  refine ⟨fd, F.ok sc_Line_turn (fun vs H Q E h => ?_) (fun cdv A outer s H vs Q E hr h => ?_), F.binds (ps := ["self"]) fun _ _ _ _ _ _ us hl => match us, hl with | [_], _ => rfl, F.kp⟩
  · obtain ⟨A, h, cs, f, rfl, _⟩ := h
    rfl
  · skip
    refine ⟨_, (pss_one (ps_ret (pe_fld (pe_fld (pv 0) rfl) rfl))), ?_⟩
    obtain ⟨A, h, cs, f, rfl, x, k⟩ := h
    obtain ⟨dx, hL⟩ := x.ob
    obtain ⟨dy, hW⟩ := x.wk.ob
    exact ⟨_, rfl, A.L, _, dx, _, _, rfl, hL, T.c_Line, T.n_Line_work, lfl_work, A.W, _, dy, _, _, rfl, hW, T.c_LineWork, T.n_LineWork_stand, wfl_stand, k⟩
def sp_Line_pulled (CL CW : Addr) : Sp := fun vs H Q _ => ∃ (A : LA) (h : Int) (cs : List Call) (f : Str → Option Nat), vs = [.ref A.L] ∧ LineAt CL CW H A h cs f ∧ Q (.int (behind h cs).S.len) H
theorem ok_Line_pulled (T : Txt K mg a) : Ok1 P w K mg base CX0 1 a.Line_pulled ["self"] (sp_Line_pulled a.cLine a.cLineWork) := by
  obtain ⟨fd, F⟩ := T.f_Line_pulled
  refine ⟨fd, F.ok sc_Line_pulled (fun vs H Q E h => ?_) (fun cdv A outer s H vs Q E hr h => ?_), F.binds (ps := ["self"]) fun _ _ _ _ _ _ us hl => match us, hl with | [_], _ => rfl, F.kp⟩
  · obtain ⟨A, h, cs, f, rfl, _⟩ := h
    rfl
  · skip
    refine ⟨_, (pss_one (ps_ret (pe_fld (pe_fld (pv 0) rfl) rfl))), ?_⟩
    obtain ⟨A, h, cs, f, rfl, x, k⟩ := h
    obtain ⟨dx, hL⟩ := x.ob
    obtain ⟨dy, hW⟩ := x.wk.ob
    exact ⟨_, rfl, A.L, _, dx, _, _, rfl, hL, T.c_Line, T.n_Line_work, lfl_work, A.W, _, dy, _, _, rfl, hW, T.c_LineWork, T.n_LineWork_lengths, wfl_lengths, k⟩
def spLLen (CL CW : Addr) : Sp := fun vs H Q _ => ∃ (A : LA) (h : Int) (cs : List Call) (f : Str → Option Nat), vs = [.ref A.L] ∧ LineAt CL CW H A h cs f ∧ Q (.int ((behind h cs).n : Int)) H
theorem ok_Line_len (T : Txt K mg a) : Ok1 P w K mg base CX0 1 a.Line_len ["self"] (spLLen a.cLine a.cLineWork) := by
  obtain ⟨fd, F⟩ := T.f_Line_len
  refine ⟨fd, F.ok sc_Line_len (fun vs H Q E h => ?_) (fun cdv A outer s H vs Q E hr h => ?_), F.binds (ps := ["self"]) fun _ _ _ _ _ _ us hl => match us, hl with | [_], _ => rfl, F.kp⟩
  · obtain ⟨A, h, cs, f, rfl, _⟩ := h
    rfl
  · skip
    refine ⟨_, (pss_one (ps_ret (pe_callB call_len_seq (by rfl) T.b_len (by decide +kernel) (pa_cons (pe_fld (pv 0) rfl) pa_nil)))), ?_⟩
    obtain ⟨A, h, cs, f, rfl, x, k⟩ := h
    obtain ⟨dx, hL⟩ := x.ob
    obtain ⟨ds, hd, hl⟩ := x.dn
    rw [← hl] at k
    exact ⟨_, rfl, A.L, _, dx, _, _, rfl, hL, T.c_Line, T.n_Line_done, lfl_done, A.t, ds, rfl, .inr (SqT.of hd), k⟩
def putM (f : Str → Option Nat) (x : Str) (n : Nat) : Str → Option Nat := fun y => if y = x then some n else f y
theorem put_kvM {ms : List (Str × Nat)} {x : Str} {n : Nat} {f : Str → Option Nat} (h1 : (ms.map (·.1)).Nodup) (h2 : ∀ p ∈ ms, p.1 ∈ names3) (h3 : ∀ y, lkM ms y = f y) (hx : x ∈ names3) :
    ∃ ms', putK (kvM ms) (Sum.inr x : Key) (V.int (n : Int)) = kvM ms' ∧ (ms'.map (·.1)).Nodup ∧ (∀ p ∈ ms', p.1 ∈ names3) ∧ ∀ y, lkM ms' y = putM f x n y := by
  have back : ∀ ms' : List (Str × Nat), putK (kvM ms) (Sum.inr x : Key) (V.int (n : Int)) = kvM ms' → ∀ y, lkM ms' y = putM f x n y := fun ms' e y => by
    have z := valV_put (kvM ms) (Sum.inr x : Key) (Sum.inr y : Key) (V.int (n : Int))
    rw [e, valV_kvM, valV_kvM, h3] at z
    unfold putM
    by_cases c : y = x
    · rw [if_pos c]
      rw [if_pos (by rw [c])] at z
      cases q : lkM ms' y with
      | none => rw [q] at z; cases z
      | some j =>
        rw [q] at z
        have z2 := V.int.inj (Option.some.inj z)
        congr 1
        omega
    · rw [if_neg c]
      rw [if_neg (fun q => c (Sum.inr.inj q))] at z
      cases q : lkM ms' y with
      | none => 
        cases q2 : f y with
        | none => rfl
        | some j => rw [q, q2] at z; cases z
      | some j =>
        cases q2 : f y with
        | none => rw [q, q2] at z; cases z
        | some i =>
          rw [q, q2] at z
          have z2 := V.int.inj (Option.some.inj z)
          congr 1
          omega
  cases e : valV (kvM ms) (Sum.inr x : Key) with
  | none =>
    have hn : x ∉ ms.map (·.1) := fun hm => by
      have := valV_not e
      apply this
      obtain ⟨p, hp, rfl⟩ := List.mem_map.mp hm
      exact List.mem_map.mpr ⟨_, List.mem_map.mpr ⟨p, hp, rfl⟩, rfl⟩
    refine ⟨ms ++ [(x, n)], ?_, ?_, ?_, ?_⟩
    · rw [putK_new _ e]; unfold kvM; rw [List.map_append]; rfl
    · rw [List.map_append]; exact nd_snoc h1 hn
    · intro p hp
      rcases List.mem_append.mp hp with z | z
      · exact h2 p z
      · rw [List.mem_singleton.mp z]; exact hx
    · refine back _ ?_
      rw [putK_new _ e]; unfold kvM; rw [List.map_append]; rfl
  | some v =>
    have eq : putK (kvM ms) (Sum.inr x : Key) (V.int (n : Int)) = kvM (ms.map fun p => if p.1 = x then (p.1, n) else p) := by
      unfold putK
      rw [if_pos (by rw [valV_any, e]; rfl)]
      unfold kvM
      rw [List.map_map, List.map_map]
      refine List.map_congr_left fun p _ => ?_
      show (if (Sum.inr p.1 : Key) = Sum.inr x then ((Sum.inr p.1 : Key), V.int (n : Int)) else (Sum.inr p.1, V.int (p.2 : Int))) = _
      by_cases c : p.1 = x
      · rw [if_pos (by rw [c])]
        simp [c]
      · rw [if_neg (fun q => c (Sum.inr.inj q))]
        simp [c]
    have keys : (ms.map fun p => if p.1 = x then (p.1, n) else p).map (·.1) = ms.map (·.1) := by
      rw [List.map_map]
      refine List.map_congr_left fun p _ => ?_
      show (if p.1 = x then (p.1, n) else p).1 = p.1
      split <;> rfl
    refine ⟨_, eq, by rw [keys]; exact h1, fun p hp => ?_, back _ eq⟩
    have : p.1 ∈ ms.map (·.1) := by rw [← keys]; exact List.mem_map.mpr ⟨p, hp, rfl⟩
    obtain ⟨q, hq, e2⟩ := List.mem_map.mp this
    rw [← e2]
    exact h2 q hq
def spMark (CL CW : Addr) : Sp := fun vs H Q _ => ∃ (A : LA) (h : Int) (cs : List Call) (f : Str → Option Nat) (x : Str), vs = [.ref A.L, .str x] ∧ x ∈ names3 ∧ LineAt CL CW H A h cs f ∧
  ∀ H', LineAt CL CW H' A h cs (putM f x cs.length) → Stp A A H H' → Q .non H'
theorem names3_thing {x : Str} (h : x ∈ names3) : IsThing x := by
  have all : ∀ x ∈ names3, (1 ≤ x.length ∧ x.length ≤ 8) ∧ ∀ c ∈ x.cps.toList, 97 ≤ c ∧ c ≤ 122 := by decide +kernel
  obtain ⟨⟨h1, h2⟩, h3⟩ := all x h
  exact ⟨h1, h2, h3⟩
theorem ok_Line_mark (T : Txt K mg a) : Ok1 P w K mg base CX0 2 a.Line_mark ["self", "name"] (spMark a.cLine a.cLineWork) := by
  obtain ⟨fd, F⟩ := T.f_Line_mark
  obtain ⟨fd_is_thing, G_is_thing, b_is_thing, kp_is_thing⟩ := ok_is_thing (P := P) (w := w) (base := base) T
  refine ⟨fd, F.ok sc_Line_mark (fun vs H Q E h => ?_) (fun cdv A outer s H vs Q E hr h => ?_), F.binds (ps := ["self", "name"]) fun _ _ _ _ _ _ us hl => match us, hl with | [_, _], _ => rfl, F.kp⟩
  · obtain ⟨A, h, cs, f, x, rfl, _⟩ := h
    rfl
  · have hu := hu_of hr
    refine ⟨_, (pss_cons (ps_if (pt_not (pt_val (pe_call G_is_thing (hr.mono (by decide)) rfl T.g_is_thing kp_is_thing b_is_thing .nil pass0 (pa_cons (pv 1) pa_nil)))) (pss_one ps_never) pss_nil)
      (pss_one (ps_dput hu (pe_fld (pv 0) rfl) (pv 1) (pe_callB call_len_seq (by rfl) T.b_len (by decide +kernel) (pa_cons (pe_fld (pv 0) rfl) pa_nil)) rfl))), ?_⟩
    obtain ⟨A, h, cs, f, x, rfl, hx, l, k⟩ := h
    refine ⟨_, rfl, x, rfl, names3_thing hx, fun H1 s1 => ⟨true, rfl, iteF ?_⟩⟩
    have l1 := l.same s1
    obtain ⟨dx, hL⟩ := l1.ob
    obtain ⟨ms, hm, m1, m2, m3⟩ := l1.mks
    have hlen : A.rs.length = cs.length := (Paired.length l1.ea).trans (aheads_length h cs)
    refine ⟨_, rfl, A.L, _, dx, _, _, rfl, hL, T.c_Line, T.n_Line_earlier, lfl_earlier, A.e, _, rfl, .inl (SqL.of l1.er), ?_⟩
    refine ⟨_, rfl, A.L, _, dx, _, _, rfl, hL, T.c_Line, T.n_Line_marks, lfl_marks, _, rfl, A.m, _, rfl, DPut.k (k := Sum.inr x) hm (small1000 (by rw [kvM_length]; have := few_names m1 m2; omega)), ?_⟩
    rw [List.length_map, hlen]
    obtain ⟨ms', e, n1, n2, n3⟩ := put_kvM (n := cs.length) m1 m2 m3 hx
    rw [e]
    have bm : But [A.m] H1 (upd H1 A.m (.dK (kvM ms'))) := But.set (by simp) hm (by intro xs z; cases z)
    have nd := List.nodup_cons.mp l1.nd
    have nd2 := List.nodup_cons.mp nd.2
    have mL : A.L ≠ A.m := ne_of hL hm (by intro z; cases z)
    have mW : A.W ≠ A.m := let ⟨dy, q⟩ := l1.wk.ob; ne_of q hm (by intro z; cases z)
    have me : A.e ≠ A.m := ne_of l1.er hm (by intro z; cases z)
    have md : A.d ≠ A.m := fun z => nd.1 (by rw [z]; simp)
    refine k _ ⟨⟨dx, by rw [upd_ne mL]; exact hL⟩, l1.wk.setO mW md, ?_, by rw [upd_ne me]; exact l1.er, ?_, ⟨ms', upd_same, n1, n2, n3⟩, l1.nd⟩ ⟨rfl, ?_, fun b hb => .inl hb⟩
    · obtain ⟨ds, q, ql⟩ := l1.dn
      exact ⟨ds, bm.tup q, ql⟩
    · refine K76.Paired.mapH l1.ea fun r hr s z => z.keep (fun b xs q => bm.tup q) fun q => bm.at ?_ q
      intro z2
      rw [List.mem_singleton] at z2
      exact nd2.1 (z2 ▸ List.mem_map.mpr ⟨r, hr, rfl⟩)
    · refine (But.same (F := A.fp) s1).trans bm fun z hz => .inl ?_
      rw [List.mem_singleton.mp hz]
      simp [LA.fp]
end
end K76
set_option maxRecDepth 100000
set_option maxHeartbeats 4000000
namespace K76
open PySem L2
section
variable {P : Program} {w : World} {K : PySem.W.Frag} {mg : Str → Option Value} {base : Heap} {a : Ad}

/-! ## Line: do, do_plan -/
def spRemember (CL CW : Addr) : Sp := fun vs H Q _ => ∃ (A : LA) (h : Int) (cs : List Call) (f : Str → Option Nat), vs = [.ref A.L] ∧ LineAt CL CW H A h cs f ∧ cs.length ≤ 100 ∧
  ∀ H' r c, H r = none → H c = none → H' A.e = some (.lst ((A.rs.map fun r => V.ref r.1) ++ [.ref r])) → RecAt H' (r, c, A.t) (behind h cs) → (∀ b o, H b = some o → b ≠ A.e → H' b = some o) → Q .non H' 
theorem ok_Line_remember (T : Txt K mg a) : Ok1 P w K mg base CX0 1 a.Line_remember ["self"] (spRemember a.cLine a.cLineWork) := by
  obtain ⟨fd, F⟩ := T.f_Line_remember
  refine ⟨fd, F.ok sc_Line_remember (fun vs H Q E h => ?_) (fun cdv A outer s H vs Q E hr h => ?_), F.binds (ps := ["self"]) fun _ _ _ _ _ _ us hl => match us, hl with | [_], _ => rfl, F.kp⟩
  · obtain ⟨A, h, cs, f, rfl, _⟩ := h
    rfl
  · skip
    refine ⟨_, (pss_one (ps_expr (pe_bm PySem.F.plainAttrs_list PySem.F.slot_list_append PySem.F.type_list_append mt_append (pe_fld (pv 0) rfl) (pa_cons (pe_tup (pa_cons (pe_fld (pe_fld (pv 0) rfl) rfl) (pa_cons (pe_callTy call_dictD (by rfl) T.b_dict (by decide +kernel) (pa_cons (pe_fld (pe_fld (pv 0) rfl) rfl) pa_nil)) (pa_cons (pe_fld (pe_fld (pv 0) rfl) rfl) (pa_cons (pe_fld (pv 0) rfl) pa_nil))))) pa_nil)))), ?_⟩
    obtain ⟨A, h, cs, f, rfl, x, hc, k⟩ := h
    obtain ⟨dx, hL⟩ := x.ob
    obtain ⟨dy, hW⟩ := x.wk.ob
    obtain ⟨ds, hd, hl⟩ := x.dn
    refine ⟨_, rfl, A.L, _, dx, _, _, rfl, hL, T.c_Line, T.n_Line_earlier, lfl_earlier, .inl ⟨rfl, _, SqL.of x.er⟩, ?_⟩
    refine ⟨_, rfl, A.L, _, dx, _, _, rfl, hL, T.c_Line, T.n_Line_work, lfl_work, A.W, _, dy, _, _, rfl, hW, T.c_LineWork, T.n_LineWork_stand, wfl_stand, ?_⟩
    refine ⟨_, rfl, A.L, _, dx, _, _, rfl, hL, T.c_Line, T.n_Line_work, lfl_work, A.W, _, dy, _, _, rfl, hW, T.c_LineWork, T.n_LineWork_hung, wfl_hung, A.d, _, rfl, .inl x.wk.dc, fun c nc => ?_⟩
    have keep1 : ∀ b o, H b = some o → (upd H c (.dK (kvH (behind h cs).S.hung))) b = some o := fun b o e => by rw [upd_ne (ne_of_none e nc)]; exact e
    have hL1 := keep1 _ _ hL
    have hW1 := keep1 _ _ hW
    refine ⟨_, rfl, A.L, _, dx, _, _, rfl, hL1, T.c_Line, T.n_Line_work, lfl_work, A.W, _, dy, _, _, rfl, hW1, T.c_LineWork, T.n_LineWork_lengths, wfl_lengths, ?_⟩
    refine ⟨_, rfl, A.L, _, dx, _, _, rfl, hL1, T.c_Line, T.n_Line_done, lfl_done, (by show 4 ≤ sizeLine; decide), fun r nr => ?_⟩
    have cr : c ≠ r := ne_of_none upd_same nr
    have nr0 : H r = none := by rw [upd_ne cr.symm] at nr; exact nr
    have er := ne_of_none x.er nr0
    have ec := ne_of_none x.er nc
    have hlen : A.rs.length = cs.length := (Paired.length x.ea).trans (aheads_length h cs)
    refine ⟨A.e, _, _, rfl, rfl, (by rw [upd_ne er]; exact keep1 _ _ x.er), small1000 (by rw [List.length_map]; omega), ?_⟩
    refine k _ r c nr0 nc upd_same ⟨?_, ?_, ds, ?_, hl⟩ fun b o e hb => ?_
    · rw [upd_ne er.symm, upd_same]
    · rw [upd_ne ec.symm, upd_ne cr]; exact upd_same
    · show upd _ _ _ A.t = _
      rw [upd_ne (ne_of hd x.er (by intro z; cases z)), upd_ne (ne_of_none hd nr0), upd_ne (ne_of_none hd nc)]
      exact hd
    · rw [upd_ne hb, upd_ne (ne_of_none e nr0), upd_ne (ne_of_none e nc)]
      exact e
/-- an own row of deeds -/
structure PlanAt (CP : Addr) (H : Hp) (p : Addr) (ts : List Addr) : Prop where
  ob : ∃ dx kt, H p = some (.ins CP dx [("kept", .ref kt)]) ∧ H kt = some (.tup (ts.map V.ref))
theorem pl_kept {kt : Addr} : ([("kept", V.ref kt)] : List (Str × V)).lookup ("kept" : Str) = some (.ref kt) := by kernel_rfl
theorem pl_deeds {kt : Addr} : ([("kept", V.ref kt)] : List (Str × V)).lookup ("deeds" : Str) = none := by kernel_rfl
def spDeeds (CP : Addr) : Sp := fun vs H Q _ => ∃ (p dx kt : Addr), vs = [.ref p] ∧ H p = some (.ins CP dx [("kept", .ref kt)]) ∧ Q (.ref kt) H
theorem ok_Plan_deeds (T : Txt K mg a) : Ok1 P w K mg base CX0 1 a.Plan_deeds ["self"] (spDeeds a.cPlan) := by
  obtain ⟨fd, F⟩ := T.f_Plan_deeds
  refine ⟨fd, F.ok sc_Plan_deeds (fun vs H Q E h => ?_) (fun cdv A outer s H vs Q E hr h => ?_), F.binds (ps := ["self"]) fun _ _ _ _ _ _ us hl => match us, hl with | [_], _ => rfl, F.kp⟩
  · obtain ⟨p, dx, kt, rfl, _⟩ := h
    rfl
  · skip
    refine ⟨_, (pss_one (ps_ret (pe_fld (pv 0) rfl))), ?_⟩
    obtain ⟨p, dx, kt, rfl, hp, k⟩ := h
    exact ⟨_, rfl, p, _, dx, _, _, rfl, hp, T.c_Plan, T.n_Plan_kept, pl_kept, k⟩
/-- the line behind one call more, from the facts at hand -/
theorem line_called {CL CW : Addr} {H H3 : Hp} {A : LA} {h : Int} {cs : List Call} {f : Str → Option Nat} {r c t : Addr} {call : Call} {ds : List V}
    (x : LineAt CL CW H A h cs f) (nr : H r = none) (nc : H c = none) (nt : H t = none)
    (ob : ∃ dx, H3 A.L = some (.ins CL dx (lfl h A.W t A.e A.m))) (wk : WorkAt CW H3 A.W A.d (runDs (behind h cs).S call.ds).2) (dn : H3 t = some (.tup ds)) (dl : ds.length = (behind h cs).n + call.ds.length)
    (er : H3 A.e = some (.lst ((A.rs.map fun r => V.ref r.1) ++ [.ref r]))) (rec : RecAt H3 (r, c, A.t) (behind h cs))
    (keep : ∀ b o, H b = some o → b ≠ A.L → b ≠ A.W → b ≠ A.e → b ≠ A.d → H3 b = some o) :
    LineAt CL CW H3 ⟨A.L, A.W, t, A.e, A.m, A.d, A.rs ++ [(r, c, A.t)]⟩ h (cs ++ [call]) f ∧ Stp A ⟨A.L, A.W, t, A.e, A.m, A.d, A.rs ++ [(r, c, A.t)]⟩ H H3 := by
  have nd1 := List.nodup_cons.mp x.nd
  have nd2 := List.nodup_cons.mp nd1.2
  obtain ⟨dx0, hL⟩ := x.ob
  obtain ⟨dy0, hW⟩ := x.wk.ob
  obtain ⟨ms, hm, hm2⟩ := id x.mks
  have tup : ∀ b xs, H b = some (.tup xs) → H3 b = some (.tup xs) := fun b xs e =>
    keep b _ e (ne_of e hL (by intro z; cases z)) (ne_of e hW (by intro z; cases z)) (ne_of e x.er (by intro z; cases z)) (ne_of e x.wk.dc (by intro z; cases z))
  have dks : ∀ b kvs, H b = some (.dK kvs) → b ≠ A.d → H3 b = some (.dK kvs) := fun b kvs e hb =>
    keep b _ e (ne_of e hL (by intro z; cases z)) (ne_of e hW (by intro z; cases z)) (ne_of e x.er (by intro z; cases z)) hb
  have md : A.m ≠ A.d := fun z => nd1.1 (by rw [z]; simp)
  have cm : c ≠ A.m := fun z => by rw [z, hm] at nc; cases nc
  have cd : c ≠ A.d := fun z => by rw [z, x.wk.dc] at nc; cases nc
  refine ⟨⟨ob, ?_, ⟨ds, dn, ?_⟩, ?_, ?_, x.mks.keep fun o e => ?_, ?_⟩, rfl, ?_, ?_⟩
  · show WorkAt CW H3 A.W A.d (behind h (cs ++ [call])).S
    rw [behind_snoc]
    exact wk
  · rw [behind_snoc]
    exact dl
  · show H3 A.e = _
    rw [List.map_append]
    exact er
  · rw [aheads_snoc]
    refine K76.Paired.snoc (K76.Paired.mapH x.ea fun r' hr' s z => z.keep tup fun e => dks _ _ e fun q => ?_) rec
    exact nd1.1 (by rw [← q]; exact List.mem_cons_of_mem _ (List.mem_map.mpr ⟨r', hr', rfl⟩))
  · rw [hm] at e
    cases e
    exact dks _ _ hm md
  · show (A.d :: A.m :: (A.rs ++ [(r, c, A.t)]).map (·.2.1)).Nodup
    rw [List.map_append]
    have cn : c ∉ A.rs.map (·.2.1) := fun q => by
      have : c ∈ A.fp := by unfold LA.fp; simp only [List.mem_cons]; exact .inr (.inr (.inr (.inr (.inr q))))
      obtain ⟨o, e, _⟩ := x.noTup c this
      rw [nc] at e
      cases e
    have hh : ((A.d :: A.m :: A.rs.map (·.2.1)) ++ [c]).Nodup := nd_snoc x.nd (by
      simp only [List.mem_cons, not_or]
      exact ⟨cd, cm, cn⟩)
    exact hh
  · intro b o e hb
    by_cases hbt : ∃ xs, o = HO.tup xs
    · obtain ⟨xs, rfl⟩ := hbt
      exact tup b xs e
    · have nb : b ∉ A.fp := fun q => hbt (hb q)
      unfold LA.fp at nb
      simp only [List.mem_cons, not_or] at nb
      exact keep b o e nb.1 nb.2.1 nb.2.2.1 nb.2.2.2.2.1
  · intro b hb
    unfold LA.fp at hb
    simp only [List.map_append, List.map_cons, List.map_nil, List.mem_cons, List.mem_append, List.not_mem_nil, or_false] at hb
    unfold LA.fp
    simp only [List.mem_cons]
    rcases hb with z | z | z | z | z | z | z
    · exact .inl (.inl z)
    · exact .inl (.inr (.inl z))
    · exact .inl (.inr (.inr (.inl z)))
    · exact .inl (.inr (.inr (.inr (.inl z))))
    · exact .inl (.inr (.inr (.inr (.inr (.inl z)))))
    · exact .inl (.inr (.inr (.inr (.inr (.inr z)))))
    · exact .inr (by rw [z]; exact nc)
def spDo (CL CW : Addr) : Sp := fun vs H Q _ => ∃ (A : LA) (h : Int) (cs : List Call) (f : Str → Option Nat) (th : List Str) (t : Addr) (D : DD), vs = [.ref A.L, .ref t] ∧ LineAt CL CW H A h cs f ∧ Hist th h cs ∧ DeedAt H t D ∧ D.ok th ∧
  ∀ A' H', LineAt CL CW H' A' h (cs ++ [⟨false, [D]⟩]) f → Stp A A' H H' → Q (tell (behind h cs).S D).1 H'
theorem ok_Line_do (T : Txt K mg a) : Ok1 P w K mg base CX0 6 a.Line_do ["self", "deed"] (spDo a.cLine a.cLineWork) := by
  obtain ⟨fd, F⟩ := T.f_Line_do
  obtain ⟨fd_is_deed, G_is_deed, b_is_deed, kp_is_deed⟩ := ok_is_deed (P := P) (w := w) (base := base) T
  obtain ⟨fd_Line_remember, G_Line_remember, b_Line_remember, kp_Line_remember⟩ := ok_Line_remember (P := P) (w := w) (base := base) T
  obtain ⟨fd_LineWork_tell, G_LineWork_tell, b_LineWork_tell, kp_LineWork_tell⟩ := ok_LineWork_tell (P := P) (w := w) (base := base) T
  refine ⟨fd, F.ok sc_Line_do (fun vs H Q E h => ?_) (fun cdv A outer s H vs Q E hr h => ?_), F.binds (ps := ["self", "deed"]) fun _ _ _ _ _ _ us hl => match us, hl with | [_, _], _ => rfl, F.kp⟩
  · obtain ⟨A, h, cs, f, th, t, D, rfl, _⟩ := h
    rfl
  · skip
    refine ⟨_, (pss_cons (ps_if (pt_not (pt_val (pe_call G_is_deed (hr.mono (by decide)) rfl T.g_is_deed kp_is_deed b_is_deed .nil pass0 (pa_cons (pv 1) pa_nil)))) (pss_one ps_never) pss_nil)
      (pss_cons (ps_expr (pe_meth0 (pv 0) T.c_Line T.m_Line_remember G_Line_remember (hr.mono (by decide)) b_Line_remember .nil pass0))
      (pss_cons (ps_fld (pv 0) (pe_tup (StX.pa_star (pe_fld (pv 0) rfl) (pa_cons (pv 1) pa_nil))) rfl)
      (pss_one (ps_ret (pe_meth (pe_fld (pv 0) rfl) T.c_LineWork T.m_LineWork_tell G_LineWork_tell (hr.mono (by decide)) b_LineWork_tell .nil pass0 (pa_cons (pv 1) pa_nil))))))), ?_⟩
    obtain ⟨A, h, cs, f, th, t, D, rfl, x0, hi, ht, ok, k⟩ := h
    refine ⟨_, rfl, t, th, D, rfl, ht, ok, fun H0 s0 => ⟨true, rfl, iteF ?_⟩⟩
    have x := x0.same s0
    obtain ⟨dx, hL⟩ := x.ob
    refine ⟨_, rfl, A.L, dx, _, rfl, hL, lfl_m_remember, A, h, cs, f, rfl, x, hi.most, fun H1 r c nr nc er1 rec1 keep1 => ?_⟩
    obtain ⟨dy, hW⟩ := x.wk.ob
    obtain ⟨ds, hd, hl⟩ := x.dn
    have eL : A.L ≠ A.e := ne_of hL x.er (by intro z; cases z)
    have eW : A.W ≠ A.e := ne_of hW x.er (by intro z; cases z)
    have ed : A.d ≠ A.e := ne_of x.wk.dc x.er (by intro z; cases z)
    have et : A.t ≠ A.e := ne_of hd x.er (by intro z; cases z)
    have hL1 := keep1 _ _ hL eL
    have hd1 := keep1 _ _ hd et
    have hsz := hi.size
    refine ⟨_, rfl, A.L, _, dx, _, _, rfl, hL1, T.c_Line, T.n_Line_done, lfl_done, A.t, ds, rfl, .inl (SqT.of hd1), _, rfl, (by rw [List.length_append, sizeLine_eq, List.length_singleton]; omega), fun p np => ?_⟩
    have pL : A.L ≠ p := ne_of_none hL1 np
    refine ⟨_, rfl, A.L, _, dx, _, rfl, (by rw [upd_ne pL]; exact hL1), T.c_Line, T.n_Line_done, lfl_len, ?_⟩
    rw [lfl_put_done]
    have keep2 : ∀ b o, H0 b = some o → b ≠ A.e → b ≠ A.L → (upd (upd H1 p (.tup (ds ++ [.ref t]))) A.L (.ins a.cLine dx (lfl h A.W p A.e A.m))) b = some o := fun b o e h1 h2 => by
      rw [upd_ne h2, upd_ne (ne_of_none (keep1 _ _ e h1) np)]
      exact keep1 _ _ e h1
    have np0 : H0 p = none := by
      cases q : H0 p with
      | none => rfl
      | some o =>
        by_cases c : p = A.e
        · rw [c, er1] at np; cases np
        · rw [keep1 _ _ q c] at np; cases np
    have L2 : (upd (upd H1 p (.tup (ds ++ [.ref t]))) A.L (.ins a.cLine dx (lfl h A.W p A.e A.m))) A.L = some (.ins a.cLine dx (lfl h A.W p A.e A.m)) := upd_same
    have p2 : (upd (upd H1 p (.tup (ds ++ [.ref t]))) A.L (.ins a.cLine dx (lfl h A.W p A.e A.m))) p = some (.tup (ds ++ [.ref t])) := by rw [upd_ne pL.symm]; exact upd_same
    have e2 : (upd (upd H1 p (.tup (ds ++ [.ref t]))) A.L (.ins a.cLine dx (lfl h A.W p A.e A.m))) A.e = some (.lst ((A.rs.map fun r => V.ref r.1) ++ [.ref r])) := by rw [upd_ne eL.symm, upd_ne (ne_of_none er1 np)]; exact er1
    have LW := x.LW
    have Ld : A.L ≠ A.d := ne_of hL x.wk.dc (by intro z; cases z)
    have w2 : WorkAt a.cLineWork (upd (upd H1 p (.tup (ds ++ [.ref t]))) A.L (.ins a.cLine dx (lfl h A.W p A.e A.m))) A.W A.d (behind h cs).S := ⟨⟨dy, keep2 _ _ hW eW LW.symm⟩, keep2 _ _ x.wk.dc ed Ld.symm⟩
    have rec2 : RecAt (upd (upd H1 p (.tup (ds ++ [.ref t]))) A.L (.ins a.cLine dx (lfl h A.W p A.e A.m))) (r, c, A.t) (behind h cs) := by
      refine rec1.keep (fun b xs e => ?_) fun e => ?_
      · rw [upd_ne (ne_of e hL1 (by intro z; cases z)), upd_ne (ne_of_none e np)]; exact e
      · rw [upd_ne (ne_of e hL1 (by intro z; cases z)), upd_ne (ne_of_none e np)]; exact e
    have ht2 : DeedAt (upd (upd H1 p (.tup (ds ++ [.ref t]))) A.L (.ins a.cLine dx (lfl h A.W p A.e A.m))) t D := by
      have b : But [A.e, A.L] H (upd (upd H1 p (.tup (ds ++ [.ref t]))) A.L (.ins a.cLine dx (lfl h A.W p A.e A.m))) := fun b o e hb => by
        have e' := s0 _ _ e
        refine keep2 b o e' (fun z => ?_) fun z => ?_
        · obtain ⟨xs, rfl⟩ := hb (by simp [z])
          rw [z, x.er] at e'
          cases e'
        · obtain ⟨xs, rfl⟩ := hb (by simp [z])
          rw [z, hL] at e'
          cases e'
      exact ht.but b
    generalize (upd (upd H1 p (.tup (ds ++ [.ref t]))) A.L (.ins a.cLine dx (lfl h A.W p A.e A.m))) = H2 at keep2 L2 p2 e2 w2 rec2 ht2 ⊢
    obtain ⟨dy2, hW2⟩ := w2.ob
    refine ⟨_, rfl, A.L, _, dx, _, _, rfl, L2, T.c_Line, T.n_Line_work, lfl_work, A.W, dy2, _, rfl, hW2, wfl_m_tell, _, rfl, A.W, A.d, t, _, th, D, rfl, ht2, ⟨w2, hi.good, ok, fun H3 w3 b3 => ?_⟩⟩
    have nin : ∀ {b : Addr} {o : HO}, H2 b = some o → b ≠ A.W → b ≠ A.d → H3 b = some o := fun e h1 h2 => b3.at (by simp [h1, h2]) e
    have cd : c ≠ A.d := fun z => by rw [z, x.wk.dc] at nc; cases nc
    have cW : c ≠ A.W := fun z => by rw [z, hW] at nc; cases nc
    have lc := line_called (H3 := H3) (call := ⟨false, [D]⟩) x nr nc np0 ⟨dx, nin L2 LW Ld⟩ w3 (b3.tup p2) (by rw [List.length_append, hl]; rfl) (nin e2 eW.symm ed.symm) (rec2.keep (fun b xs e => b3.tup e) fun e => nin e cW cd)
      fun b o e h1 h2 h3 h4 => nin (keep2 b o e h3 h1) h2 h4
    exact k _ H3 lc.1 ((Stp.same s0).trans lc.2)
end
end K76
set_option maxRecDepth 100000
set_option maxHeartbeats 4000000
namespace K76
open PySem L2
section
variable {P : Program} {w : World} {K : PySem.W.Frag} {mg : Str → Option Value} {base : Heap} {a : Ad}

/-! ## do_plan -/
theorem runDs_snoc : ∀ (l : List DD) (S : WS) (d : DD), runDs S (l ++ [d]) = ((runDs S l).1 ++ [(tell (runDs S l).2 d).1], (tell (runDs S l).2 d).2)
  | [], S, d => rfl
  | x :: r, S, d => by
    have ih := runDs_snoc r (tell S x).2 d
    show ((tell S x).1 :: (runDs (tell S x).2 (r ++ [d])).1, (runDs (tell S x).2 (r ++ [d])).2) = _
    rw [ih]
    rfl
theorem runDs_len : ∀ (l : List DD) (S : WS), (runDs S l).1.length = l.length
  | [], _ => rfl
  | x :: r, S => congrArg Nat.succ (runDs_len r (tell S x).2)
theorem take_snoc {α : Type} {l : List α} {i : Nat} {x : α} (h : l[i]? = some x) : l.take (i + 1) = l.take i ++ [x] := by
  rw [List.take_succ, h]
  rfl
theorem kept_ne {C C' dx dx' kt : Addr} {h : Int} {W t e m : Addr} : HO.ins C dx [("kept", V.ref kt)] ≠ HO.ins C' dx' (lfl h W t e m) := fun z => by
  injection z with _ _ z
  injection z with z _
  injection z with z _
  exact absurd z (by decide +kernel)
theorem kept_new {C C' dx dx' kt : Addr} {h st l : Int} {d : Addr} : HO.ins C dx [("kept", V.ref kt)] ≠ HO.ins C' dx' (wfl h st d l) := fun z => by
  injection z with _ _ z
  injection z with z _
  injection z with z _
  exact absurd z (by decide +kernel)
theorem Paired.get1 {α β : Type} {F : α → β → Prop} : ∀ {l : List α} {m : List β} {i : Nat} {x : α}, Paired F l m → l[i]? = some x → ∃ y, m[i]? = some y ∧ F x y
  | _, _, _, _, .nil, h => by simp at h
  | _, _, 0, _, .cons a _, h => ⟨_, rfl, by simp at h; exact h ▸ a⟩
  | _, _, i + 1, _, .cons _ b, h => by
    obtain ⟨y, e, f⟩ := Paired.get1 (i := i) b (by simpa using h)
    exact ⟨y, by simpa using e, f⟩
def spDoPlan (CL CW CP : Addr) : Sp := fun vs H Q _ => ∃ (A : LA) (h : Int) (cs : List Call) (f : Str → Option Nat) (th : List Str) (p : Addr) (ts : List Addr) (ds : List DD), vs = [.ref A.L, .ref p] ∧ LineAt CL CW H A h cs f ∧ Hist th h cs ∧
  PlanAt CP H p ts ∧ Paired (DeedAt H) ts ds ∧ (∀ d ∈ ds, d.ok th) ∧ ds.length ≤ 5 ∧
  ∀ A' H' o, LineAt CL CW H' A' h (cs ++ [⟨true, ds⟩]) f → Stp A A' H H' → H' o = some (.lst (toldOf h cs ⟨true, ds⟩)) → H o = none → o ∉ A'.fp → Q (.ref o) H'
theorem ok_Line_do_plan (T : Txt K mg a) : Ok1 P w K mg base CX0 6 a.Line_do_plan ["self", "plan"] (spDoPlan a.cLine a.cLineWork a.cPlan) := by
  obtain ⟨fd, F⟩ := T.f_Line_do_plan
  obtain ⟨fd_Line_remember, G_Line_remember, b_Line_remember, kp_Line_remember⟩ := ok_Line_remember (P := P) (w := w) (base := base) T
  obtain ⟨fd_Plan_deeds, G_Plan_deeds, b_Plan_deeds, kp_Plan_deeds⟩ := ok_Plan_deeds (P := P) (w := w) (base := base) T
  obtain ⟨fd_LineWork_tell, G_LineWork_tell, b_LineWork_tell, kp_LineWork_tell⟩ := ok_LineWork_tell (P := P) (w := w) (base := base) T
  refine ⟨fd, F.ok sc_Line_do_plan (fun vs H Q E h => ?_) (fun cdv A outer s H vs Q E hr h => ?_), F.binds (ps := ["self", "plan"]) fun _ _ _ _ _ _ us hl => match us, hl with | [_, _], _ => rfl, F.kp⟩
  · obtain ⟨A, h, cs, f, th, p, ts, ds, rfl, _⟩ := h
    rfl
  · skip
    refine ⟨_, (pss_cons (ps_expr (pe_meth0 (pv 0) T.c_Line T.m_Line_remember G_Line_remember (hr.mono (by decide)) b_Line_remember .nil pass0))
      (pss_cons (ps_fld (pv 0) (pe_tup (StX.pa_star (pe_fld (pv 0) rfl) (StX.pa_star (pe_meth0 (pv 1) T.c_Plan T.m_Plan_deeds G_Plan_deeds (hr.mono (by decide)) b_Plan_deeds .nil pass0) pa_nil))) rfl)
      (pss_one (ps_ret (pe_lc (own := [("deed", 2)]) (g := gName 2) (tt := tYes) rfl sc_Line_do_plan.nd (pi_tup (pe_meth0 (pv 1) T.c_Plan T.m_Plan_deeds G_Plan_deeds (hr.mono (by decide)) b_Plan_deeds .nil pass0)) (blkOk_by (N := ["self", "plan", "deed"]) (sc := defScope s_Line_do_plan) (by decide +kernel)) (fun _ _ _ _ _ => (pg_name (i := 2) sc_Line_do_plan.nd rfl (Or.inl rfl))) (fun _ _ _ _ _ => pts_nil) (fun _ _ _ _ _ => (pe_meth (pe_fldK (K := K) rfl (pv 0) (by rfl)) T.c_LineWork T.m_LineWork_tell G_LineWork_tell (hr.mono (by decide)) b_LineWork_tell .nil pass0 (pa_cons (pv 2) pa_nil)))))))), ?_⟩
    obtain ⟨A, h, cs, f, th, p, ts, ds, rfl, x, hi, ⟨⟨dxp, kt, hp, hkt⟩⟩, hts, ok, hlen, k⟩ := h
    obtain ⟨dx, hL⟩ := x.ob
    refine ⟨_, rfl, A.L, dx, _, rfl, hL, lfl_m_remember, A, h, cs, f, rfl, x, hi.most, fun H1 r c nr nc er1 rec1 keep1 => ?_⟩
    obtain ⟨dy, hW⟩ := x.wk.ob
    obtain ⟨dn, hd, hl⟩ := x.dn
    have eL : A.L ≠ A.e := ne_of hL x.er (by intro z; cases z)
    have eW : A.W ≠ A.e := ne_of hW x.er (by intro z; cases z)
    have ed : A.d ≠ A.e := ne_of x.wk.dc x.er (by intro z; cases z)
    have et : A.t ≠ A.e := ne_of hd x.er (by intro z; cases z)
    have ep : p ≠ A.e := ne_of hp x.er (by intro z; cases z)
    have ekt : kt ≠ A.e := ne_of hkt x.er (by intro z; cases z)
    have hL1 := keep1 _ _ hL eL
    have hd1 := keep1 _ _ hd et
    have hp1 := keep1 _ _ hp ep
    have hkt1 := keep1 _ _ hkt ekt
    have hsz := hi.size
    have tl : ts.length = ds.length := Paired.length hts
    refine ⟨_, rfl, A.L, _, dx, _, _, rfl, hL1, T.c_Line, T.n_Line_done, lfl_done, A.t, dn, rfl, .inl (SqT.of hd1), ?_⟩
    refine ⟨_, rfl, p, dxp, _, rfl, hp1, pl_deeds, p, dxp, kt, rfl, hp1, kt, ts.map V.ref, rfl, .inl (SqT.of hkt1), (by rw [List.length_append, List.length_append, List.length_map, sizeLine_eq, List.length_nil]; omega), fun t np => ?_⟩
    have pL : A.L ≠ t := ne_of_none hL1 np
    refine ⟨_, rfl, A.L, _, dx, _, rfl, (by rw [upd_ne pL]; exact hL1), T.c_Line, T.n_Line_done, lfl_len, ?_⟩
    rw [lfl_put_done]
    have keep2 : ∀ b o, H b = some o → b ≠ A.e → b ≠ A.L → (upd (upd H1 t (.tup (dn ++ (ts.map V.ref ++ [])))) A.L (.ins a.cLine dx (lfl h A.W t A.e A.m))) b = some o := fun b o e h1 h2 => by
      rw [upd_ne h2, upd_ne (ne_of_none (keep1 _ _ e h1) np)]
      exact keep1 _ _ e h1
    have np0 : H t = none := by
      cases q : H t with
      | none => rfl
      | some o =>
        by_cases c : t = A.e
        · rw [c, er1] at np; cases np
        · rw [keep1 _ _ q c] at np; cases np
    have L2 : (upd (upd H1 t (.tup (dn ++ (ts.map V.ref ++ [])))) A.L (.ins a.cLine dx (lfl h A.W t A.e A.m))) A.L = some (.ins a.cLine dx (lfl h A.W t A.e A.m)) := upd_same
    have p2 : (upd (upd H1 t (.tup (dn ++ (ts.map V.ref ++ [])))) A.L (.ins a.cLine dx (lfl h A.W t A.e A.m))) t = some (.tup (dn ++ (ts.map V.ref ++ []))) := by rw [upd_ne pL.symm]; exact upd_same
    have e2 : (upd (upd H1 t (.tup (dn ++ (ts.map V.ref ++ [])))) A.L (.ins a.cLine dx (lfl h A.W t A.e A.m))) A.e = some (.lst ((A.rs.map fun r => V.ref r.1) ++ [.ref r])) := by rw [upd_ne eL.symm, upd_ne (ne_of_none er1 np)]; exact er1
    have LW := x.LW
    have Ld : A.L ≠ A.d := ne_of hL x.wk.dc (by intro z; cases z)
    have w2 : WorkAt a.cLineWork (upd (upd H1 t (.tup (dn ++ (ts.map V.ref ++ [])))) A.L (.ins a.cLine dx (lfl h A.W t A.e A.m))) A.W A.d (behind h cs).S := ⟨⟨dy, keep2 _ _ hW eW LW.symm⟩, keep2 _ _ x.wk.dc ed Ld.symm⟩
    have rec2 : RecAt (upd (upd H1 t (.tup (dn ++ (ts.map V.ref ++ [])))) A.L (.ins a.cLine dx (lfl h A.W t A.e A.m))) (r, c, A.t) (behind h cs) := by
      refine rec1.keep (fun b xs e => ?_) fun e => ?_
      · rw [upd_ne (ne_of e hL1 (by intro z; cases z)), upd_ne (ne_of_none e np)]; exact e
      · rw [upd_ne (ne_of e hL1 (by intro z; cases z)), upd_ne (ne_of_none e np)]; exact e
    have bt : But [A.e, A.L] H (upd (upd H1 t (.tup (dn ++ (ts.map V.ref ++ [])))) A.L (.ins a.cLine dx (lfl h A.W t A.e A.m))) := fun b o e hb => by
      refine keep2 b o e (fun z => ?_) fun z => ?_
      · obtain ⟨xs, rfl⟩ := hb (by simp [z])
        rw [z, x.er] at e
        cases e
      · obtain ⟨xs, rfl⟩ := hb (by simp [z])
        rw [z, hL] at e
        cases e
    have pL0 : p ≠ A.L := ne_of hp hL kept_ne
    have pW0 : p ≠ A.W := ne_of hp hW kept_new
    have hp2 := keep2 _ _ hp ep pL0
    have hkt2 := bt.tup hkt
    generalize (upd (upd H1 t (.tup (dn ++ (ts.map V.ref ++ [])))) A.L (.ins a.cLine dx (lfl h A.W t A.e A.m))) = H2 at keep2 L2 p2 e2 w2 rec2 bt hp2 hkt2 ⊢
    refine ⟨_, rfl, p, dxp, _, rfl, hp2, pl_deeds, p, dxp, kt, rfl, hp2, kt, rfl, ⟨_, SqT.of hkt2⟩, fun D nD => ?_⟩
    have LD : A.L ≠ D := ne_of_none L2 nD
    have dW2 : A.W ≠ A.d := w2.ne
    obtain ⟨dy2, hW2⟩ := id w2.ob
    have WD : A.W ≠ D := ne_of_none hW2 nD
    have dD : A.d ≠ D := ne_of_none w2.dc nD
    refine lc_tup (K := K) (a := kt) (xs := ts.map V.ref) (fun i H' => H' D = some (.lst (runDs (behind h cs).S (ds.take i)).1) ∧ WorkAt a.cLineWork H' A.W A.d (runDs (behind h cs).S (ds.take i)).2 ∧
        ∀ b o, H2 b = some o → b ≠ A.W → b ≠ A.d → H' b = some o) ⟨upd_same, w2.setO WD dD, fun b o e _ _ => by rw [upd_ne (ne_of_none e nD)]; exact e⟩ ?_ ?_ ?_
    · rintro i H' _ ⟨_, _, kp⟩
      exact SqT.of (kp _ _ hkt2 (ne_of hkt2 hW2 (by intro z; cases z)) (ne_of hkt2 w2.dc (by intro z; cases z)))
    · rintro i y H' hy ⟨hD', w', kp⟩
      obtain ⟨t', ht', rfl⟩ : ∃ t', ts[i]? = some t' ∧ y = V.ref t' := by
        rw [List.getElem?_map] at hy
        cases q : ts[i]? with
        | none => rw [q] at hy; cases hy
        | some z => rw [q] at hy; exact ⟨z, rfl, (Option.some.inj hy).symm⟩
      obtain ⟨dd, hdd, dat⟩ := K76.Paired.get1 hts ht'
      have tk := take_snoc hdd
      have rs := runDs_snoc (ds.take i) (behind h cs).S dd
      rw [← tk] at rs
      have bk : But [A.W, A.d] H2 H' := fun b o e hb => by
        refine kp b o e (fun z => ?_) fun z => ?_
        · obtain ⟨xs, rfl⟩ := hb (by simp [z])
          rw [z, hW2] at e
          cases e
        · obtain ⟨xs, rfl⟩ := hb (by simp [z])
          rw [z, w2.dc] at e
          cases e
      have dat' : DeedAt H' t' dd := (dat.but bt).but bk
      have hL' := kp _ _ L2 LW Ld
      obtain ⟨dy', hW'⟩ := id w'.ob
      refine ⟨rfl, ?_⟩
      refine ⟨_, rfl, A.L, _, dx, _, _, rfl, hL', T.c_Line, T.n_Line_work, lfl_work, A.W, dy', _, rfl, hW', wfl_m_tell, _, rfl, A.W, A.d, t', _, th, dd, rfl, dat', ⟨w', good_runDs hi.good (fun z hz => ok z (List.mem_of_mem_take hz)), ok dd (List.mem_of_getElem? hdd), fun H3 w3 b3 => ?_⟩⟩
      refine ⟨_, b3.at (by simp [WD.symm, dD.symm]) hD', ?_, ?_, ?_, fun b o e h1 h2 => ?_⟩
      · rw [runDs_len, List.length_take]
        exact small1000 (by omega)
      · rw [upd_same, rs]
      · rw [rs]
        exact w3.setO WD dD
      · have hb : b ≠ D := ne_of_none e nD
        rw [upd_ne hb]
        exact b3.at (by simp [h1, h2]) (kp b o e h1 h2)
    · rintro H' ⟨hD', w', kp⟩
      rw [List.length_map, tl, List.take_length] at hD' w'
      have cd : c ≠ A.d := fun z => by rw [z, x.wk.dc] at nc; cases nc
      have cW : c ≠ A.W := fun z => by rw [z, hW] at nc; cases nc
      have tup : ∀ b xs, H2 b = some (.tup xs) → H' b = some (.tup xs) := fun b xs e => kp b _ e (ne_of e hW2 (by intro z; cases z)) (ne_of e w2.dc (by intro z; cases z))
      have lc := line_called (H3 := H') (call := ⟨true, ds⟩) x nr nc np0 ⟨dx, kp _ _ L2 LW Ld⟩ w' (tup _ _ p2) (by rw [List.length_append, List.length_append, List.length_map, hl, tl]; rfl) (kp _ _ e2 eW.symm ed.symm) (rec2.keep tup fun e => kp _ _ e cW cd)
        fun b o e h1 h2 h3 h4 => kp b o (keep2 b o e h3 h1) h2 h4
      have nD0 : H D = none := by
        cases q : H D with
        | none => rfl
        | some o =>
          by_cases c1 : D = A.e
          · rw [c1, e2] at nD; cases nD
          · by_cases c2 : D = A.L
            · rw [c2, L2] at nD; cases nD
            · rw [keep2 _ _ q c1 c2] at nD; cases nD
      refine k _ H' D lc.1 lc.2 hD' nD0 fun hm => ?_
      rcases lc.2.fresh D hm with z | z
      · obtain ⟨o, e, _⟩ := x.noTup D z
        rw [nD0] at e
        cases e
      · obtain ⟨o, e, _⟩ := lc.1.noTup D hm
        unfold LA.fp at hm
        simp only [List.map_append, List.map_cons, List.map_nil, List.mem_cons, List.mem_append, List.not_mem_nil, or_false] at hm
        rcases hm with q | q | q | q | q | q | q
        · exact LD q.symm
        · exact WD q.symm
        · rw [q, x.er] at nD0; cases nD0
        · obtain ⟨ms, hm', _⟩ := x.mks; rw [q, hm'] at nD0; cases nD0
        · exact dD q.symm
        · have : D ∈ A.fp := by unfold LA.fp; simp only [List.mem_cons]; exact .inr (.inr (.inr (.inr (.inr q))))
          obtain ⟨o, e, _⟩ := x.noTup D this
          rw [nD0] at e
          cases e
        · have := rec2.dc
          rw [show (r, c, A.t).2.1 = c from rfl, ← q, nD] at this
          cases this
end
end K76
set_option maxRecDepth 100000
set_option maxHeartbeats 4000000
namespace K76
open PySem L2
section
variable {P : Program} {w : World} {K : PySem.W.Frag} {mg : Str → Option Value} {base : Heap} {a : Ad}

/-! ## at, things -/
theorem dc_it {J : It} {g : TG} {tt : TT} {tk tv : TE} {vs : List Nat} {σ : L2.St} {H1 : Hp} {D : Addr} {Qd : Hp → Prop} (n : Nat) (Pv : Nat → Hp → Prop) (h0 : Pv 0 (upd H1 D (.dK []))) (go : ∀ i H, i < n → Pv i H → J.go i H) (stop : ∀ H, Pv n H → J.stop n H)
    (hs : ∀ i H x H', i < n → Pv i H → J.yld i H x H' → g x (wipe σ vs) H' fun σ2 H2 => wipe σ2 vs = wipe σ vs ∧ tt σ2 H2 fun b H3 => if b = true then tk σ2 H3 fun y H4 => tv σ2 H4 fun z H5 => ∃ kvs k, y = kV k ∧ H5 D = some (.dK kvs) ∧ kvs.length < sizeLine ∧ Pv (i + 1) (upd H5 D (.dK (putK kvs k z))) else Pv (i + 1) H3)
    (hd : ∀ H, Pv n H → Qd H) :
    ∃ W : Nat → Nat → Hp → Prop, (∃ m, W 0 m (upd H1 D (.dK []))) ∧ ∀ i m H, W i m H → (J.stop i H ∧ Qd H) ∨ (J.go i H ∧ ∃ Nx : Hp → Prop, (∀ H', Nx H' → ∃ m', m' < m ∧ W (i + 1) m' H') ∧ ∀ x H', J.yld i H x H' → g x (wipe σ vs) H' fun σ2 H2 => wipe σ2 vs = wipe σ vs ∧ tt σ2 H2 fun b H3 =>
      if b = true then tk σ2 H3 fun y H4 => tv σ2 H4 fun z H5 => ∃ kvs k, y = kV k ∧ H5 D = some (.dK kvs) ∧ kvs.length < sizeLine ∧ Nx (upd H5 D (.dK (putK kvs k z))) else Nx H3) := by
  refine ⟨fun i m H => m = n - i ∧ i ≤ n ∧ Pv i H, ⟨n, by simp, Nat.zero_le _, h0⟩, ?_⟩
  rintro i m H ⟨rfl, hi, p⟩
  by_cases hlt : i < n
  · exact .inr ⟨go i H hlt p, Pv (i + 1), fun H' p' => ⟨n - (i + 1), by omega, rfl, hlt, p'⟩, fun x H' y => hs i H x H' hlt p y⟩
  · have e : i = n := by omega
    subst e
    exact .inl ⟨stop H p, hd H p⟩
/-- the line's work alone is touched, and is as it was -/
theorem LineAt.work {CL CW : Addr} {H H' : Hp} {A : LA} {h : Int} {cs : List Call} {f : Str → Option Nat} (x : LineAt CL CW H A h cs f) (w : WorkAt CW H' A.W A.d (behind h cs).S) (b : But [A.W, A.d] H H') : LineAt CL CW H' A h cs f := by
  obtain ⟨dx, hL⟩ := x.ob
  obtain ⟨dy, hW⟩ := x.wk.ob
  obtain ⟨ms, hm, hm2⟩ := id x.mks
  have nd1 := List.nodup_cons.mp x.nd
  have Ld : A.L ≠ A.d := ne_of hL x.wk.dc (by intro z; cases z)
  have eW : A.e ≠ A.W := ne_of x.er hW (by intro z; cases z)
  have ed : A.e ≠ A.d := ne_of x.er x.wk.dc (by intro z; cases z)
  have mW : A.m ≠ A.W := ne_of hm hW (by intro z; cases z)
  have md : A.m ≠ A.d := fun z => nd1.1 (by rw [z]; simp)
  refine ⟨⟨dx, b.at (by simp [x.LW, Ld]) hL⟩, w, ?_, b.at (by simp [eW, ed]) x.er, K76.Paired.mapH x.ea fun r hr s z => z.keep (fun b' xs e => b.tup e) fun e => ?_, x.mks.keep fun o e => b.at (by simp [mW, md]) e, x.nd⟩
  · obtain ⟨ds, hd, l⟩ := x.dn
    exact ⟨ds, b.tup hd, l⟩
  · refine b.at ?_ e
    simp only [List.mem_cons, List.not_mem_nil, or_false, not_or]
    exact ⟨ne_of e hW (by intro z; cases z), fun q => nd1.1 (by rw [← q]; exact List.mem_cons_of_mem _ (List.mem_map.mpr ⟨r, hr, rfl⟩))⟩
def spAt (CL CW : Addr) : Sp := fun vs H Q _ => ∃ (A : LA) (h : Int) (cs : List Call) (f : Str → Option Nat) (th : List Str) (w : Str), vs = [.ref A.L, .str w] ∧ LineAt CL CW H A h cs f ∧ Hist th h cs ∧ IsWin w ∧
  ∀ H', LineAt CL CW H' A h cs f → Stp A A H H' → Q (oS ((behind h cs).S.thingAt w)) H'
theorem ok_Line_at (T : Txt K mg a) : Ok1 P w K mg base CX0 6 a.Line_at ["self", "window"] (spAt a.cLine a.cLineWork) := by
  obtain ⟨fd, F⟩ := T.f_Line_at
  obtain ⟨fd_is_window, G_is_window, b_is_window, kp_is_window⟩ := ok_is_window (P := P) (w := w) (base := base) T
  obtain ⟨fd_LineWork_tell, G_LineWork_tell, b_LineWork_tell, kp_LineWork_tell⟩ := ok_LineWork_tell (P := P) (w := w) (base := base) T
  refine ⟨fd, F.ok sc_Line_at (fun vs H Q E h => ?_) (fun cdv A outer s H vs Q E hr h => ?_), F.binds (ps := ["self", "window"]) fun _ _ _ _ _ _ us hl => match us, hl with | [_, _], _ => rfl, F.kp⟩
  · obtain ⟨A, h, cs, f, th, x, rfl, _⟩ := h
    rfl
  · skip
    refine ⟨_, (pss_cons (ps_if (pt_not (pt_val (pe_call G_is_window (hr.mono (by decide)) rfl T.g_is_window kp_is_window b_is_window .nil pass0 (pa_cons (pv 1) pa_nil)))) (pss_one ps_never) pss_nil)
      (pss_one (ps_ret (pe_meth (pe_fld (pv 0) rfl) T.c_LineWork T.m_LineWork_tell G_LineWork_tell (hr.mono (by decide)) b_LineWork_tell .nil pass0 (pa_cons (pe_tup (pa_cons pe_str (pa_cons (pv 1) pa_nil))) pa_nil))))), ?_⟩
    obtain ⟨A, h, cs, f, th, z, rfl, x, hi, hz, k⟩ := h
    obtain ⟨dx, hL⟩ := x.ob
    obtain ⟨dy, hW⟩ := x.wk.ob
    refine ⟨_, rfl, z, rfl, hz, true, rfl, iteF ?_⟩
    refine ⟨_, rfl, A.L, _, dx, _, _, rfl, hL, T.c_Line, T.n_Line_work, lfl_work, A.W, dy, _, rfl, hW, wfl_m_tell, _, rfl, (by show 2 ≤ sizeLine; decide), fun t nt => ?_⟩
    have s1 : Same H (upd H t (.tup [.str "look", .str z])) := fun b o e => by rw [upd_ne (ne_of_none e nt)]; exact e
    have x1 := x.same s1
    refine ⟨A.W, A.d, t, _, th, .plain (.look z), rfl, upd_same, ⟨x1.wk, hi.good, hz, fun H2 w2 b2 => ?_⟩⟩
    refine k H2 (x1.work w2 b2) ((Stp.same s1).trans (Stp.but' (b2.mono fun b hb => .inl ?_)))
    simp only [List.mem_cons, List.not_mem_nil, or_false] at hb
    unfold LA.fp
    rcases hb with rfl | rfl <;> simp
/-- told data -/
inductive Tr where
  | lf (v : V) | ls (xs : List Tr) | tp (xs : List Tr)
/-- v tells the tree; its lists stand at addresses of N; k: how deep -/
inductive Rep (N : Addr → Prop) (H : Hp) : Nat → V → Tr → Prop
  | lf {k : Nat} {v : V} : flatV v = true → Rep N H k v (.lf v)
  | ls {k : Nat} {a : Addr} {vs : List V} {ts : List Tr} : N a → H a = some (.lst vs) → vs.length = ts.length → (∀ (i : Nat) v t, vs[i]? = some v → ts[i]? = some t → Rep N H k v t) → Rep N H (k + 1) (.ref a) (.ls ts)
  | tp {k : Nat} {a : Addr} {vs : List V} {ts : List Tr} : H a = some (.tup vs) → vs.length = ts.length → (∀ (i : Nat) v t, vs[i]? = some v → ts[i]? = some t → Rep N H k v t) → Rep N H (k + 1) (.ref a) (.tp ts)
theorem Rep.keep {N N' : Addr → Prop} {H H' : Hp} {k : Nat} {v : V} {t : Tr} (r : Rep N H k v t) (hN : ∀ a, N a → N' a) (hl : ∀ a xs, N a → H a = some (.lst xs) → H' a = some (.lst xs)) (ht : ∀ a xs, H a = some (.tup xs) → H' a = some (.tup xs)) : Rep N' H' k v t := by
  induction r with
  | lf h => exact .lf h
  | ls n e l _ ih => exact .ls (hN _ n) (hl _ _ n e) l ih
  | tp e l _ ih => exact .tp (ht _ _ e) l ih
theorem Rep.up {N : Addr → Prop} {H : Hp} {k : Nat} {v : V} {t : Tr} (r : Rep N H k v t) : Rep N H (k + 1) v t := by
  induction r with
  | lf h => exact .lf h
  | ls n e l _ ih => exact .ls n e l ih
  | tp e l _ ih => exact .tp e l ih
def sortP (hu : Hung) : List Int := (hu.map (·.2)).mergeSort
def nameAt (hu : Hung) (y : Int) : Str := (firstAt y hu).getD Str.empty
def thingT (hu : Hung) (y : Int) : Tr := .tp [.lf (.int y), .lf (.str (nameAt hu y))]
def thingsT (hu : Hung) : Tr := .ls ((sortP hu).map (thingT hu))
def kvF (hu : Hung) : List (Key × V) := hu.map fun p => (Sum.inl p.2, V.str p.1)
theorem valV_kvF (y : Int) : ∀ hu : Hung, valV (kvF hu) (Sum.inl y : Key) = (firstAt y hu).map V.str
  | [] => rfl
  | p :: r => by
    show valV (((Sum.inl p.2 : Key), V.str p.1) :: kvF r) (Sum.inl y : Key) = _
    unfold firstAt
    by_cases e : p.2 = y
    · rw [valV_pos (p := ((Sum.inl p.2 : Key), V.str p.1)) (by rw [e]), if_pos e]
      rfl
    · rw [valV_neg (p := ((Sum.inl p.2 : Key), V.str p.1)) (fun q => e (Sum.inl.inj q)), if_neg e]
      exact valV_kvF y r
theorem sorted_one {ys : List Int} {hu : Hung} (h1 : ys.Perm (hu.map (·.2))) (h2 : ys.Pairwise (· ≤ ·)) : ys = sortP hu := by
  have p2 : (sortP hu).Perm (hu.map (·.2)) := List.mergeSort_perm _ _
  have s2 : (sortP hu).Pairwise (· ≤ ·) := by
    have := List.pairwise_mergeSort (le := fun a b : Int => decide (a ≤ b)) (fun a b c h1 h2 => by simp at *; omega) (fun a b => by simp; omega) (hu.map (·.2))
    exact this.imp fun h => by simpa using h
  exact (h1.trans p2.symm).eq_of_pairwise (fun a b _ _ h1 h2 => Int.le_antisymm h1 h2) h2 s2
def spThings (CL CW : Addr) : Sp := fun vs H Q _ => ∃ (A : LA) (h : Int) (cs : List Call) (f : Str → Option Nat) (th : List Str), vs = [.ref A.L] ∧ LineAt CL CW H A h cs f ∧ Hist th h cs ∧
  ∀ H' o, Same H H' → Rep (fun b => H b = none) H' 2 (.ref o) (thingsT (behind h cs).S.hung) → Q (.ref o) H'
theorem ok_Line_things (T : Txt K mg a) : Ok1 P w K mg base CX0 1 a.Line_things ["self"] (spThings a.cLine a.cLineWork) := by
  obtain ⟨fd, F⟩ := T.f_Line_things
  refine ⟨fd, F.ok sc_Line_things (fun vs H Q E h => ?_) (fun cdv A outer s H vs Q E hr h => ?_), F.binds (ps := ["self"]) fun _ _ _ _ _ _ us hl => match us, hl with | [_], _ => rfl, F.kp⟩
  · obtain ⟨A, h, cs, f, th, rfl, _⟩ := h
    rfl
  · have hu := hu_of hr
    refine ⟨_, (pss_cons (ps_lock (ps_set (i := 1) sc_Line_things.nd rfl (Or.inr rfl) (pe_dc (own := [("thing", 2), ("place", 3)]) (tt := tYes) rfl sc_Line_things.nd (pi_items (pe_fld (pe_fld (pv 0) rfl) rfl)) (blkOk_by (N := ["self", "found", "thing", "place"]) (sc := defScope s_Line_things) (by decide +kernel)) (fun _ _ _ _ _ => (pg_tupK (n := 2) (K := K) rfl rfl (pgs_cons (pg_name (i := 2) sc_Line_things.nd rfl (Or.inl rfl)) (pgs_cons (pg_name (i := 3) sc_Line_things.nd rfl (Or.inl rfl)) pgs_nil)))) (fun _ _ _ _ _ => pts_nil) (fun _ _ _ _ _ => (pv 3)) (fun _ _ _ _ _ => (pv 2)))))
      (pss_one (ps_ret (pe_lc (own := [("place", 3)]) (g := gName 3) (tt := tYes) rfl sc_Line_things.nd (pi_list (pe_callB (call_sortedDI rfl) (by rfl) T.b_sorted (by decide +kernel) (pa_cons (pv 1) pa_nil))) (blkOk_by (N := ["self", "found", "thing", "place"]) (sc := defScope s_Line_things) (by decide +kernel)) (fun _ _ _ _ _ => (pg_name (i := 3) sc_Line_things.nd rfl (Or.inl rfl))) (fun _ _ _ _ _ => pts_nil) (fun _ _ _ _ _ => (pe_tup (pa_cons (pv 3) (pa_cons (pe_dget hu (pv 1) (pv 3) (fun _ _ => rfl)) pa_nil)))))))), ?_⟩
    obtain ⟨A, h, cs, f, th, rfl, x, hi, k⟩ := h
    obtain ⟨dx, hL⟩ := x.ob
    obtain ⟨dy, hW⟩ := x.wk.ob
    have gd := hi.good
    have nLd : A.L ≠ A.d := ne_of hL x.wk.dc (by intro z; cases z)
    have nWd := x.wk.ne
    refine ⟨A.d, _, x.wk.dc, True.intro, fun od => ?_⟩
    refine ⟨_, rfl, A.L, _, dx, _, _, rfl, (by rw [upd_ne nLd]; exact hL), T.c_Line, T.n_Line_work, lfl_work, A.W, _, dy, _, _, rfl, (by rw [upd_ne nWd]; exact hW), T.c_LineWork, T.n_LineWork_hung, wfl_hung, A.d, od, _, rfl, upd_same, fun D nD => ?_⟩
    have dD : A.d ≠ D := ne_of_none upd_same nD
    have nD0 : H D = none := by rw [upd_ne dD.symm] at nD; exact nD
    refine dc_it ((behind h cs).S.hung.length) (fun i H' => H' D = some (.dK (kvF ((behind h cs).S.hung.take i))) ∧ Same (upd H A.d (.frz od (.dK (kvH (behind h cs).S.hung)))) H')
      ⟨upd_same, fun b o e => by rw [upd_ne (ne_of_none e nD)]; exact e⟩ ?go ?stop ?turn ?done
    case go =>
      rintro i H' hi' ⟨e, sm⟩
      exact ⟨sm _ _ upd_same, by rw [kvH_length]; exact hi'⟩
    case stop =>
      rintro H' ⟨e, sm⟩
      exact ⟨sm _ _ upd_same, by rw [kvH_length]; exact Nat.le_refl _⟩
    case turn =>
      rintro i H1 y H2 hi' ⟨e, sm⟩ ⟨Tt, k1, v1, he, rfl, hT, rfl⟩
      obtain ⟨q, hq⟩ : ∃ q, (behind h cs).S.hung[i]? = some q := ⟨(behind h cs).S.hung[i], by simp [hi']⟩
      have he' : (Sum.inr q.1, V.int q.2) = (k1, v1) := by
        unfold kvH at he
        rw [List.getElem?_map, hq] at he
        exact Option.some.inj he
      cases he'
      have DT : D ≠ Tt := ne_of_none e hT
      have tk := take_snoc hq
      have fresh : valV (kvF ((behind h cs).S.hung.take i)) (Sum.inl q.2 : Key) = none := by
        rw [valV_kvF]
        have : firstAt q.2 ((behind h cs).S.hung.take i) = none := by
          rw [firstAt_none]
          intro hm
          obtain ⟨p, hp, e2⟩ := List.mem_map.mp hm
          have nd := gd.places
          have sp : (behind h cs).S.hung = (behind h cs).S.hung.take i ++ q :: (behind h cs).S.hung.drop (i + 1) := by
            have h2 : (behind h cs).S.hung.drop i = q :: (behind h cs).S.hung.drop (i + 1) := by
              rw [List.drop_eq_getElem_cons hi']
              congr 1
              rw [List.getElem?_eq_getElem hi'] at hq
              exact Option.some.inj hq
            rw [← h2, List.take_append_drop]
          rw [sp, List.map_append, List.nodup_append] at nd
          exact nd.2.2 _ (List.mem_map.mpr ⟨p, hp, rfl⟩) _ (List.mem_map.mpr ⟨q, List.mem_cons_self, rfl⟩) e2
        rw [this]
        rfl
      refine ⟨Tt, _, rfl, SqT.of upd_same, rfl, _, _, rfl, _, _, rfl, rfl, rfl, _, rfl, _, rfl, _, Sum.inl q.2, rfl, (by rw [upd_ne DT]; exact e), ?_, ?_, fun b o z => ?_⟩
      · unfold kvF
        rw [List.length_map, List.length_take]
        have := gd.size
        exact small1000 (by omega)
      · rw [upd_same, putK_new _ fresh, tk]
        unfold kvF
        rw [List.map_append]
        rfl
      · rw [upd_ne (ne_of_none z nD), upd_ne (ne_of_none (sm _ _ z) hT)]
        exact sm _ _ z
    case done =>
      rintro H1 ⟨e, sm⟩
      rw [List.take_length] at e
      refine ⟨sm _ _ upd_same, ?_⟩
      have s2 : Same H (upd H1 A.d (.dK (kvH (behind h cs).S.hung))) := fun b o z => by
        by_cases hb : b = A.d
        · rw [hb, upd_same, ← z, hb]
          exact x.wk.dc.symm
        · rw [upd_ne hb]
          exact sm _ _ (by rw [upd_ne hb]; exact z)
      have e2 : (upd H1 A.d (.dK (kvH (behind h cs).S.hung))) D = some (.dK (kvF (behind h cs).S.hung)) := by rw [upd_ne dD.symm]; exact e
      generalize (upd H1 A.d (.dK (kvH (behind h cs).S.hung))) = H2 at s2 e2 ⊢
      refine ⟨_, rfl, D, _, (behind h cs).S.hung.map (·.2), rfl, .inl e2, (by unfold kvF; rw [List.map_map, List.map_map]; rfl), (by rw [List.length_map]; have := gd.size; omega), fun ys p perm srt np => ?_⟩
      have ey := sorted_one perm srt
      have ely : ys.length = (behind h cs).S.hung.length := by rw [perm.length_eq, List.length_map]
      have s3 : Same H2 (upd H2 p (.lst (ys.map V.int))) := fun b o z => by rw [upd_ne (ne_of_none z np)]; exact z
      refine ⟨p, rfl, ⟨_, SqL.of upd_same⟩, fun R nR => ?_⟩
      have pR : p ≠ R := ne_of_none upd_same nR
      have nR2 : H2 R = none := by rw [upd_ne pR.symm] at nR; exact nR
      have nR0 : H R = none := by
        cases q : H R with
        | none => rfl
        | some o => rw [s2 _ _ q] at nR2; cases nR2
      refine lc_list (K := K) (a := p) (xs := ys.map V.int) (fun i H' => ∃ rs : List Addr, H' R = some (.lst (rs.map V.ref)) ∧ rs.length = i ∧ (∀ (j : Nat) r y, rs[j]? = some r → ys[j]? = some y → H' r = some (.tup [.int y, .str (nameAt (behind h cs).S.hung y)])) ∧ Same (upd H2 p (.lst (ys.map V.int))) H')
        ⟨[], upd_same, rfl, fun j r y hj => by simp at hj, fun b o z => by rw [upd_ne (ne_of_none z nR)]; exact z⟩ ?_ ?_ ?_
      · rintro i H' _ ⟨rs, _, _, _, sm3⟩
        exact SqL.of (sm3 _ _ upd_same)
      · rintro i v H' hv ⟨rs, hR, hl, hr, sm3⟩
        obtain ⟨y, hy, rfl⟩ : ∃ y, ys[i]? = some y ∧ v = V.int y := by
          rw [List.getElem?_map] at hv
          cases q : ys[i]? with
          | none => rw [q] at hv; cases hv
          | some z => rw [q] at hv; exact ⟨z, rfl, (Option.some.inj hv).symm⟩
        have hmem : y ∈ (behind h cs).S.hung.map (·.2) := perm.mem_iff.mp (List.mem_of_getElem? hy)
        have hf : firstAt y (behind h cs).S.hung = some (nameAt (behind h cs).S.hung y) := by
          cases q : firstAt y (behind h cs).S.hung with
          | none => exact absurd hmem (firstAt_none.mp q)
          | some z => unfold nameAt; rw [q]; rfl
        have e3 : H' D = some (.dK (kvF (behind h cs).S.hung)) := sm3 _ _ (s3 _ _ e2)
        have g := DGet.k (k := Sum.inl y) e3
        rw [valV_kvF, hf] at g
        refine ⟨rfl, ?_⟩
        refine ⟨_, rfl, _, rfl, _, rfl, D, _, rfl, g, (by show 2 ≤ sizeLine; decide), fun t nt => ?_⟩
        have Rt : R ≠ t := ne_of_none hR nt
        refine ⟨_, (by rw [upd_ne Rt]; exact hR), ?_, rs ++ [t], ?_, ?_, ?_, fun b o z => ?_⟩
        · rw [List.length_map, hl]
          have h1 : i < ys.length := (List.getElem?_eq_some_iff.mp hy).1
          have := gd.size
          exact small1000 (by omega)
        · rw [upd_same, List.map_append]
          rfl
        · rw [List.length_append, hl]; rfl
        · intro j r y' hj hy'
          by_cases c : j < rs.length
          · rw [List.getElem?_append_left c] at hj
            have z := hr j r y' hj hy'
            rw [upd_ne (ne_of z hR (by intro q; cases q)), upd_ne (ne_of_none z nt)]
            exact z
          · have ej : j = i := by
              have := (List.getElem?_eq_some_iff.mp hj).1
              rw [List.length_append, List.length_singleton] at this
              omega
            subst ej
            rw [List.getElem?_append_right (by omega), hl, Nat.sub_self] at hj
            have : t = r := Option.some.inj hj
            subst this
            rw [hy] at hy'
            cases hy'
            rw [upd_ne Rt.symm]
            exact upd_same
        · rw [upd_ne (ne_of_none z nR), upd_ne (ne_of_none (sm3 _ _ z) nt)]
          exact sm3 _ _ z
      · rintro H' ⟨rs, hR, hl, hr, sm3⟩
        rw [List.length_map] at hl
        refine k H' R (fun b o z => sm3 _ _ (s3 _ _ (s2 _ _ z))) (.ls nR0 hR ?_ fun i v t hv ht => ?_)
        · rw [List.length_map, List.length_map, ← ey, hl]
        · rw [List.getElem?_map] at hv ht
          rw [← ey] at ht
          cases q1 : rs[i]? with
          | none => rw [q1] at hv; cases hv
          | some r =>
            rw [q1] at hv
            cases q2 : ys[i]? with
            | none => rw [q2] at ht; cases ht
            | some y =>
              rw [q2] at ht
              cases hv
              cases ht
              refine .tp (hr i r y q1 q2) rfl fun j v t hv ht => ?_
              match j, hv, ht with
              | 0, hv, ht => cases hv; cases ht; exact .lf rfl
              | 1, hv, ht => cases hv; cases ht; exact .lf rfl
              | j + 2, hv, ht => simp at hv
end
end K76
set_option maxRecDepth 100000
set_option maxHeartbeats 4000000
namespace K76
open PySem L2
section
variable {P : Program} {w : World} {K : PySem.W.Frag} {mg : Str → Option Value} {base : Heap} {a : Ad}

/-! ## undo, back_to -/
def keepM (f : Str → Option Nat) (n : Nat) : Str → Option Nat := fun x => match f x with
  | some k => if k ≤ n then some k else none
  | none => none
theorem keepM_none {f : Str → Option Nat} {n : Nat} {x : Str} (h : f x = none) : keepM f n x = none := by unfold keepM; rw [h]
theorem keepM_some {f : Str → Option Nat} {n k : Nat} {x : Str} (h : f x = some k) : keepM f n x = if k ≤ n then some k else none := by unfold keepM; rw [h]
theorem keepM_keepM (f : Str → Option Nat) {n m : Nat} (h : m ≤ n) : keepM (keepM f n) m = keepM f m := by
  funext x
  cases e : f x with
  | none => rw [keepM_none (keepM_none e), keepM_none e]
  | some k =>
    rw [keepM_some e]
    by_cases c : k ≤ n
    · rw [keepM_some (k := k) (by rw [keepM_some e, if_pos c])]
    · rw [keepM_none (by rw [keepM_some e, if_neg c]), if_neg (by omega)]
def MarksIn (f : Str → Option Nat) (n : Nat) : Prop := ∀ x k, f x = some k → k ≤ n
theorem keepM_all {f : Str → Option Nat} {n : Nat} (h : MarksIn f n) : keepM f n = f := by
  funext x
  cases e : f x with
  | none => rw [keepM_none e]
  | some k => rw [keepM_some e, if_pos (h x k e)]
theorem marksIn_keepM (f : Str → Option Nat) (n : Nat) : MarksIn (keepM f n) n := fun x k e => by
  cases q : f x with
  | none => rw [keepM_none q] at e; cases e
  | some j =>
    rw [keepM_some q] at e
    by_cases c : j ≤ n
    · rw [if_pos c] at e
      cases e
      exact c
    · rw [if_neg c] at e
      cases e
theorem lkM_filter (n : Nat) (x : Str) : ∀ {ms : List (Str × Nat)}, (ms.map (·.1)).Nodup → lkM (ms.filter fun p => decide (p.2 ≤ n)) x = keepM (lkM ms) n x
  | [], _ => rfl
  | p :: r, h => by
    obtain ⟨h1, h2⟩ := List.nodup_cons.mp (show (p.1 :: r.map (·.1)).Nodup from h)
    have ih := lkM_filter n x h2
    have lk1 : p.1 = x → lkM (p :: r) x = some p.2 := fun e => by unfold lkM; rw [List.find?_cons_of_pos (by simpa using e)]; rfl
    have lk2 : ¬ p.1 = x → lkM (p :: r) x = lkM r x := fun e => by unfold lkM; rw [List.find?_cons_of_neg (by simpa using e)]
    have notin : ∀ {l : List (Str × Nat)}, x ∉ l.map (·.1) → lkM l x = none := fun {l} hn => by
      unfold lkM
      rw [Option.map_eq_none_iff, List.find?_eq_none]
      intro q hq e
      exact hn (List.mem_map.mpr ⟨q, hq, by simpa using e⟩)
    by_cases c : p.2 ≤ n
    · rw [List.filter_cons_of_pos (by simpa using c)]
      by_cases e : p.1 = x
      · rw [keepM_some (lk1 e), if_pos c]
        unfold lkM
        rw [List.find?_cons_of_pos (by simpa using e)]
        rfl
      · have z : keepM (lkM (p :: r)) n x = keepM (lkM r) n x := by unfold keepM; rw [lk2 e]
        rw [z, ← ih]
        unfold lkM
        rw [List.find?_cons_of_neg (by simpa using e)]
    · rw [List.filter_cons_of_neg (by simpa using c), ih]
      by_cases e : p.1 = x
      · rw [keepM_some (lk1 e), if_neg c, keepM_none (notin (by rw [← e]; exact h1))]
      · unfold keepM
        rw [lk2 e]
theorem call_len_seqK {X : Cx} {K : PySem.W.Frag} (hK : X.K = K) : CallR X (.builtin "len") (fun xs H Q => ∃ p ys, xs = [.ref p] ∧ (SqL K H p ys ∨ SqT K H p ys) ∧ Q (.int ys.length) H) := by
  subst hK
  exact call_len_seq
structure UndoPost (CL CW : Addr) (A : LA) (h : Int) (cs : List Call) (f : Str → Option Nat) (H : Hp) (Q : VK) : Prop where
  q : ∀ A' H', LineAt CL CW H' A' h cs (keepM f cs.length) → Stp A A' H H' → Q .non H'
def spUndo (CL CW CN : Addr) : Sp := fun vs H Q E => ∃ (A : LA) (h : Int) (cs : List Call) (f : Str → Option Nat) (th : List Str), vs = [.ref A.L] ∧ LineAt CL CW H A h cs f ∧ Hist th h cs ∧
  (cs = [] → ∀ H', Same H H' → E (.ref CN) none H') ∧ ∀ cs' c, cs = cs' ++ [c] → UndoPost CL CW A h cs' f H Q
theorem ok_Line_undo (T : Txt K mg a) : Ok1 P w K mg base (L2.CX P w) 1 a.Line_undo ["self"] (spUndo a.cLine a.cLineWork a.cNothingToUndo) := by
  obtain ⟨fd, F⟩ := T.f_Line_undo
  refine ⟨fd, F.okX sc_Line_undo (fun vs H Q E h => ?_) (fun cdv A outer s H vs Q E hr h => ?_), F.binds (ps := ["self"]) fun _ _ _ _ _ _ us hl => match us, hl with | [_], _ => rfl, F.kp⟩
  · obtain ⟨A, h, cs, f, th, rfl, _⟩ := h
    rfl
  · skip
    refine ⟨_, (pss_cons (ps_if (pt_cmpR (op_eqNil hr.units0) (pe_fld (pv 0) rfl) (pe_lst pa_nil) (nomark _)) (pss_one (ps_raise rfl (takes_of rfl rfl rfl rfl) (pmk_own PySem.F.excBase_ValueError T.x_NTU T.g_NTU T.k_NTU (raises_own T.s_NTU T.t_NTU) rfl))) pss_nil)
      (PSs.nox (pss_cons (ps_asg (pe_bm0 PySem.F.plainAttrs_list PySem.F.slot_list_pop PySem.F.type_list_pop mt_pop (pe_fld (pv 0) rfl)) (pg_tup rfl (pgs_cons (pg_fld (pe_fld (pv 0) rfl)) (pgs_cons (pg_fld (pe_fld (pv 0) rfl)) (pgs_cons (pg_fld (pe_fld (pv 0) rfl)) (pgs_cons (pg_fld (pv 0)) pgs_nil))))))
      (pss_one (ps_fld (pv 0) (pe_lock (pe_dc (own := [("name", 1), ("calls", 2)]) rfl sc_Line_undo.nd (pi_items (pe_fld (pv 0) rfl)) (blkOk_by (N := ["self", "name", "calls"]) (sc := defScope s_Line_undo) (by decide +kernel)) (fun _ _ _ _ _ => (pg_tupK (n := 2) (K := K) rfl rfl (pgs_cons (pg_name (i := 1) sc_Line_undo.nd rfl (Or.inl rfl)) (pgs_cons (pg_name (i := 2) sc_Line_undo.nd rfl (Or.inl rfl)) pgs_nil)))) (fun _ _ _ _ _ => (pts_one (pt_cmpR op_le (pv 2) (pe_callB (call_len_seqK (K := K) rfl) (by rfl) T.b_len (by decide +kernel) (pa_cons (pe_fldK (K := K) rfl (pv 0) (by rfl)) pa_nil)) (nomark _)))) (fun _ _ _ _ _ => (pv 1)) (fun _ _ _ _ _ => (pv 2)))) rfl))))), ?_⟩
    obtain ⟨A, h, cs, f, th, rfl, x, hi, kE, kQ⟩ := h
    obtain ⟨dx, hL⟩ := x.ob
    refine ⟨_, rfl, A.L, _, dx, _, _, rfl, hL, T.c_Line, T.n_Line_earlier, lfl_earlier, (by show 0 ≤ sizeLine; decide), fun p np => ?_⟩
    have sp : Same H (upd H p (.lst [])) := fun b o e => by rw [upd_ne (ne_of_none e np)]; exact e
    have x1 := x.same sp
    refine ⟨A.e, p, _, rfl, rfl, SqL.of x1.er, SqL.of upd_same, _, rfl, ?_⟩
    have hlen : A.rs.length = cs.length := (Paired.length x.ea).trans (aheads_length h cs)
    rcases List.eq_nil_or_concat cs with rfl | ⟨cs', c, hcs⟩
    · have e0 : A.rs = [] := List.eq_nil_of_length_eq_zero hlen
      refine yesT (by rw [e0]; rfl) ?_
      exact kE rfl _ sp
    · rw [List.concat_eq_append] at hcs
      subst hcs
      have kQ := (kQ cs' c rfl).q
      have ea := x1.ea
      rw [aheads_snoc] at ea
      obtain ⟨rs', r, ers, ea', rec⟩ := K76.Paired.unsnoc ea
      have lrs : rs'.length = cs'.length := (Paired.length ea').trans (aheads_length h cs')
      refine noF (by rw [ers]; simp) ?_
      generalize hH1 : upd H p (.lst []) = H1 at sp x1 ea ea' rec
      obtain ⟨dx, hL⟩ := x1.ob
      obtain ⟨dy, hW⟩ := x1.wk.ob
      have er := x1.er
      rw [ers, List.map_append] at er
      have er : H1 A.e = some (.lst ((rs'.map fun r => V.ref r.1) ++ [.ref r.1])) := er
      have nd := x1.nd
      rw [ers, List.map_append] at nd
      have nd : (A.d :: A.m :: (rs'.map (·.2.1) ++ [r.2.1])).Nodup := nd
      have eL : A.L ≠ A.e := ne_of hL er (by intro z; cases z)
      have eW : A.W ≠ A.e := ne_of hW er (by intro z; cases z)
      have LW := x1.LW
      obtain ⟨ms, hm, m1, m2, m3⟩ := id x1.mks
      obtain ⟨ds, hu, hul⟩ := id rec.dn
      -- the record is taken off
      refine ⟨_, rfl, A.L, _, dx, _, _, rfl, hL, T.c_Line, T.n_Line_earlier, lfl_earlier, .inl ⟨rfl, _, SqL.of er⟩, A.e, _, .ref r.1, rfl, rfl, er, (by simp), ?_⟩
      rw [List.dropLast_concat]
      have re : r.1 ≠ A.e := ne_of rec.rc er (by intro z; cases z)
      have rW : r.1 ≠ A.W := ne_of rec.rc hW (by intro z; cases z)
      have rL : r.1 ≠ A.L := ne_of rec.rc hL (by intro z; cases z)
      refine ⟨r.1, _, rfl, SqT.of (by rw [upd_ne re]; exact rec.rc), rfl, ?_⟩
      -- stand, hung, lengths, done
      refine ⟨_, _, rfl, _, rfl, A.L, _, dx, _, _, rfl, (by rw [upd_ne eL]; exact hL), T.c_Line, T.n_Line_work, lfl_work, A.W, _, dy, _, rfl, (by rw [upd_ne eW]; exact hW), T.c_LineWork, T.n_LineWork_stand, wfl_len, ?_⟩
      rw [wfl_put_stand]
      refine ⟨_, _, rfl, _, rfl, A.L, _, dx, _, _, rfl, (by rw [upd_ne LW, upd_ne eL]; exact hL), T.c_Line, T.n_Line_work, lfl_work, A.W, _, dy, _, rfl, upd_same, T.c_LineWork, T.n_LineWork_hung, wfl_len, ?_⟩
      rw [wfl_put_hung, upd_upd]
      refine ⟨_, _, rfl, _, rfl, A.L, _, dx, _, _, rfl, (by rw [upd_ne LW, upd_ne eL]; exact hL), T.c_Line, T.n_Line_work, lfl_work, A.W, _, dy, _, rfl, upd_same, T.c_LineWork, T.n_LineWork_lengths, wfl_len, ?_⟩
      rw [wfl_put_lengths, upd_upd]
      refine ⟨_, _, rfl, _, rfl, A.L, _, dx, _, rfl, (by rw [upd_ne LW, upd_ne eL]; exact hL), T.c_Line, T.n_Line_done, lfl_len, rfl, ?_⟩
      rw [lfl_put_done]
      generalize hH2 : upd (upd (upd H1 A.e (.lst (rs'.map fun r => V.ref r.1))) A.W (.ins a.cLineWork dy (wfl (behind h (cs' ++ [c])).S.half (behind h cs').S.stand r.2.1 (behind h cs').S.len))) A.L (.ins a.cLine dx (lfl h A.W r.2.2 A.e A.m)) = H2
      have keep2 : ∀ b o, H1 b = some o → b ≠ A.L → b ≠ A.W → b ≠ A.e → H2 b = some o := fun b o e h1 h2 h3 => by
        rw [← hH2, upd_ne h1, upd_ne h2, upd_ne h3]
        exact e
      have L2 : H2 A.L = some (.ins a.cLine dx (lfl h A.W r.2.2 A.e A.m)) := by rw [← hH2]; exact upd_same
      have W2 : H2 A.W = some (.ins a.cLineWork dy (wfl (behind h (cs' ++ [c])).S.half (behind h cs').S.stand r.2.1 (behind h cs').S.len)) := by rw [← hH2, upd_ne LW.symm]; exact upd_same
      have e2 : H2 A.e = some (.lst (rs'.map fun r => V.ref r.1)) := by rw [← hH2, upd_ne eL.symm, upd_ne eW.symm]; exact upd_same
      rw [behind_half] at W2
      have dks : ∀ {b : Addr} {kvs : List (Key × V)}, H1 b = some (.dK kvs) → H2 b = some (.dK kvs) := fun e => keep2 _ _ e (ne_of e hL (by intro z; cases z)) (ne_of e hW (by intro z; cases z)) (ne_of e er (by intro z; cases z))
      have tups : ∀ b xs, H1 b = some (.tup xs) → H2 b = some (.tup xs) := fun b xs e => keep2 _ _ e (ne_of e hL (by intro z; cases z)) (ne_of e hW (by intro z; cases z)) (ne_of e er (by intro z; cases z))
      have m2' := dks hm
      clear hH2
      -- the marks
      refine ⟨A.m, _, m2', True.intro, fun od => ?_⟩
      have Lm : A.L ≠ A.m := ne_of hL hm (by intro z; cases z)
      have em : A.e ≠ A.m := ne_of er hm (by intro z; cases z)
      refine ⟨_, rfl, A.L, _, dx, _, _, rfl, (by rw [upd_ne Lm]; exact L2), T.c_Line, T.n_Line_marks, lfl_marks, A.m, od, _, rfl, upd_same, fun D nD => ?_⟩
      have mD : A.m ≠ D := ne_of_none upd_same nD
      have nD2 : H2 D = none := by rw [upd_ne mD.symm] at nD; exact nD
      refine dc_it ms.length (fun i H' => H' D = some (.dK (kvM ((ms.take i).filter fun p => decide (p.2 ≤ cs'.length)))) ∧ Same (upd H2 A.m (.frz od (.dK (kvM ms)))) H')
        ⟨upd_same, fun b o e => by rw [upd_ne (ne_of_none e nD)]; exact e⟩ ?go ?stop ?turn ?done
      case go =>
        rintro i H' hi' ⟨e, sm⟩
        exact ⟨sm _ _ upd_same, by rw [kvM_length]; exact hi'⟩
      case stop =>
        rintro H' ⟨e, sm⟩
        exact ⟨sm _ _ upd_same, by rw [kvM_length]; exact Nat.le_refl _⟩
      case turn =>
        rintro i H3 y H4 hi' ⟨e, sm⟩ ⟨Tt, k1, v1, he, rfl, hT, rfl⟩
        obtain ⟨q, hq⟩ : ∃ q, ms[i]? = some q := ⟨ms[i], by simp [hi']⟩
        have he' : (Sum.inr q.1, V.int (q.2 : Int)) = (k1, v1) := by
          unfold kvM at he
          rw [List.getElem?_map, hq] at he
          exact Option.some.inj he
        cases he'
        have DT : D ≠ Tt := ne_of_none e hT
        have tk := take_snoc hq
        have sm4 : Same (upd H2 A.m (.frz od (.dK (kvM ms)))) (upd H3 Tt (.tup [kV (Sum.inr q.1), V.int (q.2 : Int)])) := fun b o z => by
          rw [upd_ne (ne_of_none (sm _ _ z) hT)]
          exact sm _ _ z
        have L4 := sm4 A.L _ (by rw [upd_ne Lm]; exact L2)
        have e4 := sm4 A.e _ (by rw [upd_ne em]; exact e2)
        refine ⟨Tt, _, rfl, SqT.of upd_same, rfl, _, _, rfl, _, _, rfl, rfl, rfl, ?_⟩
        refine ⟨_, rfl, _, rfl, A.L, _, dx, _, _, rfl, L4, T.c_Line, T.n_Line_earlier, lfl_earlier, A.e, _, rfl, .inl (SqL.of e4), _, _, rfl, rfl, _, rfl, ?_⟩
        rw [List.length_map, lrs]
        refine ite_or (fun c1 => ?_) (fun c1 => ?_)
        · have c2 : q.2 ≤ cs'.length := by have := of_decide_eq_true c1; omega
          have ft : ((ms.take (i + 1)).filter fun p => decide (p.2 ≤ cs'.length)) = ((ms.take i).filter fun p => decide (p.2 ≤ cs'.length)) ++ [q] := by
            rw [tk, List.filter_append, List.filter_cons_of_pos (by simpa using c2)]
            rfl
          have fresh : valV (kvM ((ms.take i).filter fun p => decide (p.2 ≤ cs'.length))) (Sum.inr q.1 : Key) = none := by
            rw [valV_kvM]
            have : lkM ((ms.take i).filter fun p => decide (p.2 ≤ cs'.length)) q.1 = none := by
              unfold lkM
              rw [Option.map_eq_none_iff, List.find?_eq_none]
              intro z hz e3
              have z1 : z ∈ ms.take i := (List.mem_filter.mp hz).1
              have sp2 : ms.drop i = q :: ms.drop (i + 1) := by
                rw [List.drop_eq_getElem_cons hi']
                congr 1
                rw [List.getElem?_eq_getElem hi'] at hq
                exact Option.some.inj hq
              have nd3 := m1
              rw [← List.take_append_drop i ms, sp2, List.map_append, List.nodup_append] at nd3
              exact nd3.2.2 _ (List.mem_map.mpr ⟨z, z1, rfl⟩) _ (List.mem_map.mpr ⟨q, List.mem_cons_self, rfl⟩) (by simpa using e3)
            rw [this]
            rfl
          refine ⟨_, rfl, _, rfl, _, Sum.inr q.1, rfl, (by rw [upd_ne DT]; exact e), ?_, ?_, fun b o z => ?_⟩
          · rw [kvM_length]
            have l1 := List.length_filter_le (fun p : Str × Nat => decide (p.2 ≤ cs'.length)) (ms.take i)
            have l2 := few_names m1 m2
            rw [List.length_take] at l1
            exact small1000 (by omega)
          · rw [upd_same, putK_new _ fresh, ft]
            unfold kvM
            rw [List.map_append]
            rfl
          · rw [upd_ne (ne_of_none z nD)]
            exact sm4 _ _ z
        · have c2 : ¬ q.2 ≤ cs'.length := by have := of_decide_eq_false c1; omega
          have ft : ((ms.take (i + 1)).filter fun p => decide (p.2 ≤ cs'.length)) = (ms.take i).filter fun p => decide (p.2 ≤ cs'.length) := by
            rw [tk, List.filter_append, List.filter_cons_of_neg (by simpa using c2)]
            simp
          refine ⟨?_, sm4⟩
          rw [upd_ne DT, ft]
          exact e
      case done =>
        rintro H3 ⟨e, sm⟩
        rw [List.take_length] at e
        refine ⟨sm _ _ upd_same, ?_⟩
        have keep4 : ∀ b o, H2 b = some o → (upd H3 A.m (.dK (kvM ms))) b = some o := fun b o z => by
          by_cases hb : b = A.m
          · rw [hb, upd_same, ← m2', ← hb]
            exact z
          · rw [upd_ne hb]
            exact sm _ _ (by rw [upd_ne hb]; exact z)
        have D4 : (upd H3 A.m (.dK (kvM ms))) D = some (.dK (kvM (ms.filter fun p => decide (p.2 ≤ cs'.length)))) := by rw [upd_ne mD.symm]; exact e
        generalize upd H3 A.m (.dK (kvM ms)) = H4 at keep4 D4 ⊢
        have L4 := keep4 _ _ L2
        refine ⟨_, rfl, A.L, _, dx, _, rfl, L4, T.c_Line, T.n_Line_marks, lfl_len, ?_⟩
        rw [lfl_put_marks]
        have keep5 : ∀ b o, H2 b = some o → b ≠ A.L → (upd H4 A.L (.ins a.cLine dx (lfl h A.W r.2.2 A.e D))) b = some o := fun b o z hb => by rw [upd_ne hb]; exact keep4 _ _ z
        have LD : A.L ≠ D := ne_of_none L2 nD2
        have nD0 : H D = none := by
          cases q : H D with
          | none => rfl
          | some o =>
            have z := sp _ _ q
            by_cases c1 : D = A.L
            · exact absurd c1.symm LD
            · by_cases c2 : D = A.W
              · rw [c2, W2] at nD2; cases nD2
              · by_cases c3 : D = A.e
                · rw [c3, e2] at nD2; cases nD2
                · rw [keep2 _ _ z c1 c2 c3] at nD2; cases nD2
        have ndd := List.nodup_cons.mp nd
        have ndm := List.nodup_cons.mp ndd.2
        have ndr := List.nodup_append.mp ndm.2
        have tup5 : ∀ b xs, H1 b = some (.tup xs) → (upd H4 A.L (.ins a.cLine dx (lfl h A.W r.2.2 A.e D))) b = some (.tup xs) := fun b xs z => keep5 _ _ (tups b xs z) (ne_of z hL (by intro z; cases z))
        have dk5 : ∀ {b : Addr} {kvs : List (Key × V)}, H1 b = some (.dK kvs) → (upd H4 A.L (.ins a.cLine dx (lfl h A.W r.2.2 A.e D))) b = some (.dK kvs) := fun z => keep5 _ _ (dks z) (ne_of z hL (by intro z; cases z))
        refine kQ ⟨A.L, A.W, r.2.2, A.e, D, r.2.1, rs'⟩ _ ⟨⟨dx, upd_same⟩, ⟨⟨dy, ?_⟩, dk5 rec.dc⟩, ⟨ds, tup5 _ _ hu, hul⟩, keep5 _ _ e2 eL.symm, K76.Paired.mapH ea' fun r' hr' s z => z.keep tup5 dk5, ⟨_, (by rw [upd_ne LD.symm]; exact D4), ?_, fun p hp => m2 p (List.mem_filter.mp hp).1, fun y => ?_⟩, ?_⟩ ⟨rfl, ?_, ?_⟩
        · rw [behind_half]
          exact keep5 _ _ W2 LW.symm
        · exact (List.filter_sublist.map _).nodup m1
        · rw [lkM_filter _ _ m1]
          unfold keepM
          rw [m3]
        · show (r.2.1 :: D :: rs'.map (·.2.1)).Nodup
          rw [List.nodup_cons, List.nodup_cons]
          refine ⟨?_, ?_, ndr.1⟩
          · simp only [List.mem_cons, not_or]
            refine ⟨fun z => ?_, fun z => ndr.2.2 _ z _ (by simp) rfl⟩
            have q := dks rec.dc
            rw [z, nD2] at q
            cases q
          · intro z
            obtain ⟨r', hr', e3⟩ := List.mem_map.mp z
            have : D ∈ A.fp := by
              unfold LA.fp
              simp only [List.mem_cons]
              exact .inr (.inr (.inr (.inr (.inr (by rw [ers, List.map_append]; exact List.mem_append_left _ z)))))
            obtain ⟨o, e4, _⟩ := x.noTup D this
            rw [nD0] at e4
            cases e4
        · intro b o z hb
          have z1 := sp _ _ z
          by_cases c1 : b = A.L
          · obtain ⟨xs, rfl⟩ := hb (by simp [LA.fp, c1])
            rw [c1, hL] at z1; cases z1
          · by_cases c2 : b = A.W
            · obtain ⟨xs, rfl⟩ := hb (by simp [LA.fp, c2])
              rw [c2, hW] at z1; cases z1
            · by_cases c3 : b = A.e
              · obtain ⟨xs, rfl⟩ := hb (by simp [LA.fp, c3])
                rw [c3, er] at z1; cases z1
              · exact keep5 _ _ (keep2 _ _ z1 c1 c2 c3) c1
        · intro b hb
          unfold LA.fp at hb
          simp only [List.mem_cons] at hb
          unfold LA.fp
          simp only [List.mem_cons]
          rw [ers, List.map_append]
          rcases hb with z | z | z | z | z | z
          · exact .inl (.inl z)
          · exact .inl (.inr (.inl z))
          · exact .inl (.inr (.inr (.inl z)))
          · exact .inr (by rw [z]; exact nD0)
          · exact .inl (.inr (.inr (.inr (.inr (.inr (by rw [z]; simp))))))
          · exact .inl (.inr (.inr (.inr (.inr (.inr (List.mem_append_left _ z))))))
end
end K76
set_option maxRecDepth 100000
set_option maxHeartbeats 4000000
namespace K76
open PySem L2
section
variable {P : Program} {w : World} {K : PySem.W.Frag} {mg : Str → Option Value} {base : Heap} {a : Ad}

/-! ## back_to -/
def spNM (CN : Addr) : Sp := fun vs H Q _ => ∃ (e : Addr) (v : V), vs = [.ref e, v] ∧ H e = some (exo e CN none) ∧ ∀ d, H d = none → d ≠ e → Q .non (upd (upd H d (exd d [("name", v)])) e (exo e CN (some d)))
theorem ok_NoMark_init (T : Txt K mg a) : Ok1 P w K mg base CX0 1 a.NoMark_init ["self", "name"] (spNM a.cNoMark) := by
  obtain ⟨fd, F⟩ := T.f_NoMark_init
  refine ⟨fd, F.ok sc_NoMark_init (fun vs H Q E h => ?_) (fun cdv A outer s H vs Q E hr h => ?_), F.binds (ps := ["self", "name"]) fun _ _ _ _ _ _ us hl => match us, hl with | [_, _], _ => rfl, F.kp⟩
  · obtain ⟨e, v, rfl, _⟩ := h
    rfl
  · skip
    refine ⟨_, (pss_one (ps_ost (pv 0) (pv 1))), ?_⟩
    obtain ⟨e, v, rfl, he, k⟩ := h
    exact ⟨_, rfl, _, rfl, e, _, rfl, T.o_NM, T.n_NM, .inl ⟨he, fun d hd hne => k d hd hne⟩⟩
def spBack (CL CW CN : Addr) : Sp := fun vs H Q E => ∃ (A : LA) (h : Int) (cs : List Call) (f : Str → Option Nat) (th : List Str) (x : Str), vs = [.ref A.L, .str x] ∧ x ∈ names3 ∧ LineAt CL CW H A h cs f ∧ Hist th h cs ∧ MarksIn f cs.length ∧
  (f x = none → ∀ d H', Same H H' → E (.ref CN) d H') ∧ ∀ n, f x = some n → ∀ A' H', LineAt CL CW H' A' h (cs.take n) (keepM f n) → Stp A A' H H' → Q .non H'
theorem Hist.take {th : List Str} {h : Int} {cs : List Call} (x : Hist th h cs) (n : Nat) : Hist th h (cs.take n) :=
  ⟨x.h1, x.h2, x.few, fun c hc => x.calls c (List.mem_of_mem_take hc), Nat.le_trans (List.length_take_le' _ _) x.most⟩
theorem ok_Line_back_to (T : Txt K mg a) : Ok1 P w K mg base (L2.CX P w) 3 a.Line_back_to ["self", "name"] (spBack a.cLine a.cLineWork a.cNoMark) := by
  obtain ⟨fd, F⟩ := T.f_Line_back_to
  obtain ⟨fd_is_thing, G_is_thing, b_is_thing, kp_is_thing⟩ := ok_is_thing (P := P) (w := w) (base := base) T
  obtain ⟨fd_NoMark_init, G_NoMark_init, b_NoMark_init, kp_NoMark_init⟩ := ok_NoMark_init (P := P) (w := w) (base := base) T
  obtain ⟨fd_Line_undo, G_Line_undo, b_Line_undo, kp_Line_undo⟩ := ok_Line_undo (P := P) (w := w) (base := base) T
  refine ⟨fd, F.okX sc_Line_back_to (fun vs H Q E h => ?_) (fun cdv A outer s H vs Q E hr h => ?_), F.binds (ps := ["self", "name"]) fun _ _ _ _ _ _ us hl => match us, hl with | [_, _], _ => rfl, F.kp⟩
  · obtain ⟨A, h, cs, f, th, x, rfl, _⟩ := h
    rfl
  · have hu := hu_of hr
    refine ⟨_, (pss_cons (ps_if (PW.pt (pw_or (pt_not (pt_val (pe_call G_is_thing (hr.mono (by decide)) rfl T.g_is_thing kp_is_thing b_is_thing .nil pass0 (pa_cons (pv 1) pa_nil)))) (pw_or1 (pt_cmp (pc_dnotin hu (pv 1) (pe_fld (pv 0) rfl)))))) (pss_one (ps_raise rfl (takes_of rfl rfl rfl rfl) (pmk_oex T.o_NM T.i_NM T.ti_NM G_NoMark_init (hr.mono (by decide)) b_NoMark_init .nil pass0 rfl T.g_NM (pa_cons (pv 1) pa_nil)))) pss_nil)
      (PSs.nox (pss_one (ps_while PassesOwn.never (pt_cmpR op_gt (pe_callB call_len_seq (by rfl) T.b_len (by decide +kernel) (pa_cons (pe_fld (pv 0) rfl) pa_nil)) (pe_dget hu (pe_fld (pv 0) rfl) (pv 1) (fun _ _ => rfl)) (nomark _)) (pss_one (ps_expr (pe_meth0 (pv 0) T.c_Line T.m_Line_undo G_Line_undo (hr.mono (by decide)) b_Line_undo .nil passL))))))), ?_⟩
    obtain ⟨A, h, cs, f, th, x, rfl, hx, l, hi, mi, kE, kQ⟩ := h
    refine ⟨_, rfl, x, rfl, names3_thing hx, fun H1 s1 => ⟨true, rfl, iteF ?_⟩⟩
    have l1 := l.same s1
    obtain ⟨dx, hL⟩ := l1.ob
    obtain ⟨ms, hm, m1, m2, m3⟩ := id l1.mks
    refine ⟨_, rfl, _, rfl, A.L, _, dx, _, _, rfl, hL, T.c_Line, T.n_Line_marks, lfl_marks, A.m, _, rfl, DGet.k (k := Sum.inr x) hm, _, rfl, ?_⟩
    rw [valV_kvM, m3]
    cases e : f x with
    | none =>
      refine yesT rfl ?_
      refine ⟨_, rfl, (by show 1 ≤ 1000; decide), fun ex hex => ?_⟩
      refine ⟨ex, .str x, rfl, upd_same, fun d hd hne => ⟨rfl, d, _, upd_same, (by rw [upd_ne hne]; exact upd_same), (by rw [upd_ne hne] at hd; exact hd), ?_⟩⟩
      have hd1 : H1 d = none := by rw [upd_ne hne] at hd; exact hd
      refine kE e _ _ fun b o z => ?_
      have z1 := s1 _ _ z
      have be : b ≠ ex := ne_of_none z1 hex
      have bd : b ≠ d := ne_of_none z1 hd1
      rw [upd_ne bd, del_ne be, upd_ne be, upd_ne bd, upd_ne be]
      exact z1
    | some n =>
      refine noF rfl ?_
      have hn := mi x n e
      refine ⟨fun m σ H' => ∃ (A' : LA) (j : Nat), σ = [some (.ref A.L), some (.str x)] ∧ LineAt a.cLine a.cLineWork H' A' h (cs.take j) (keepM f j) ∧ n ≤ j ∧ j ≤ cs.length ∧ Stp A A' H H' ∧ m = j, ⟨cs.length, A, cs.length, rfl, ?_, hn, Nat.le_refl _, Stp.same s1, rfl⟩, ?_⟩
      · rw [List.take_length, keepM_all mi]
        exact l1
      · rintro m σ H2 ⟨A2, j, rfl, l2, nj, jc, st, rfl⟩
        obtain ⟨dx2, hL2⟩ := l2.ob
        rw [st.L] at hL2
        obtain ⟨ms2, hm2, _, _, n3⟩ := id l2.mks
        have len : A2.rs.length = m := by
          rw [Paired.length l2.ea, aheads_length, List.length_take]
          omega
        have g := DGet.k (k := Sum.inr x) hm2
        rw [valV_kvM, n3, keepM_some e, if_pos nj] at g
        refine ⟨_, rfl, A.L, _, dx2, _, _, rfl, hL2, T.c_Line, T.n_Line_earlier, lfl_earlier, A2.e, _, rfl, .inl (SqL.of l2.er), ?_⟩
        refine ⟨_, rfl, A.L, _, dx2, _, _, rfl, hL2, T.c_Line, T.n_Line_marks, lfl_marks, _, rfl, A2.m, _, rfl, g, _, _, rfl, rfl, _, rfl, ?_⟩
        rw [List.length_map, len]
        refine ite_or (fun c1 => ?_) (fun c1 => ?_)
        · have c2 : n < m := by have := of_decide_eq_true c1; omega
          refine ⟨fun σ' H' => σ' = [some (.ref A.L), some (.str x)] ∧ ∃ A' : LA, LineAt a.cLine a.cLineWork H' A' h (cs.take (m - 1)) (keepM f (m - 1)) ∧ Stp A A' H H', ?_, ?_⟩
          · rintro σ' H' ⟨rfl, A', l3, st3⟩
            exact ⟨m - 1, by omega, A', m - 1, rfl, l3, by omega, by omega, st3, rfl⟩
          · obtain ⟨c, hc⟩ : ∃ c, cs[m - 1]? = some c := ⟨cs[m - 1]'(by omega), by simp⟩
            have tk := take_snoc hc
            rw [show m - 1 + 1 = m by omega] at tk
            have lt : (cs.take (m - 1)).length = m - 1 := by rw [List.length_take]; omega
            refine ⟨_, rfl, A.L, dx2, _, rfl, hL2, lfl_m_undo, A2, h, _, _, th, by rw [st.L]; rfl, l2, hi.take m, fun z => ?_, fun cs' c' hcc => ⟨fun A3 H3 l3 st3 => ?_⟩⟩
            · rw [tk] at z
              simp at z
            · rw [tk] at hcc
              obtain ⟨rfl, _⟩ := List.append_inj' hcc rfl
              rw [lt, keepM_keepM f (by omega)] at l3
              exact ⟨rfl, A3, l3, st.trans st3⟩
        · have c2 : m = n := by have := of_decide_eq_false c1; omega
          subst c2
          exact kQ m e A2 H2 l2 st
end
end K76
set_option maxRecDepth 100000
set_option maxHeartbeats 4000000
namespace K76
open PySem L2
section
variable {P : Program} {w : World} {K : PySem.W.Frag} {mg : Str → Option Value} {base : Heap} {a : Ad}

/-! ## Plan -/
def spPInit (CP : Addr) : Sp := fun vs H Q _ => ∃ (p dx t : Addr) (ts : List Addr) (ds : List DD) (th : List Str), vs = [.ref p, .ref t] ∧ H p = some (.ins CP dx []) ∧ H t = some (.tup (ts.map V.ref)) ∧ Paired (DeedAt H) ts ds ∧ (∀ d ∈ ds, d.ok th) ∧ ds.length ≤ 5 ∧
  ∀ H', PlanAt CP H' p ts → But [p] H H' → Q .non H'
theorem pl_init {kt : Addr} : putF "kept" (V.ref kt) [] = ([("kept", V.ref kt)] : List (Str × V)) := rfl
theorem ok_Plan_init2 (T : Txt K mg a) : ∃ fd, FnOk P w K mg base CX0 5 a.Plan_init fd ["self", "deeds"] (spPInit a.cPlan) ∧ Binds K fd ["self", "deeds"] [] := by
  obtain ⟨fd, dv, F⟩ := T.f_Plan_init
  obtain ⟨fd_is_deed, G_is_deed, b_is_deed, kp_is_deed⟩ := ok_is_deed (P := P) (w := w) (base := base) T
  obtain ⟨_, hMOST_DEEDS⟩ := T.MOST_DEEDS
  refine ⟨fd, F.ok sc_Plan_init (fun vs H Q E h => ?_) (fun cdv A outer s H vs Q E hr h => ?_), ?_⟩
  · obtain ⟨p, dx, t, ts, ds, th, rfl, _⟩ := h
    rfl
  · obtain ⟨p, dx, t, ts, ds, th, rfl, hp, ht, hts, ok, hl, k⟩ := h
    refine ⟨_, PSs.nox (pss_cons (ps_if (pt_not (pt_val (pe_callB call_isi (by rfl) T.b_isinstance (by decide +kernel) (pa_cons (pv 1) (pa_cons (pe_bltn (v := .ty "tuple") (by rfl) T.b_tuple (by decide +kernel) rfl) pa_nil))))) (pss_one ps_never) pss_nil)
      (pss_cons (ps_for PassesOwn.never rfl (pi_enumT (by rfl) T.b_enumerate (pa_cons (pv 1) pa_nil)) (pg_tup rfl (pgs_cons (pg_name (i := 2) sc_Plan_init.nd rfl (Or.inl rfl)) (pgs_cons (pg_name (i := 3) sc_Plan_init.nd rfl (Or.inl rfl)) pgs_nil))) (pss_one (ps_if (PW.pt (pw_or (pt_cmpR op_ge (pv 2) (pe_glob (v := .int 12) rfl hMOST_DEEDS ⟨_, rfl⟩) (nomark _)) (pw_or1 (pt_not (pt_val (pe_call G_is_deed (hr.mono (by decide)) rfl T.g_is_deed kp_is_deed b_is_deed .nil pass0 (pa_cons (pv 3) pa_nil))))))) (pss_one ps_never) pss_nil)))
      (pss_one (ps_fld (pv 0) (pv 1) rfl)))), ?_⟩
    have tl : ts.length = ds.length := Paired.length hts
    refine ⟨_, rfl, .ref t, .ty "tuple", .type "tuple", .type "tuple", true, rfl, ClsV.ty _, .base (.tup ht), kit_ty (by decide +kernel), true, rfl, iteF ?_⟩
    refine ⟨_, rfl, t, ts.map V.ref, rfl, SqT.of ht, for_it (ts.map V.ref).length (fun i σ H' => ∃ v1 v2, σ = [some (.ref p), some (.ref t), v1, v2] ∧ Same H H') ⟨none, none, rfl, Same.refl _⟩ ?go ?stop ?turn ?done⟩
    case go =>
      rintro i σ H' hi ⟨v1, v2, rfl, s1⟩
      exact ⟨SqT.of (s1 _ _ ht), hi⟩
    case stop =>
      rintro σ H' ⟨v1, v2, rfl, s1⟩
      exact ⟨SqT.of (s1 _ _ ht), Nat.le_refl _⟩
    case turn =>
      rintro i σ H1 y H2 hi ⟨v1, v2, rfl, s1⟩ ⟨Tt, z, rfl, hT, rfl, hz⟩
      rw [List.length_map] at hi
      obtain ⟨t', ht', rfl⟩ : ∃ t', ts[i]? = some t' ∧ z = V.ref t' := by
        rw [List.getElem?_map] at hz
        cases q : ts[i]? with
        | none => rw [q] at hz; cases hz
        | some z => rw [q] at hz; exact ⟨z, rfl, (Option.some.inj hz).symm⟩
      obtain ⟨dd, hdd, dat⟩ := K76.Paired.get1 hts ht'
      have s2 : Same H (upd H1 Tt (.tup [.int (i : Nat), .ref t'])) := fun b o e => by rw [upd_ne (ne_of_none (s1 _ _ e) hT)]; exact s1 _ _ e
      refine ⟨Tt, _, rfl, SqT.of upd_same, rfl, _, _, rfl, _, _, rfl, rfl, ?_⟩
      refine ⟨_, rfl, _, _, rfl, rfl, _, rfl, noF (decide_eq_false (by omega)) ?_⟩
      refine ⟨_, rfl, t', th, dd, rfl, dat.but (But.same (F := []) s2), ok dd (List.mem_of_getElem? hdd), fun H3 s3 => ⟨true, rfl, ?_⟩⟩
      exact ⟨_, _, rfl, s2.trans s3⟩
    case done =>
      rintro σ H1 ⟨v1, v2, rfl, s1⟩
      refine ⟨_, rfl, _, rfl, p, _, dx, _, rfl, s1 _ _ hp, T.c_Plan, T.n_Plan_kept, (by show 0 < 1000; decide), ?_⟩
      rw [pl_init]
      have tp : t ≠ p := ne_of ht hp (by intro z; cases z)
      refine k _ ⟨dx, t, upd_same, by rw [upd_ne tp]; exact s1 _ _ ht⟩ ((But.same (F := [p]) s1).trans (But.set (F := [p]) (by simp) (s1 _ _ hp) (by intro xs z; cases z)) fun z hz => .inl hz)
  · obtain ⟨ds, hv, hb⟩ := F.binds1 (ps := ["self", "deeds"]) 2 1 (by simp) rfl fun T' kV doc pm an cdv ct us its hu hi => by
      match us, its, hu, hi with
      | [_, _], [_], _, _ => exact ⟨_, rfl, rfl⟩
    cases hv
    exact hb
end
end K76
set_option maxRecDepth 100000
set_option maxHeartbeats 4000000
namespace K76
open PySem L2
section
variable {P : Program} {w : World} {K : PySem.W.Frag} {mg : Str → Option Value} {base : Heap} {a : Ad}

/-! ## The law's draws -/
/-- a well stands at p, with at most c draws behind it -/
def WellAt (H : Hp) (p : Addr) (c : Nat) : Prop := ∃ x y z : Int, H p = some (.lst [.int x, .int y, .int z]) ∧ 0 ≤ y ∧ y < 2 ^ 200 ∧ 0 ≤ z ∧ z ≤ (c : Int)
theorem WellAt.mono {H : Hp} {p : Addr} {c d : Nat} (h : WellAt H p c) (l : c ≤ d) : WellAt H p d := by
  obtain ⟨x, y, z, e, h1, h2, h3, h4⟩ := h
  exact ⟨x, y, z, e, h1, h2, h3, by omega⟩
theorem WellAt.at {H H' : Hp} {p : Addr} {c : Nat} (h : WellAt H p c) (k : ∀ o, H p = some o → H' p = some o) : WellAt H' p c := by
  obtain ⟨x, y, z, e, r⟩ := h
  exact ⟨x, y, z, k _ e, r⟩
def spDraw : Sp := fun vs H Q _ => ∃ (p : Addr) (m : Int) (c : Nat), vs = [.ref p, .int m] ∧ 1 ≤ m ∧ m ≤ 10 ^ 50 ∧ WellAt H p c ∧ c ≤ 1000000 ∧
  ∀ r H', 0 ≤ r → r < m → WellAt H' p (c + 1) → But [p] H H' → Q (.int r) H'
theorem p38 : (0 : Int) < 10 ^ (38 : Int).toNat + 133 := by decide
theorem p37 : (0 : Int) < 10 ^ (37 : Int).toNat + 43 := by decide
theorem fm_bound {x m : Int} (h : 0 < m) (hm : m < 2 ^ 200) : 0 ≤ x.fmod m ∧ x.fmod m < 2 ^ 200 := by
  rw [Int.fmod_eq_emod_of_nonneg _ (by omega)]
  have h1 := Int.emod_nonneg x (show m ≠ 0 by omega)
  have h2 := Int.emod_lt_of_pos x h
  omega
theorem nat_lt {x : Int} (h0 : 0 ≤ x) (h : x < 2 ^ 249) : x.natAbs < 2 ^ 250 := by
  have e : (2 : Nat) ^ 250 = 2 * 2 ^ 249 := by decide
  have e2 : ((2 : Nat) ^ 249 : Nat) = ((2 : Int) ^ 249).toNat := by
    rw [show ((2 : Int) ^ 249) = (((2 : Nat) ^ 249 : Nat) : Int) by norm_cast]
    rfl
  omega
theorem ok_law_draw (T : Txt K mg a) : Ok1 P w K mg base CX0 1 a.law_draw ["_law_well_here", "_law_many"] (spDraw) := by
  obtain ⟨fd, F⟩ := T.f_law_draw
  refine ⟨fd, F.ok sc_law_draw (fun vs H Q E h => ?_) (fun cdv A outer s H vs Q E hr h => ?_), F.binds (ps := ["_law_well_here", "_law_many"]) fun _ _ _ _ _ _ us hl => match us, hl with | [_, _], _ => rfl, F.kp⟩
  · obtain ⟨p, m, c, rfl, _⟩ := h
    rfl
  · skip
    refine ⟨_, (pss_cons (ps_if (pt_cmpR op_gt (pe_ix ix_list (pv 0) pe_int (fun _ _ => rfl)) pe_int (nomark _)) (pss_cons (ps_set (i := 2) sc_law_draw.nd rfl (Or.inl rfl) (pe_op op_modN (pe_callTy call_int1 (by rfl) T.b_int (by decide +kernel) (pa_cons (pe_ix ix_list (pv 0) pe_int (fun _ _ => rfl)) pa_nil)) (pv 1)))
      (pss_cons (ps_asg (pe_op op_fdivW (pe_ix ix_list (pv 0) pe_int (fun _ _ => rfl)) (pv 1)) (pg_sub (pv 0) pe_int set_list))
      (pss_one (ps_ret (pv 2))))) pss_nil)
      (pss_cons (ps_asg (pe_op op_add (pe_ix ix_list (pv 0) pe_int (fun _ _ => rfl)) pe_int) (pg_sub (pv 0) pe_int set_list))
      (pss_cons (ps_set (i := 3) sc_law_draw.nd rfl (Or.inl rfl) (pe_op op_mul pe_int (pe_ix ix_list (pv 0) pe_int (fun _ _ => rfl))))
      (pss_cons (ps_set (i := 4) sc_law_draw.nd rfl (Or.inl rfl) (pe_op op_modN (pe_callTy call_int1 (by rfl) T.b_int (by decide +kernel) (pa_cons (pe_op op_add (pe_op op_powW (pe_op op_add (pe_ix ix_list (pv 0) pe_int (fun _ _ => rfl)) (pv 3)) pe_int) (pe_op op_mul pe_int (pv 3))) pa_nil)) (pe_op op_add (pe_op op_pow pe_int pe_int) pe_int)))
      (pss_cons (ps_set (i := 4) sc_law_draw.nd rfl (Or.inl rfl) (pe_op op_modN (pe_callTy call_int1 (by rfl) T.b_int (by decide +kernel) (pa_cons (pe_op op_powW (pe_op op_add (pv 4) (pe_op op_mul pe_int (pe_ix ix_list (pv 0) pe_int (fun _ _ => rfl)))) pe_int) pa_nil)) (pe_op op_add (pe_op op_pow pe_int pe_int) pe_int)))
      (pss_one (ps_ret (pe_op op_modN (pe_callTy call_int1 (by rfl) T.b_int (by decide +kernel) (pa_cons (pe_op op_fdivN (pv 4) (pe_op op_pow pe_int pe_int)) pa_nil)) (pv 1))))))))), ?_⟩
    obtain ⟨p, m, c, rfl, m1, m2, ⟨x, y, z, hp, y0, y1, z0, z1⟩, hc, k⟩ := h
    have m3 : m < 2 ^ 200 := Int.lt_of_le_of_lt m2 (by decide)
    have wd : CDivW x m := wide_div (b := 200) (by omega) (by have : ((2 : Int) ^ 200) = (((2 : Nat) ^ 200 : Nat) : Int) := by norm_cast
                                                              omega) (by decide) (by decide)
    refine ⟨_, rfl, p, _, _, .int x, rfl, rfl, SqL.of hp, rfl, _, _, rfl, rfl, _, rfl, ?_⟩
    refine ite_or (fun c0 => ?_) (fun c0 => ?_)
    · refine ⟨_, rfl, p, _, _, .int x, rfl, rfl, SqL.of hp, rfl, .inl ⟨_, rfl, _, rfl, _, _, rfl, rfl, (by omega), ?_⟩⟩
      refine ⟨_, rfl, p, _, _, .int x, rfl, rfl, SqL.of hp, rfl, _, rfl, _, _, rfl, rfl, wd, ?_⟩
      refine ⟨_, rfl, p, _, _, 0, rfl, rfl, hp, rfl, _, rfl, ?_⟩
      have b := fm_bound (x := x) (m := m) (by omega) m3
      refine k _ _ b.1 ?_ ⟨_, y, z, upd_same, y0, y1, z0, by omega⟩ (But.set (by simp) hp (by intro xs q; cases q))
      rw [Int.fmod_eq_emod_of_nonneg _ (by omega)]
      exact Int.emod_lt_of_pos _ (by omega)
    · refine ⟨_, rfl, p, _, _, .int z, rfl, rfl, SqL.of hp, rfl, _, _, rfl, rfl, ?_⟩
      refine ⟨_, rfl, p, _, _, 2, rfl, rfl, hp, rfl, ?_⟩
      have h1 : (upd H p (.lst ([V.int x, .int y, .int z].set 2 (.int (z + 1))))) p = some (.lst [.int x, .int y, .int (z + 1)]) := upd_same
      have b1 : But [p] H (upd H p (.lst ([V.int x, .int y, .int z].set 2 (.int (z + 1))))) := But.set (by simp) hp (by intro xs q; cases q)
      generalize (upd H p (.lst ([V.int x, .int y, .int z].set 2 (.int (z + 1))))) = H1 at h1 b1 ⊢
      have z2 : z + 1 < 2 ^ 40 := by omega
      have big : ((2 : Int) ^ 200 + 32452843 * 2 ^ 40) < 2 ^ 249 := by decide
      have big2 : ((2 : Int) ^ 200 + 49979687 * 2 ^ 40) < 2 ^ 249 := by decide
      refine ⟨_, rfl, p, _, _, .int (z + 1), rfl, rfl, SqL.of h1, rfl, _, _, rfl, rfl, .inl ⟨by decide, by decide⟩, ?_⟩
      refine ⟨_, rfl, p, _, _, .int y, rfl, rfl, SqL.of h1, rfl, _, rfl, _, _, rfl, rfl, _, _, rfl, rfl, ⟨by decide, by decide, nat_lt (by omega) (by omega)⟩, ?_⟩
      refine ⟨_, rfl, _, _, rfl, rfl, .inl ⟨by decide, by decide⟩, _, _, rfl, rfl, .inl ⟨_, rfl, ?_⟩⟩
      refine ⟨_, _, rfl, rfl, ⟨by decide, by decide, by decide⟩, _, _, rfl, rfl, _, _, rfl, rfl, (Int.ne_of_gt p38), ?_⟩
      have b38 := fm_bound (x := (y + 32452843 * (z + 1)) ^ (3 : Int).toNat + 7 * (32452843 * (z + 1))) p38 (by decide)
      refine ⟨_, rfl, _, rfl, p, _, _, .int (z + 1), rfl, rfl, SqL.of h1, rfl, _, _, rfl, rfl, .inl ⟨by decide, by decide⟩, _, _, rfl, rfl, _, _, rfl, rfl, ⟨by decide, by decide, nat_lt (by omega) (by omega)⟩, .inl ⟨_, rfl, ?_⟩⟩
      refine ⟨_, _, rfl, rfl, ⟨by decide, by decide, by decide⟩, _, _, rfl, rfl, _, _, rfl, rfl, (Int.ne_of_gt p37), ?_⟩
      refine ⟨_, rfl, _, _, rfl, rfl, ⟨by decide, by decide, by decide⟩, _, _, rfl, rfl, ⟨by decide, by decide⟩, .inl ⟨_, rfl, ?_⟩⟩
      refine ⟨_, rfl, _, _, rfl, rfl, (by omega), ?_⟩
      refine k _ H1 ?_ ?_ ⟨x, y, z + 1, h1, y0, y1, by omega, by omega⟩ b1
      · rw [Int.fmod_eq_emod_of_nonneg _ (by omega)]
        exact Int.emod_nonneg _ (by omega)
      · rw [Int.fmod_eq_emod_of_nonneg _ (by omega)]
        exact Int.emod_lt_of_pos _ (by omega)
def spWell (K : PySem.W.Frag) : Sp := fun vs H Q _ => ∃ (l : Addr) (ns : List Int) (k : Int), vs = [.ref l, .int k] ∧ SqL K H l (ns.map V.int) ∧ ns.length ≤ 63 ∧ 0 ≤ k ∧ k ≤ 100 ∧
  ∀ p H', H p = none → WellAt H' p 1 → Same H H' → Q (.ref p) H'
theorem p36 : (0 : Int) < 10 ^ (36 : Int).toNat + 67 := by decide
theorem ok_law_well (T : Txt K mg a) : Ok1 P w K mg base CX0 1 a.law_well ["_law_script", "_law_k"] (spWell K) := by
  obtain ⟨fd, F⟩ := T.f_law_well
  refine ⟨fd, F.ok sc_law_well (fun vs H Q E h => ?_) (fun cdv A outer s H vs Q E hr h => ?_), F.binds (ps := ["_law_script", "_law_k"]) fun _ _ _ _ _ _ us hl => match us, hl with | [_, _], _ => rfl, F.kp⟩
  · obtain ⟨l, ns, k, rfl, _⟩ := h
    rfl
  · skip
    refine ⟨_, (pss_cons (ps_set (i := 2) sc_law_well.nd rfl (Or.inl rfl) pe_int)
      (pss_cons (ps_if (pt_cmpR op_lt (pv 1) (pe_callB call_len_seq (by rfl) T.b_len (by decide +kernel) (pa_cons (pv 0) pa_nil)) (nomark _)) (pss_one (ps_set (i := 2) sc_law_well.nd rfl (Or.inl rfl) (pe_callTy call_int1 (by rfl) T.b_int (by decide +kernel) (pa_cons (pe_ix ix_list (pv 0) (pv 1) (fun _ _ => rfl)) pa_nil)))) pss_nil)
      (pss_one (ps_ret (pe_lst (pa_cons (pe_callB (call_max2 rfl) (by rfl) T.b_max (by decide +kernel) (pa_cons pe_int (pa_cons (pe_op op_sub (pe_callB call_abs (by rfl) T.b_abs (by decide +kernel) (pa_cons (pv 2) pa_nil)) (pe_op op_pow pe_int pe_int)) pa_nil))) (pa_cons (pe_op op_add (pe_op op_modN (pe_callTy call_int1 (by rfl) T.b_int (by decide +kernel) (pa_cons (pv 2) pa_nil)) (pe_op op_add (pe_op op_pow pe_int pe_int) pe_int)) (pe_op op_mul pe_int (pv 1))) (pa_cons pe_int pa_nil)))))))), ?_⟩
    obtain ⟨l, ns, k, rfl, hl, hn, k0, k1, q⟩ := h
    have fin : ∀ cell : Int, tRet (tLst (tCons (tCB (fun xs H Q => ∃ i j, xs = [V.int i, V.int j] ∧ Q (V.int (if j > i then j else i)) H) (tCons (tC (.int 0)) (tCons (tOp (rI0 fun i j => .int (i - j)) (tCB (fun xs H Q => ∃ i, xs = [V.int i] ∧ Q (V.int (if i < 0 then -i else i)) H) (tCons (tVar 2) tNil)) (tOp (rI CPow fun i j => .int (i ^ j.toNat)) (tC (.int 10)) (tC (.int 18)))) tNil)))
        (tCons (tOp (rI0 fun i j => .int (i + j)) (tOp (rI (fun _ j => j ≠ 0) fun i j => .int (i.fmod j)) (tCB (fun xs H Q => (∃ i, xs = [V.int i] ∧ Q (V.int i) H) ∨ ∃ k, xs = [V.bl k] ∧ Q (V.int (if k = true then 1 else 0)) H) (tCons (tVar 2) tNil)) (tOp (rI0 fun i j => .int (i + j)) (tOp (rI CPow fun i j => .int (i ^ j.toNat)) (tC (.int 10)) (tC (.int 36))) (tC (.int 67)))) (tOp (rI CMul fun i j => .int (i * j)) (tC (.int 7368787)) (tVar 1))) (tCons (tC (.int 1)) tNil))))
        { nx := fun _ H' => Q .non H', rt := Q } [some (.ref l), some (.int k), some (.int cell)] H := by
      intro cell
      refine ⟨_, rfl, _, rfl, _, _, rfl, rfl, ⟨by decide, by decide, by decide⟩, _, _, rfl, rfl, _, _, rfl, ?_⟩
      refine ⟨_, rfl, .inl ⟨_, rfl, _, _, rfl, rfl, ⟨by decide, by decide, by decide⟩, _, _, rfl, rfl, _, _, rfl, rfl, (Int.ne_of_gt p36), ?_⟩⟩
      refine ⟨_, rfl, _, _, rfl, rfl, .inl ⟨by decide, by decide⟩, _, _, rfl, rfl, (by show 3 ≤ sizeLine; decide), fun p np => ?_⟩
      have b := fm_bound (x := cell) (m := 10 ^ (36 : Int).toNat + 67) p36 (by decide)
      have b2 : cell.fmod (10 ^ (36 : Int).toNat + 67) < 10 ^ (36 : Int).toNat + 67 := by
        rw [Int.fmod_eq_emod_of_nonneg _ (by decide)]
        exact Int.emod_lt_of_pos _ p36
      refine q p _ np ⟨_, _, 1, upd_same, by omega, ?_, by decide, by decide⟩ fun b o e => by rw [upd_ne (ne_of_none e np)]; exact e
      have : (10 : Int) ^ (36 : Int).toNat + 67 + 7368787 * 100 < 2 ^ 200 := by decide
      omega
    refine ⟨_, rfl, _, rfl, l, _, rfl, .inl hl, _, _, rfl, rfl, _, rfl, ?_⟩
    rw [List.length_map]
    refine ite_or (fun c0 => ?_) (fun c0 => ?_)
    · have c1 : k < ns.length := of_decide_eq_true c0
      obtain ⟨n, hn⟩ : ∃ n, ns[k.toNat]? = some n := ⟨ns[k.toNat]'(by omega), by simp⟩
      have hat : atI (ns.map V.int) k = some (.int n) := by
        have := atI_nat (xs := ns.map V.int) (j := k.toNat) (v := .int n) (by rw [List.getElem?_map, hn]; rfl)
        rw [show ((k.toNat : Nat) : Int) = k by omega] at this
        exact this
      refine ⟨_, rfl, _, rfl, l, _, _, _, rfl, rfl, hl, hat, .inl ⟨_, rfl, ?_⟩⟩
      exact fin n
    · exact fin 0
def spPick (K : PySem.W.Frag) : Sp := fun vs H Q _ => ∃ (p l : Addr) (xs : List V) (c : Nat), vs = [.ref p, .ref l] ∧ H l = some (.lst xs) ∧ l ≠ p ∧ xs ≠ [] ∧ xs.length ≤ 100 ∧ WellAt H p c ∧ c ≤ 1000000 ∧
  ∀ x H', x ∈ xs → WellAt H' p (c + 1) → But [p] H H' → Q x H' 
theorem ok_law_pick (T : Txt K mg a) : Ok1 P w K mg base CX0 2 a.law_pick ["_law_well_here", "_law_row"] (spPick K) := by
  obtain ⟨fd, F⟩ := T.f_law_pick
  obtain ⟨fd_law_draw, G_law_draw, b_law_draw, kp_law_draw⟩ := ok_law_draw (P := P) (w := w) (base := base) T
  refine ⟨fd, F.ok sc_law_pick (fun vs H Q E h => ?_) (fun cdv A outer s H vs Q E hr h => ?_), F.binds (ps := ["_law_well_here", "_law_row"]) fun _ _ _ _ _ _ us hl => match us, hl with | [_, _], _ => rfl, F.kp⟩
  · obtain ⟨p, l, xs, c, rfl, _⟩ := h
    rfl
  · skip
    refine ⟨_, (pss_one (ps_ret (pe_ix ix_list (pv 1) (pe_call G_law_draw (hr.mono (by decide)) rfl T.g_law_draw kp_law_draw b_law_draw .nil pass0 (pa_cons (pv 0) (pa_cons (pe_callB call_len_seq (by rfl) T.b_len (by decide +kernel) (pa_cons (pv 1) pa_nil)) pa_nil))) (fun _ _ => rfl)))), ?_⟩
    obtain ⟨p, l, xs, c, rfl, hl, lp, ne, few, hw, hc, q⟩ := h
    have pos : 0 < xs.length := List.length_pos_iff.mpr ne
    refine ⟨_, rfl, _, rfl, _, rfl, l, xs, rfl, .inl (SqL.of hl), p, _, c, rfl, by omega, ?_, hw, hc, fun r H1 r0 r1 w1 b1 => ?_⟩
    · have : (100 : Int) ≤ 10 ^ 50 := by decide
      omega
    · obtain ⟨x, hx⟩ : ∃ x, xs[r.toNat]? = some x := ⟨xs[r.toNat]'(by omega), by simp⟩
      have hat : atI xs r = some x := by
        have := atI_nat hx
        rw [show ((r.toNat : Nat) : Int) = r by omega] at this
        exact this
      exact ⟨l, xs, r, x, rfl, rfl, SqL.of (b1.at (by simp [lp]) hl), hat, q x H1 (List.mem_of_getElem? hx) w1 b1⟩
end
end K76
set_option maxRecDepth 100000
set_option maxHeartbeats 4000000
namespace K76
open PySem L2
section
variable {P : Program} {w : World} {K : PySem.W.Frag} {mg : Str → Option Value} {base : Heap} {a : Ad}

/-! ## What is drawn: a distance, deeds -/
theorem atI_of {α : Type} {xs : List α} {r : Int} (h0 : 0 ≤ r) (h1 : r < xs.length) : ∃ x, atI xs r = some x ∧ x ∈ xs := by
  obtain ⟨x, hx⟩ : ∃ x, xs[r.toNat]? = some x := ⟨xs[r.toNat]'(by omega), by simp⟩
  have := atI_nat hx
  rw [show ((r.toNat : Nat) : Int) = r by omega] at this
  exact ⟨x, this, List.mem_of_getElem? hx⟩
theorem But.t1 {p : Addr} {H H1 H2 : Hp} (a : But [p] H H1) (b : But [p] H1 H2) : But [p] H H2 := a.trans b fun x hx => .inl hx
theorem But.n1 {p q : Addr} {H H1 : Hp} {o : HO} (a : But [p] H H1) (n : H1 q = none) : But [p] H (upd H1 q o) := a.trans (F1 := [p]) (But.new n) fun x hx => .inl hx
theorem WellAt.new {H : Hp} {p q : Addr} {c : Nat} {o : HO} (w : WellAt H p c) (n : H q = none) : WellAt (upd H q o) p c := w.at fun u e => by rw [upd_ne (ne_of_none e n)]; exact e
theorem WellAt.ne {H : Hp} {p q : Addr} {c : Nat} (w : WellAt H p c) (n : H q = none) : q ≠ p := fun z => by
  obtain ⟨x, y, z', e, _⟩ := w
  rw [← z, n] at e
  cases e
theorem ten_le : ∀ {m : Int}, m ≤ 1000 → m ≤ 10 ^ 50 := fun h => Int.le_trans h (by decide)
def spDistance : Sp := fun vs H Q _ => ∃ (p : Addr) (c : Nat), vs = [.ref p] ∧ WellAt H p c ∧ c ≤ 900000 ∧ ∀ r H', 1 ≤ r → r ≤ 10 ^ 50 → WellAt H' p (c + 10) → But [p] H H' → Q (.int r) H' 
theorem ok_law_distance (T : Txt K mg a) : Ok1 P w K mg base CX0 2 a.law_distance ["_law_well_here"] (spDistance) := by
  obtain ⟨fd, F⟩ := T.f_law_distance
  obtain ⟨fd_law_draw, G_law_draw, b_law_draw, kp_law_draw⟩ := ok_law_draw (P := P) (w := w) (base := base) T
  refine ⟨fd, F.ok sc_law_distance (fun vs H Q E h => ?_) (fun cdv A outer s H vs Q E hr h => ?_), F.binds (ps := ["_law_well_here"]) fun _ _ _ _ _ _ us hl => match us, hl with | [_], _ => rfl, F.kp⟩
  · obtain ⟨p, c, rfl, _⟩ := h
    rfl
  · skip
    refine ⟨_, (pss_cons (ps_set (i := 1) sc_law_distance.nd rfl (Or.inl rfl) (pe_lst (pa_cons (pe_op op_add pe_int (pe_call G_law_draw (hr.mono (by decide)) rfl T.g_law_draw kp_law_draw b_law_draw .nil pass0 (pa_cons (pv 0) (pa_cons pe_int pa_nil)))) (pa_cons (pe_op op_add pe_int (pe_call G_law_draw (hr.mono (by decide)) rfl T.g_law_draw kp_law_draw b_law_draw .nil pass0 (pa_cons (pv 0) (pa_cons pe_int pa_nil)))) (pa_cons (pe_op op_add pe_int (pe_call G_law_draw (hr.mono (by decide)) rfl T.g_law_draw kp_law_draw b_law_draw .nil pass0 (pa_cons (pv 0) (pa_cons pe_int pa_nil)))) (pa_cons (pe_op op_add pe_int (pe_call G_law_draw (hr.mono (by decide)) rfl T.g_law_draw kp_law_draw b_law_draw .nil pass0 (pa_cons (pv 0) (pa_cons (pe_op op_pow pe_int pe_int) pa_nil)))) pa_nil))))))
      (pss_one (ps_ret (pe_ix ix_list (pe_op op_cat (pv 1) (pe_lst (pa_cons (pe_op op_sub (pe_op op_pow pe_int pe_int) (pe_call G_law_draw (hr.mono (by decide)) rfl T.g_law_draw kp_law_draw b_law_draw .nil pass0 (pa_cons (pv 0) (pa_cons pe_int pa_nil)))) pa_nil))) (pe_call G_law_draw (hr.mono (by decide)) rfl T.g_law_draw kp_law_draw b_law_draw .nil pass0 (pa_cons (pv 0) (pa_cons pe_int pa_nil))) (fun _ _ => rfl))))), ?_⟩
    obtain ⟨p, c, rfl, w0, hc, k⟩ := h
    refine ⟨_, rfl, p, 3, c, rfl, by decide, ten_le (by decide), w0, by omega, fun r1 H1 a1 a2 w1 b1 => ⟨_, _, rfl, rfl, ?_⟩⟩
    refine ⟨_, rfl, p, 14, _, rfl, by decide, ten_le (by decide), w1, by omega, fun r2 H2 c1 c2 w2 b2 => ⟨_, _, rfl, rfl, ?_⟩⟩
    refine ⟨_, rfl, p, 14, _, rfl, by decide, ten_le (by decide), w2, by omega, fun r3 H3 d1 d2 w3 b3 => ⟨_, _, rfl, rfl, ?_⟩⟩
    refine ⟨_, rfl, _, _, rfl, rfl, ⟨by decide, by decide, by decide⟩, p, _, _, rfl, (by decide), (by decide), w3, by omega, fun r4 H4 e1 e2 w4 b4 => ⟨_, _, rfl, rfl, (by show 4 ≤ sizeLine; decide), fun l nl => ?_⟩⟩
    have bb := ((b1.t1 b2).t1 b3).t1 b4
    have e2' : r4 < 10 ^ 50 := e2
    refine ⟨_, rfl, _, _, rfl, rfl, ⟨by decide, by decide, by decide⟩, _, rfl, p, 60, _, rfl, by decide, ten_le (by decide), w4.new nl, by omega, fun r5 H5 f1 f2 w5 b5 => ⟨_, _, rfl, rfl, (by show 1 ≤ sizeLine; decide), fun l2 nl2 => ?_⟩⟩
    have l5 := b5.at (by simp [w4.ne nl]) (upd_same (H := H4) (a := l))
    have ll2 : l ≠ l2 := ne_of_none l5 nl2
    refine ⟨l, l2, _, _, rfl, rfl, (by rw [upd_ne ll2]; exact l5), upd_same, (by show 5 ≤ sizeLine; decide), fun l3 nl3 => ?_⟩
    refine ⟨_, rfl, p, 5, _, rfl, by decide, ten_le (by decide), (w5.new nl2).new nl3, by omega, fun r6 H6 g1 g2 w6 b6 => ?_⟩
    have l6 := b6.at (by simp [(w5.new nl2).ne nl3]) (upd_same (H := upd H5 l2 _) (a := l3))
    obtain ⟨x, hx, hm⟩ := atI_of (xs := ([V.int (1 + r1), .int (1 + r2), .int (1 + r3), .int (1 + r4)] ++ [V.int (10 ^ (50 : Int).toNat - r5)])) g1 g2
    refine ⟨l3, _, r6, x, rfl, rfl, SqL.of l6, hx, ?_⟩
    have big : (1000 : Int) ≤ 10 ^ 50 := by decide
    have e50 : (10 : Int) ^ (50 : Int).toNat = 10 ^ 50 := rfl
    have fin : ∀ r : Int, 1 ≤ r → r ≤ 10 ^ 50 → Q (.int r) H6 := fun r h1 h2 => k r H6 h1 h2 (w6.mono (by omega)) ((((bb.n1 nl).t1 b5).n1 nl2 |>.n1 nl3).t1 b6)
    simp only [List.cons_append, List.nil_append, List.mem_cons, List.not_mem_nil, or_false] at hm
    rcases hm with rfl | rfl | rfl | rfl | rfl
    · exact fin _ (by omega) (by omega)
    · exact fin _ (by omega) (by omega)
    · exact fin _ (by omega) (by omega)
    · exact fin _ (by omega) (by omega)
    · exact fin _ (by rw [e50]; omega) (by rw [e50]; omega)
/-- the things that are drawn from stand at l -/
structure ThingsAt (H : Hp) (l : Addr) (th : List Str) : Prop where
  at_ : H l = some (.lst (th.map V.str))
  ne : th ≠ []
  few : th.length ≤ 4
  all : ∀ x ∈ th, IsThing x
def spPlain : Sp := fun vs H Q _ => ∃ (p l : Addr) (th : List Str) (c : Nat), vs = [.ref p, .ref l] ∧ ThingsAt H l th ∧ l ≠ p ∧ WellAt H p c ∧ c ≤ 900000 ∧
  ∀ t pd H', H' t = some (.tup (PD.vs pd)) → PD.ok th pd → WellAt H' p (c + 10) → But [p] H H' → Q (.ref t) H'
theorem ok_law_plain (T : Txt K mg a) : Ok1 P w K mg base CX0 3 a.law_plain ["_law_well_here", "_law_things_here"] (spPlain) := by
  obtain ⟨fd, F⟩ := T.f_law_plain
  obtain ⟨fd_law_draw, G_law_draw, b_law_draw, kp_law_draw⟩ := ok_law_draw (P := P) (w := w) (base := base) T
  obtain ⟨fd_law_pick, G_law_pick, b_law_pick, kp_law_pick⟩ := ok_law_pick (P := P) (w := w) (base := base) T
  refine ⟨fd, F.ok sc_law_plain (fun vs H Q E h => ?_) (fun cdv A outer s H vs Q E hr h => ?_), F.binds (ps := ["_law_well_here", "_law_things_here"]) fun _ _ _ _ _ _ us hl => match us, hl with | [_, _], _ => rfl, F.kp⟩
  · obtain ⟨p, l, th, c, rfl, _⟩ := h
    rfl
  · skip
    refine ⟨_, (pss_cons (ps_par3 (i := 2) (j := 3) (l := 4) rfl sc_law_plain.nd rfl rfl rfl (by decide) (by decide) (by decide) rfl rfl rfl (pa_cons (pe_ix ix_list (pe_lst (pa_cons pe_str (pa_cons pe_str pa_nil))) (pe_call G_law_draw (hr.mono (by decide)) rfl T.g_law_draw kp_law_draw b_law_draw .nil pass0 (pa_cons (pv 0) (pa_cons pe_int pa_nil))) (fun _ _ => rfl)) (pa_cons (pe_call G_law_pick (hr.mono (by decide)) rfl T.g_law_pick kp_law_pick b_law_pick .nil pass0 (pa_cons (pv 0) (pa_cons (pv 1) pa_nil))) (pa_cons (pe_ix ix_list (pe_lst (pa_cons pe_int (pa_cons (pe_un un_neg pe_int) pa_nil))) (pe_call G_law_draw (hr.mono (by decide)) rfl T.g_law_draw kp_law_draw b_law_draw .nil pass0 (pa_cons (pv 0) (pa_cons pe_int pa_nil))) (fun _ _ => rfl)) pa_nil))) (by rfl))
      (pss_cons (ps_set (i := 5) sc_law_plain.nd rfl (Or.inl rfl) (pe_call G_law_draw (hr.mono (by decide)) rfl T.g_law_draw kp_law_draw b_law_draw .nil pass0 (pa_cons (pv 0) (pa_cons pe_int pa_nil))))
      (pss_cons (ps_if (pt_cmpR op_lt (pv 5) pe_int (nomark _)) (pss_one (ps_ret (pe_tup (pa_cons pe_str (pa_cons (pe_op op_mul (pv 4) (pe_op op_add pe_int (pe_call G_law_draw (hr.mono (by decide)) rfl T.g_law_draw kp_law_draw b_law_draw .nil pass0 (pa_cons (pv 0) (pa_cons (pe_ix ix_list (pe_lst (pa_cons pe_int (pa_cons pe_int (pa_cons pe_int pa_nil)))) (pe_call G_law_draw (hr.mono (by decide)) rfl T.g_law_draw kp_law_draw b_law_draw .nil pass0 (pa_cons (pv 0) (pa_cons pe_int pa_nil))) (fun _ _ => rfl)) pa_nil))))) pa_nil))))) pss_nil)
      (pss_cons (ps_if (pt_cmpR op_eq (pv 5) pe_int (nomark _)) (pss_one (ps_ret (pe_tup (pa_cons pe_str (pa_cons (pv 2) (pa_cons (pe_op op_mul (pv 4) (pe_op op_add pe_int (pe_call G_law_draw (hr.mono (by decide)) rfl T.g_law_draw kp_law_draw b_law_draw .nil pass0 (pa_cons (pv 0) (pa_cons pe_int pa_nil))))) pa_nil)))))) pss_nil)
      (pss_cons (ps_set (i := 6) sc_law_plain.nd rfl (Or.inl rfl) (pe_lst (pa_cons (pe_tup (pa_cons pe_str (pa_cons (pv 2) (pa_cons (pv 3) pa_nil)))) (pa_cons (pe_tup (pa_cons pe_str (pa_cons (pv 2) (pa_cons (pv 3) pa_nil)))) (pa_cons (pe_tup (pa_cons pe_str (pa_cons (pv 2) (pa_cons (pv 3) pa_nil)))) (pa_cons (pe_tup (pa_cons pe_str (pa_cons (pv 2) (pa_cons (pv 3) pa_nil)))) pa_nil))))))
      (pss_one (ps_ret (pe_ix ix_list (pe_op op_cat (pv 6) (pe_lst (pa_cons (pe_tup (pa_cons pe_str (pa_cons (pv 2) pa_nil))) (pa_cons (pe_tup (pa_cons pe_str (pa_cons (pv 2) pa_nil))) pa_nil)))) (pe_op op_sub (pv 5) pe_int) (fun _ _ => rfl))))))))), ?_⟩
    obtain ⟨p, l, th, c, rfl, ht, lp, w0, hc, k⟩ := h
    -- the window
    refine ⟨(by show 2 ≤ sizeLine; decide), fun q1 n1 => ⟨_, rfl, p, 2, c, rfl, by decide, ten_le (by decide), w0.new n1, by omega, fun r1 H1 a1 a2 w1 b1 => ?_⟩⟩
    have l1 := b1.at (by simp [w0.ne n1]) (upd_same (H := H) (a := q1))
    obtain ⟨x1, hx1, hm1⟩ := atI_of (xs := [V.str "near", .str "far"]) a1 a2
    obtain ⟨win, rfl, hwin⟩ : ∃ win : Str, x1 = .str win ∧ IsWin win := by
      simp only [List.mem_cons, List.not_mem_nil, or_false] at hm1
      rcases hm1 with rfl | rfl
      · exact ⟨_, rfl, .inl rfl⟩
      · exact ⟨_, rfl, .inr rfl⟩
    refine ⟨q1, _, r1, _, rfl, rfl, SqL.of l1, hx1, ?_⟩
    have t1 : But [p] H H1 := (But.refl.n1 n1).t1 b1
    -- the thing
    have ht1 := t1.at (by simp [lp]) ht.at_
    refine ⟨_, rfl, _, rfl, p, l, _, _, rfl, ht1, lp, (by simp [ht.ne]), (by rw [List.length_map]; have := ht.few; omega), w1, by omega, fun x2 H2 hx2 w2 b2 => ?_⟩
    obtain ⟨thing, hth, rfl⟩ := List.mem_map.mp hx2
    -- the sign
    refine ⟨_, rfl, (by show 2 ≤ sizeLine; decide), fun q2 n2 => ⟨_, rfl, p, 2, _, rfl, by decide, ten_le (by decide), w2.new n2, by omega, fun r3 H3 c1 c2 w3 b3 => ?_⟩⟩
    have l3 := b3.at (by simp [w2.ne n2]) (upd_same (H := H2) (a := q2))
    obtain ⟨x3, hx3, hm3⟩ := atI_of (xs := [V.int 1, .int (-1)]) c1 c2
    obtain ⟨sg, rfl, hsg⟩ : ∃ sg : Int, x3 = .int sg ∧ (sg = 1 ∨ sg = -1) := by
      simp only [List.mem_cons, List.not_mem_nil, or_false] at hm3
      rcases hm3 with rfl | rfl
      · exact ⟨_, rfl, .inl rfl⟩
      · exact ⟨_, rfl, .inr rfl⟩
    refine ⟨q2, _, r3, _, rfl, rfl, SqL.of l3, hx3, _, _, _, rfl, ?_⟩
    have t3 : But [p] H H3 := ((t1.t1 b2).n1 n2).t1 b3
    clear b1 b2 b3 l1 l3 hx1 hx3 hm1 hm3
    -- the way
    refine ⟨_, rfl, p, 9, _, rfl, by decide, ten_le (by decide), w3, by omega, fun way H4 d1 d2 w4 b4 => ?_⟩
    have t4 := t3.t1 b4
    refine ⟨_, rfl, _, _, rfl, rfl, _, rfl, ?_⟩
    refine ite_or (fun e0 => ?_) (fun e0 => ?_)
    · -- pull
      refine ⟨_, rfl, _, rfl, (by show 3 ≤ sizeLine; decide), fun q3 n3 => ⟨_, rfl, p, 3, _, rfl, by decide, ten_le (by decide), w4.new n3, by omega, fun r5 H5 f1 f2 w5 b5 => ?_⟩⟩
      have l5 := b5.at (by simp [w4.ne n3]) (upd_same (H := H4) (a := q3))
      obtain ⟨x5, hx5, hm5⟩ := atI_of (xs := [V.int 1, .int 3, .int 40]) f1 f2
      obtain ⟨m5, rfl, h5, h6⟩ : ∃ m5 : Int, x5 = .int m5 ∧ 1 ≤ m5 ∧ m5 ≤ 40 := by
        simp only [List.mem_cons, List.not_mem_nil, or_false] at hm5
        rcases hm5 with rfl | rfl | rfl
        · exact ⟨_, rfl, by decide, by decide⟩
        · exact ⟨_, rfl, by decide, by decide⟩
        · exact ⟨_, rfl, by decide, by decide⟩
      refine ⟨q3, _, r5, _, rfl, rfl, SqL.of l5, hx5, p, m5, _, rfl, h5, ten_le (by omega), w5, by omega, fun r6 H6 g1 g2 w6 b6 => ⟨_, _, rfl, rfl, _, _, rfl, rfl, .inl ⟨by omega, by omega⟩, (by show 2 ≤ sizeLine; decide), fun t nt => ?_⟩⟩
      refine k t (.pull (sg * (1 + r6))) _ upd_same ?_ ((w6.new nt).mono (by omega)) ((((t4.n1 n3).t1 b5).t1 b6).n1 nt)
      rcases hsg with rfl | rfl
      · exact ⟨by omega, by omega, by omega⟩
      · exact ⟨by omega, by omega, by omega⟩
    · refine ⟨_, rfl, rfl, _, rfl, ?_⟩
      refine ite_or (fun e1 => ?_) (fun e1 => ?_)
      · -- walk
        refine ⟨_, rfl, _, rfl, _, rfl, p, 6, _, rfl, by decide, ten_le (by decide), w4, by omega, fun r5 H5 f1 f2 w5 b5 => ⟨_, _, rfl, rfl, _, _, rfl, rfl, .inl ⟨by omega, by omega⟩, (by show 3 ≤ sizeLine; decide), fun t nt => ?_⟩⟩
        refine k t (.walk win (sg * (1 + r5))) _ upd_same ?_ ((w5.new nt).mono (by omega)) ((t4.t1 b5).n1 nt)
        rcases hsg with rfl | rfl
        · exact ⟨hwin, by omega, by omega, by omega⟩
        · exact ⟨hwin, by omega, by omega, by omega⟩
      · have e0' : ¬ way < 2 := of_decide_eq_false e0
        have e1' : ¬ way = 2 := fun z => of_decide_eq_false e1 (congrArg V.int z)
        refine ⟨_, rfl, _, rfl, (by show 3 ≤ sizeLine; decide), fun t1' n1' => ?_⟩
        refine ⟨_, rfl, _, rfl, (by show 3 ≤ sizeLine; decide), fun t2' n2' => ?_⟩
        refine ⟨_, rfl, _, rfl, (by show 3 ≤ sizeLine; decide), fun t3' n3' => ?_⟩
        refine ⟨_, rfl, _, rfl, (by show 3 ≤ sizeLine; decide), fun t4' n4' => ?_⟩
        refine ⟨(by show 4 ≤ sizeLine; decide), fun u1 m1 => ?_⟩
        refine ⟨_, rfl, _, rfl, (by show 2 ≤ sizeLine; decide), fun t5' n5' => ?_⟩
        refine ⟨_, rfl, (by show 2 ≤ sizeLine; decide), fun t6' n6' => ?_⟩
        refine ⟨(by show 2 ≤ sizeLine; decide), fun u2 m2 => ?_⟩
        have keep : ∀ {G : Hp} {q : Addr} {b : Addr} {o u : HO}, G q = none → G b = some o → (upd G q u) b = some o := fun n e => by rw [upd_ne (ne_of_none e n)]; exact e
        have s1 := keep (u := .tup [.str "peg", .str win, .str thing]) n2' (upd_same (H := H4) (a := t1') (o := .tup [.str "peg", .str win, .str thing]))
        refine ⟨u1, u2, _, _, rfl, rfl, keep m2 (keep n6' (keep n5' upd_same)), upd_same, (by show 6 ≤ sizeLine; decide), fun u3 m3 => ?_⟩
        obtain ⟨x, hx, hm⟩ := atI_of (xs := ([V.ref t1', .ref t2', .ref t3', .ref t4'] ++ [V.ref t5', .ref t6'])) (r := way - 3) (by omega) (by show way - 3 < 6; omega)
        refine ⟨_, rfl, _, _, rfl, rfl, u3, _, way - 3, x, rfl, rfl, SqL.of upd_same, hx, ?_⟩
        simp only [List.cons_append, List.nil_append, List.mem_cons, List.not_mem_nil, or_false] at hm
        rcases hm with rfl | rfl | rfl | rfl | rfl | rfl
        · exact k t1' (.peg win thing) _ (keep m3 (keep m2 (keep n6' (keep n5' (keep m1 (keep n4' (keep n3' (keep n2' upd_same)))))))) ⟨hwin, ht.all _ hth, hth⟩ ((((((((((w4.new n1').new n2').new n3').new n4').new m1).new n5').new n6').new m2).new m3).mono (by omega)) (((((((((t4.n1 n1').n1 n2').n1 n3').n1 n4').n1 m1).n1 n5').n1 n6').n1 m2).n1 m3)
        · exact k t2' (.peg win thing) _ (keep m3 (keep m2 (keep n6' (keep n5' (keep m1 (keep n4' (keep n3' upd_same))))))) ⟨hwin, ht.all _ hth, hth⟩ ((((((((((w4.new n1').new n2').new n3').new n4').new m1).new n5').new n6').new m2).new m3).mono (by omega)) (((((((((t4.n1 n1').n1 n2').n1 n3').n1 n4').n1 m1).n1 n5').n1 n6').n1 m2).n1 m3)
        · exact k t3' (.hang win thing) _ (keep m3 (keep m2 (keep n6' (keep n5' (keep m1 (keep n4' upd_same)))))) ⟨hwin, ht.all _ hth, hth⟩ ((((((((((w4.new n1').new n2').new n3').new n4').new m1).new n5').new n6').new m2).new m3).mono (by omega)) (((((((((t4.n1 n1').n1 n2').n1 n3').n1 n4').n1 m1).n1 n5').n1 n6').n1 m2).n1 m3)
        · exact k t4' (.fetch win thing) _ (keep m3 (keep m2 (keep n6' (keep n5' (keep m1 upd_same))))) ⟨hwin, ht.all _ hth, hth⟩ ((((((((((w4.new n1').new n2').new n3').new n4').new m1).new n5').new n6').new m2).new m3).mono (by omega)) (((((((((t4.n1 n1').n1 n2').n1 n3').n1 n4').n1 m1).n1 n5').n1 n6').n1 m2).n1 m3)
        · exact k t5' (.take win) _ (keep m3 (keep m2 (keep n6' upd_same))) hwin ((((((((((w4.new n1').new n2').new n3').new n4').new m1).new n5').new n6').new m2).new m3).mono (by omega)) (((((((((t4.n1 n1').n1 n2').n1 n3').n1 n4').n1 m1).n1 n5').n1 n6').n1 m2).n1 m3)
        · exact k t6' (.look win) _ (keep m3 (keep m2 upd_same)) hwin ((((((((((w4.new n1').new n2').new n3').new n4').new m1).new n5').new n6').new m2).new m3).mono (by omega)) (((((((((t4.n1 n1').n1 n2').n1 n3').n1 n4').n1 m1).n1 n5').n1 n6').n1 m2).n1 m3)
def spDeedL : Sp := fun vs H Q _ => ∃ (p l : Addr) (th : List Str) (c : Nat), vs = [.ref p, .ref l] ∧ ThingsAt H l th ∧ l ≠ p ∧ WellAt H p c ∧ c ≤ 800000 ∧
  ∀ t D H', DeedAt H' t D → DD.ok th D → WellAt H' p (c + 20) → But [p] H H' → Q (.ref t) H'
theorem ok_law_deed (T : Txt K mg a) : Ok1 P w K mg base CX0 4 a.law_deed ["_law_well_here", "_law_things_here"] (spDeedL) := by
  obtain ⟨fd, F⟩ := T.f_law_deed
  obtain ⟨fd_law_draw, G_law_draw, b_law_draw, kp_law_draw⟩ := ok_law_draw (P := P) (w := w) (base := base) T
  obtain ⟨fd_law_plain, G_law_plain, b_law_plain, kp_law_plain⟩ := ok_law_plain (P := P) (w := w) (base := base) T
  refine ⟨fd, F.ok sc_law_deed (fun vs H Q E h => ?_) (fun cdv A outer s H vs Q E hr h => ?_), F.binds (ps := ["_law_well_here", "_law_things_here"]) fun _ _ _ _ _ _ us hl => match us, hl with | [_, _], _ => rfl, F.kp⟩
  · obtain ⟨p, l, th, c, rfl, _⟩ := h
    rfl
  · skip
    refine ⟨_, (pss_cons (ps_if (pt_cmpR op_gt (pe_call G_law_draw (hr.mono (by decide)) rfl T.g_law_draw kp_law_draw b_law_draw .nil pass0 (pa_cons (pv 0) (pa_cons pe_int pa_nil))) pe_int (nomark _)) (pss_one (ps_ret (pe_call G_law_plain (hr.mono (by decide)) rfl T.g_law_plain kp_law_plain b_law_plain .nil pass0 (pa_cons (pv 0) (pa_cons (pv 1) pa_nil))))) pss_nil)
      (pss_cons (ps_set (i := 2) sc_law_deed.nd rfl (Or.inl rfl) (pe_ix ix_list (pe_op op_cat (pv 1) (pe_lst (pa_cons pe_non (pa_cons pe_non pa_nil)))) (pe_call G_law_draw (hr.mono (by decide)) rfl T.g_law_draw kp_law_draw b_law_draw .nil pass0 (pa_cons (pv 0) (pa_cons (pe_op op_add (pe_callB call_len_seq (by rfl) T.b_len (by decide +kernel) (pa_cons (pv 1) pa_nil)) pe_int) pa_nil))) (fun _ _ => rfl)))
      (pss_one (ps_ret (pe_tup (pa_cons pe_str (pa_cons (pe_ix ix_list (pe_lst (pa_cons pe_str (pa_cons pe_str pa_nil))) (pe_call G_law_draw (hr.mono (by decide)) rfl T.g_law_draw kp_law_draw b_law_draw .nil pass0 (pa_cons (pv 0) (pa_cons pe_int pa_nil))) (fun _ _ => rfl)) (pa_cons (pv 2) (pa_cons (pe_call G_law_plain (hr.mono (by decide)) rfl T.g_law_plain kp_law_plain b_law_plain .nil pass0 (pa_cons (pv 0) (pa_cons (pv 1) pa_nil))) pa_nil))))))))), ?_⟩
    obtain ⟨p, l, th, c, rfl, ht, lp, w0, hc, k⟩ := h
    have tk : ∀ {G : Hp}, But [p] H G → ThingsAt G l th := fun b => ⟨b.at (by simp [lp]) ht.at_, ht.ne, ht.few, ht.all⟩
    refine ⟨_, rfl, p, 4, c, rfl, by decide, ten_le (by decide), w0, by omega, fun r1 H1 a1 a2 w1 b1 => ⟨_, _, rfl, rfl, _, rfl, ?_⟩⟩
    refine ite_or (fun e0 => ?_) (fun e0 => ?_)
    · refine ⟨_, rfl, _, rfl, p, l, th, _, rfl, tk b1, lp, w1, by omega, fun t pd H2 h2 ok2 w2 b2 => ?_⟩
      exact k t (.plain pd) H2 h2 ok2 (w2.mono (by omega)) (b1.t1 b2)
    · have l1 := (tk b1).at_
      refine ⟨_, rfl, (by show 2 ≤ sizeLine; decide), fun q1 n1 => ?_⟩
      have lq : l ≠ q1 := ne_of_none l1 n1
      refine ⟨l, q1, _, _, rfl, rfl, (by rw [upd_ne lq]; exact l1), upd_same, ?_, fun q2 n2 => ?_⟩
      · rw [List.length_map, sizeLine_eq]
        have := ht.few
        show th.length + 2 ≤ _
        omega
      have tq := (b1.n1 n1).n1 n2 (o := .lst (th.map V.str ++ [.non, .non]))
      refine ⟨_, rfl, _, rfl, l, _, rfl, .inl (SqL.of (tk tq).at_), _, _, rfl, rfl, p, _, _, rfl, by omega, ?_, ((w1.new n1).new n2), by omega, fun r2 H2 c1 c2 w2 b2 => ?_⟩
      · rw [List.length_map]
        have := ht.few
        exact ten_le (by omega)
      have l2 := b2.at (by simp [(w1.new n1).ne n2]) (upd_same (H := upd H1 q1 (.lst [.non, .non])) (a := q2))
      obtain ⟨x, hx, hm⟩ := atI_of (xs := (th.map V.str ++ [.non, .non])) c1 (by rw [List.length_append]; rw [List.length_map] at c2 ⊢; show r2 < ((th.length + 2 : Nat) : Int); omega)
      obtain ⟨o, rfl, ho⟩ : ∃ o, x = oS o ∧ ∀ z, o = some z → IsThing z ∧ z ∈ th := by
        rcases List.mem_append.mp hm with z | z
        · obtain ⟨y, hy, rfl⟩ := List.mem_map.mp z
          exact ⟨some y, rfl, fun z e => by cases e; exact ⟨ht.all _ hy, hy⟩⟩
        · simp only [List.mem_cons, List.not_mem_nil, or_false, or_self] at z
          exact ⟨none, z, fun z e => (by cases e)⟩
      refine ⟨q2, _, r2, _, rfl, rfl, SqL.of l2, hx, ?_⟩
      have t2 := tq.t1 b2
      -- the tuple
      refine ⟨(by show 2 ≤ sizeLine; decide), fun q3 n3 => ⟨_, rfl, p, 2, _, rfl, by decide, ten_le (by decide), w2.new n3, by omega, fun r3 H3 d1 d2 w3 b3 => ?_⟩⟩
      have l3 := b3.at (by simp [w2.ne n3]) (upd_same (H := H2) (a := q3))
      obtain ⟨x1, hx1, hm1⟩ := atI_of (xs := [V.str "near", .str "far"]) d1 d2
      obtain ⟨win, rfl, hwin⟩ : ∃ win : Str, x1 = .str win ∧ IsWin win := by
        simp only [List.mem_cons, List.not_mem_nil, or_false] at hm1
        rcases hm1 with rfl | rfl
        · exact ⟨_, rfl, .inl rfl⟩
        · exact ⟨_, rfl, .inr rfl⟩
      refine ⟨q3, _, r3, _, rfl, rfl, SqL.of l3, hx1, _, rfl, ?_⟩
      have t3 := (t2.n1 n3).t1 b3
      refine ⟨_, rfl, _, rfl, p, l, th, _, rfl, tk t3, lp, w3, by omega, fun u pd H4 h4 ok4 w4 b4 => ⟨(by show 4 ≤ sizeLine; decide), fun t nt => ?_⟩⟩
      refine k t (.whn win o pd) _ ⟨u, upd_same, ?_⟩ ⟨hwin, ho, ok4⟩ ((w4.new nt).mono (by omega)) ((t3.t1 b4).n1 nt)
      rw [upd_ne (ne_of_none h4 nt)]
      exact h4
end
end K76
set_option maxRecDepth 100000
set_option maxHeartbeats 4000000
namespace K76
open PySem L2
section
variable {P : Program} {w : World} {K : PySem.W.Frag} {mg : Str → Option Value} {base : Heap} {a : Ad}

/-! ## The things that are drawn from -/
theorem lower_of {l : List Nat} (h : ∀ c ∈ l, 97 ≤ c ∧ c ≤ 122) : lower ⟨l.toArray⟩ := fun c hc => h c (by simpa using hc)
theorem fold_rep (c : Nat) : ∀ (k : Nat) (acc : Array Nat), ((List.replicate k #[c]).foldl (· ++ ·) acc).toList = acc.toList ++ List.replicate k c
  | 0, acc => by simp
  | k + 1, acc => by
    rw [List.replicate_succ, List.foldl_cons, fold_rep c k, List.replicate_succ]
    simp
theorem mul_thing {c : Nat} {n : Int} (hc : 97 ≤ c ∧ c ≤ 122) (h1 : 1 ≤ n) (h2 : n ≤ 8) : IsThing (Txt.mul ⟨#[c]⟩ n) := by
  have e : (Txt.mul ⟨#[c]⟩ n).cps.toList = List.replicate n.toNat c := by
    unfold Txt.mul
    rw [if_neg (by omega)]
    by_cases q : n = 1
    · subst q
      rfl
    · rw [if_neg (by
        have : (n == 1) = false := by simpa using q
        rw [this]
        exact Bool.false_ne_true)]
      rw [fold_rep]
      rfl
  have l : (Txt.mul ⟨#[c]⟩ n).length = n.toNat := by
    show (Txt.mul ⟨#[c]⟩ n).cps.size = _
    rw [← Array.length_toList, e, List.length_replicate]
  refine ⟨by omega, by omega, fun d hd => ?_⟩
  rw [e] at hd
  rw [(List.mem_replicate.mp hd).2]
  exact hc
theorem cut_thing {z : Str} (h : IsThing z) : IsThing (cutS (z ++ "q") (some (-8)) none) := by
  have e : (z ++ ("q" : Str)).cps.toList = z.cps.toList ++ [113] := by
    show (z.cps ++ ("q" : Str).cps).toList = _
    rw [Array.toList_append]
    congr 1
  have el : (z ++ ("q" : Str)).length = z.length + 1 := by
    show (z.cps ++ ("q" : Str).cps).size = _
    rw [Array.size_append]
    rfl
  have m := h.most
  have l := h.least
  have s : (cutS (z ++ "q") (some (-8)) none).length = (z.length + 1) - (-8 + ((z.length + 1 : Nat) : Int)).toNat := by
    show (cutS (z ++ "q") (some (-8)) none).cps.size = _
    unfold cutS
    rw [List.size_toArray, List.length_take, List.length_drop, Array.length_toList]
    rw [show (z ++ ("q" : Str)).cps.size = (z ++ ("q" : Str)).length from rfl, el]
    have e8 : HT.sIx (z.length + 1) 0 (some (-8)) = (-8 + ((z.length + 1 : Nat) : Int)).toNat := by
      show (if (-8 : Int) < 0 then (-8 + ((z.length + 1 : Nat) : Int)).toNat else min (-8 : Int).toNat (z.length + 1)) = _
      rw [if_pos (by decide)]
    rw [e8, HT.sIx_none]
    exact Nat.min_self _
  refine ⟨by rw [s]; omega, by rw [s]; omega, fun c hc => ?_⟩
  unfold cutS at hc
  rw [List.toList_toArray] at hc
  have hc := List.mem_of_mem_drop (List.mem_of_mem_take hc)
  rw [e] at hc
  rcases List.mem_append.mp hc with q | q
  · exact h.low c q
  · rw [List.mem_singleton.mp q]
    decide
theorem joinL_nil : ∀ ls : List (List Nat), TL.joinL [] ls = ls.flatten
  | [] => rfl
  | [p] => by simp [TL.joinL]
  | p :: q :: r => by
    show p ++ ([] ++ TL.joinL [] (q :: r)) = _
    rw [joinL_nil (q :: r)]
    simp
theorem join_thing {ks : List Nat} (h1 : 1 ≤ ks.length) (h2 : ks.length ≤ 8) (h3 : ∀ c ∈ ks, 97 ≤ c ∧ c ≤ 122) : IsThing (Txt.join "" (ks.map fun c => (⟨#[c]⟩ : Str))) := by
  have e : (Txt.join "" (ks.map fun c => (⟨#[c]⟩ : Str))).cps.toList = ks := by
    rw [TL.join_eq]
    show TL.tl _ = _
    rw [TL.tl_join, show TL.tl ("" : Str) = [] from rfl, joinL_nil, List.map_map]
    clear h1 h2 h3
    induction ks with
    | nil => rfl
    | cons c r ih =>
      rw [List.map_cons, List.flatten_cons, ih]
      rfl
  have l : (Txt.join "" (ks.map fun c => (⟨#[c]⟩ : Str))).length = ks.length := by
    show (Txt.join "" (ks.map fun c => (⟨#[c]⟩ : Str))).cps.size = _
    rw [← Array.length_toList, e]
  refine ⟨by omega, by omega, fun c hc => h3 c (by rw [← e]; exact hc)⟩
theorem letters_at {r : Int} (h0 : 0 ≤ r) (h1 : r < 26) : ∃ c, atI ("abcdefghijklmnopqrstuvwxyz" : Str).cps.toList r = some c ∧ 97 ≤ c ∧ c ≤ 122 := by
  obtain ⟨c, hc, hm⟩ := atI_of (xs := ("abcdefghijklmnopqrstuvwxyz" : Str).cps.toList) h0 (by rw [show ("abcdefghijklmnopqrstuvwxyz" : Str).cps.toList.length = 26 by decide +kernel]; exact h1)
  have all : ∀ c ∈ ("abcdefghijklmnopqrstuvwxyz" : Str).cps.toList, 97 ≤ c ∧ c ≤ 122 := by decide +kernel
  exact ⟨c, hc, all c hm⟩
theorem found_things : ∀ x ∈ (["sock", "no", "near", "a", "hangs", "shirtsxy", "sockz", "b"] : List Str), IsThing x := fun x hx => by
  have all : ∀ x ∈ (["sock", "no", "near", "a", "hangs", "shirtsxy", "sockz", "b"] : List Str), (1 ≤ x.length ∧ x.length ≤ 8) ∧ ∀ c ∈ x.cps.toList, 97 ≤ c ∧ c ≤ 122 := by decide +kernel
  obtain ⟨⟨h1, h2⟩, h3⟩ := all x hx
  exact ⟨h1, h2, h3⟩
def spThingsL : Sp := fun vs H Q _ => ∃ (p : Addr) (c : Nat), vs = [.ref p] ∧ WellAt H p c ∧ c ≤ 800000 ∧ ∀ l th H', H l = none → l ≠ p → ThingsAt H' l th → WellAt H' p (c + 20) → But [p] H H' → Q (.ref l) H' 
theorem ok_law_things (T : Txt K mg a) : Ok1 P w K mg base CX0 2 a.law_things ["_law_well_here"] (spThingsL) := by
  obtain ⟨fd, F⟩ := T.f_law_things
  obtain ⟨fd_law_draw, G_law_draw, b_law_draw, kp_law_draw⟩ := ok_law_draw (P := P) (w := w) (base := base) T
  refine ⟨fd, F.ok sc_law_things (fun vs H Q E h => ?_) (fun cdv A outer s H vs Q E hr h => ?_), F.binds (ps := ["_law_well_here"]) fun _ _ _ _ _ _ us hl => match us, hl with | [_], _ => rfl, F.kp⟩
  · obtain ⟨p, c, rfl, _⟩ := h
    rfl
  · skip
    refine ⟨_, (pss_cons (ps_asg (pe_tup (pa_cons pe_str (pa_cons (pe_lst (pa_cons pe_str (pa_cons pe_str (pa_cons pe_str (pa_cons pe_str (pa_cons pe_str (pa_cons pe_str (pa_cons pe_str (pa_cons pe_str pa_nil))))))))) pa_nil))) (pg_tup rfl (pgs_cons (pg_name (i := 1) sc_law_things.nd rfl (Or.inr rfl)) (pgs_cons (pg_name (i := 2) sc_law_things.nd rfl (Or.inl rfl)) pgs_nil))))
      (pss_cons (ps_set (i := 3) sc_law_things.nd rfl (Or.inr rfl) (pe_lst (pa_cons (pe_ix ix_list (pv 2) (pe_call G_law_draw (hr.mono (by decide)) rfl T.g_law_draw kp_law_draw b_law_draw .nil pass0 (pa_cons (pv 0) (pa_cons pe_int pa_nil))) (fun _ _ => rfl)) (pa_cons (pe_op op_mulS (pe_ix ix_str (pv 1) (pe_call G_law_draw (hr.mono (by decide)) rfl T.g_law_draw kp_law_draw b_law_draw .nil pass0 (pa_cons (pv 0) (pa_cons pe_int pa_nil))) (fun _ _ => rfl)) (pe_op op_add pe_int (pe_call G_law_draw (hr.mono (by decide)) rfl T.g_law_draw kp_law_draw b_law_draw .nil pass0 (pa_cons (pv 0) (pa_cons pe_int pa_nil))))) pa_nil))))
      (pss_cons (ps_set (i := 3) sc_law_things.nd rfl (Or.inr rfl) (pe_op op_cat (pv 3) (pe_lst (pa_cons (pe_slice sl_str (pe_op op_add_str (pe_ix ix_list (pv 3) pe_int (fun _ _ => rfl)) pe_str) (po_some (pe_un un_neg pe_int)) po_none) (pa_cons (pe_join pe_str (pe_lc (own := [("_law_k", 4)]) (g := gName 4) (tt := tYes) rfl sc_law_things.nd (pi_range1 (by rfl) T.b_range (pa_cons (pe_op op_add pe_int (pe_call G_law_draw (hr.mono (by decide)) rfl T.g_law_draw kp_law_draw b_law_draw .nil pass0 (pa_cons (pv 0) (pa_cons pe_int pa_nil)))) pa_nil)) (blkOk_by (N := ["_law_well_here", "_law_letters", "_law_found", "_law_some", "_law_k"]) (sc := defScope s_law_things) (by decide +kernel)) (fun _ _ _ _ _ => (pg_name (i := 4) sc_law_things.nd rfl (Or.inl rfl))) (fun _ _ _ _ _ => pts_nil) (fun _ _ _ _ _ => (pe_ix ix_str (pv 1) (pe_call G_law_draw (hr.mono (by decide)) rfl T.g_law_draw kp_law_draw b_law_draw .nil pass0 (pa_cons (pv 0) (pa_cons pe_int pa_nil))) (fun _ _ => rfl))))) pa_nil)))))
      (pss_one (ps_ret (pe_lc (own := [("_law_k", 4)]) (g := gName 4) (tt := _) rfl sc_law_things.nd (pi_range1 (by rfl) T.b_range (pa_cons pe_int pa_nil)) (blkOk_by (N := ["_law_well_here", "_law_letters", "_law_found", "_law_some", "_law_k"]) (sc := defScope s_law_things) (by decide +kernel)) (fun _ _ _ _ _ => (pg_name (i := 4) sc_law_things.nd rfl (Or.inl rfl))) (fun _ _ _ _ _ => (pts_one (pt_cmpR (op_notIn_seqK (K := K) rfl) (pe_ix (ix_listK (K := K) rfl) (pv 3) (pv 4) (fun _ _ => rfl)) (pe_slice (sl_listK (K := K) rfl) (pv 3) po_none (po_some (pv 4))) (by rfl)))) (fun _ _ _ _ _ => (pe_ix (ix_listK (K := K) rfl) (pv 3) (pv 4) (fun _ _ => rfl))))))))), ?_⟩
    obtain ⟨p, c, rfl, w0, hc, k⟩ := h
    refine ⟨(by show 8 ≤ sizeLine; decide), fun f nf => ⟨(by show 2 ≤ sizeLine; decide), fun pp npp => ⟨pp, _, rfl, SqT.of upd_same, rfl, _, _, rfl, _, _, rfl, rfl, ?_⟩⟩⟩
    have fp : f ≠ pp := ne_of_none upd_same npp
    have f0 : (upd (upd H f (.lst ((["sock", "no", "near", "a", "hangs", "shirtsxy", "sockz", "b"] : List Str).map V.str))) pp (.tup [.str "abcdefghijklmnopqrstuvwxyz", .ref f])) f = some (.lst ((["sock", "no", "near", "a", "hangs", "shirtsxy", "sockz", "b"] : List Str).map V.str)) := by rw [upd_ne fp]; exact upd_same
    have wf : WellAt (upd (upd H f (.lst ((["sock", "no", "near", "a", "hangs", "shirtsxy", "sockz", "b"] : List Str).map V.str))) pp (.tup [.str "abcdefghijklmnopqrstuvwxyz", .ref f])) p c := (w0.new nf).new npp
    have bf : But [p] H (upd (upd H f (.lst ((["sock", "no", "near", "a", "hangs", "shirtsxy", "sockz", "b"] : List Str).map V.str))) pp (.tup [.str "abcdefghijklmnopqrstuvwxyz", .ref f])) := (But.refl.n1 nf).n1 npp
    have fne : f ≠ p := w0.ne nf
    show tSeq _ _ _ _ (upd (upd H f (.lst ((["sock", "no", "near", "a", "hangs", "shirtsxy", "sockz", "b"] : List Str).map V.str))) pp (.tup [.str "abcdefghijklmnopqrstuvwxyz", .ref f]))
    generalize (upd (upd H f (.lst ((["sock", "no", "near", "a", "hangs", "shirtsxy", "sockz", "b"] : List Str).map V.str))) pp (.tup [.str "abcdefghijklmnopqrstuvwxyz", .ref f])) = H0 at f0 wf bf ⊢
    -- the first two
    refine ⟨_, rfl, _, rfl, p, 8, c, rfl, by decide, ten_le (by decide), wf, by omega, fun r1 H1 a1 a2 w1 b1 => ?_⟩
    have f1 := b1.at (by simp [fne]) f0
    obtain ⟨x1, hx1, hm1⟩ := atI_of (xs := ((["sock", "no", "near", "a", "hangs", "shirtsxy", "sockz", "b"] : List Str).map V.str)) a1 a2
    obtain ⟨s0, hs0, rfl⟩ := List.mem_map.mp hm1
    have i0 := found_things s0 hs0
    refine ⟨f, _, r1, _, rfl, rfl, SqL.of f1, hx1, ?_⟩
    refine ⟨_, rfl, _, rfl, p, 26, _, rfl, by decide, ten_le (by decide), w1, by omega, fun r2 H2 c1 c2 w2 b2 => ?_⟩
    obtain ⟨ch, hch, ch1, ch2⟩ := letters_at c1 c2
    refine ⟨_, r2, ch, rfl, rfl, (by decide +kernel), hch, ?_⟩
    refine ⟨_, rfl, p, 8, _, rfl, by decide, ten_le (by decide), w2, by omega, fun r3 H3 d1 d2 w3 b3 => ⟨_, _, rfl, rfl, _, _, rfl, rfl, (by omega), (by omega), rfl, ?_⟩⟩
    have i1 : IsThing (Txt.mul ⟨#[ch]⟩ (1 + r3)) := mul_thing ⟨ch1, ch2⟩ (by omega) (by omega)
    generalize Txt.mul ⟨#[ch]⟩ (1 + r3) = s1 at i1 ⊢
    refine ⟨(by show 2 ≤ sizeLine; decide), fun u1 m1 => ?_⟩
    have b3' := ((bf.t1 b1).t1 b2).t1 b3
    have w3' := w3.new (o := .lst [.str s0, .str s1]) m1
    -- the third
    refine ⟨_, rfl, _, rfl, u1, _, _, .str s1, rfl, rfl, SqL.of upd_same, rfl, _, _, rfl, rfl, ?_, _, rfl, _, rfl, _, rfl, ?_, ?_⟩
    · rw [sizeLine_eq]
      have := i1.most
      show s1.length + 1 ≤ _
      omega
    · show (s1 ++ ("q" : Str)).length ≤ sizeLine
      show (s1.cps ++ ("q" : Str).cps).size ≤ sizeLine
      rw [Array.size_append, sizeLine_eq]
      have := i1.most
      show s1.length + 1 ≤ _
      omega
    have i2 := cut_thing i1
    generalize cutS (s1 ++ ("q" : Str)) (some (-8)) none = s2 at i2 ⊢
    -- the fourth
    refine ⟨⟨_, rfl⟩, _, rfl, p, 8, _, rfl, by decide, ten_le (by decide), w3', by omega, fun r4 H4 e1 e2 w4 b4 => ⟨_, _, rfl, rfl, _, rfl, by omega, by omega, fun D nD => ?_⟩⟩
    have u1p : u1 ≠ p := w3.ne m1
    have u4 := b4.at (by simp [u1p]) (upd_same (H := H3) (a := u1))
    have b4' := (b3'.n1 m1 (o := .lst [.str s0, .str s1])).t1 b4
    refine lc_range (lo := 0) (n := (1 + r4).toNat) (fun i H' => ∃ ks : List Nat, H' D = some (.lst ((ks.map fun c => (⟨#[c]⟩ : Str)).map V.str)) ∧ ks.length = i ∧ (∀ c ∈ ks, 97 ≤ c ∧ c ≤ 122) ∧ WellAt H' p (c + 1 + 1 + 1 + 1 + i) ∧ But [p] H H' ∧ H' u1 = some (.lst [.str s0, .str s1]))
      ⟨[], upd_same, rfl, (fun c hc => by cases hc), w4.new nD, b4'.n1 nD, by rw [upd_ne (ne_of_none u4 nD)]; exact u4⟩ ?_ ?_
    · rintro i H5 hi ⟨ks, hD, hl, hk, w5, b5, u5⟩
      refine ⟨rfl, ?_⟩
      refine ⟨_, rfl, _, rfl, p, 26, _, rfl, by decide, ten_le (by decide), w5, by omega, fun r5 H6 g1 g2 w6 b6 => ?_⟩
      obtain ⟨ch', hch', k1, k2⟩ := letters_at g1 g2
      have Dp : D ≠ p := w4.ne nD
      have Du : u1 ≠ D := ne_of_none u4 nD
      refine ⟨_, r5, ch', rfl, rfl, (by decide +kernel), hch', _, b6.at (by simp [Dp]) hD, ?_, ks ++ [ch'], ?_, ?_, ?_, ?_, ?_, ?_⟩
      · rw [List.length_map, List.length_map, hl]
        exact small1000 (by omega)
      · rw [upd_same, List.map_append, List.map_append]
        rfl
      · rw [List.length_append, hl]
        rfl
      · intro z hz
        rcases List.mem_append.mp hz with q | q
        · exact hk z q
        · rw [List.mem_singleton.mp q]
          exact ⟨k1, k2⟩
      · refine WellAt.at (H := H6) w6 fun o e => ?_
        rw [upd_ne Dp.symm]
        exact e
      · exact (b5.t1 b6).trans (But.set (F := [D]) (by simp) (b6.at (by simp [Dp]) hD) (by intro xs z; cases z)) fun z hz => .inr (by
          rw [List.mem_singleton.mp hz]
          exact b4'.free nD (by simp [Dp]))
      · rw [upd_ne Du]
        exact b6.at (by simp [u1p]) u5
    · rintro H5 ⟨ks, hD, hl, hk, w5, b5, u5⟩
      have i3 := join_thing (ks := ks) (by omega) (by omega) hk
      have sum1 : ((ks.map fun c => (⟨#[c]⟩ : Str)).map (·.length)).sum = ks.length := by
        clear hl hk hD i3
        induction ks with
        | nil => rfl
        | cons c r ih =>
          rw [List.map_cons, List.map_cons, List.sum_cons, ih, List.length_cons]
          show 1 + r.length = _
          omega
      refine ⟨_, D, ks.map fun c => (⟨#[c]⟩ : Str), rfl, rfl, .inl (SqL.of hD), ?_, ?_⟩
      · rw [sum1, show ("" : Str).length = 0 from rfl]
        omega
      generalize Txt.join "" (ks.map fun c => (⟨#[c]⟩ : Str)) = s3 at i3 ⊢
      refine ⟨(by show 2 ≤ sizeLine; decide), fun u2 m2 => ?_⟩
      have u12 : u1 ≠ u2 := ne_of_none u5 m2
      refine ⟨u1, u2, _, _, rfl, rfl, (by rw [upd_ne u12]; exact u5), upd_same, (by show 4 ≤ sizeLine; decide), fun u3 m3 => ?_⟩
      have w7 := (w5.new (o := .lst [.str s2, .str s3]) m2).new (o := .lst ([V.str s0, .str s1] ++ [.str s2, .str s3])) m3
      have b7 := (b5.n1 (o := .lst [.str s2, .str s3]) m2).n1 (o := .lst ([V.str s0, .str s1] ++ [.str s2, .str s3])) m3
      have h7 : (upd (upd H5 u2 (.lst [.str s2, .str s3])) u3 (.lst ([V.str s0, .str s1] ++ [.str s2, .str s3]))) u3 = some (.lst ([s0, s1, s2, s3].map V.str)) := upd_same
      have all : ∀ x ∈ [s0, s1, s2, s3], IsThing x := fun x hx => by
        simp only [List.mem_cons, List.not_mem_nil, or_false] at hx
        rcases hx with rfl | rfl | rfl | rfl
        · exact i0
        · exact i1
        · exact i2
        · exact i3
      show gName 3 (.ref u3) _ (upd (upd H5 u2 (.lst [.str s2, .str s3])) u3 (.lst ([V.str s0, .str s1] ++ [.str s2, .str s3]))) _
      generalize (upd (upd H5 u2 (.lst [.str s2, .str s3])) u3 (.lst ([V.str s0, .str s1] ++ [.str s2, .str s3]))) = H7 at w7 b7 h7 ⊢
      refine ⟨_, rfl, by decide, by decide, fun R nR => ?_⟩
      have Rp := w7.ne nR
      refine lc_range (lo := 0) (n := (4 : Int).toNat) (fun i H' => ∃ th : List Str, H' R = some (.lst (th.map V.str)) ∧ th.length ≤ i ∧ (1 ≤ i → th ≠ []) ∧ (∀ x ∈ th, IsThing x) ∧ WellAt H' p (c + 1 + 1 + 1 + 1 + (1 + r4).toNat) ∧ But [p] H H' ∧ H' u3 = some (.lst ([s0, s1, s2, s3].map V.str)))
        ⟨[], upd_same, Nat.le_refl _, (fun z => absurd z (by decide)), (fun x hx => by cases hx), w7.new nR, b7.n1 nR, by rw [upd_ne (ne_of_none h7 nR)]; exact h7⟩ ?_ ?_
      · rintro i H8 hi ⟨th, hR, hl', hne, hth, w8, b8, h8⟩
        have hi4 : i < 4 := hi
        obtain ⟨x, hx, hm⟩ := atI_of (xs := [s0, s1, s2, s3].map V.str) (r := 0 + (i : Int)) (by omega) (by show 0 + (i : Int) < 4; omega)
        obtain ⟨y, hy, rfl⟩ := List.mem_map.mp hm
        have u3R : u3 ≠ R := ne_of_none h7 nR
        refine ⟨rfl, ?_⟩
        refine ⟨_, rfl, _, rfl, u3, _, _, _, rfl, rfl, SqL.of h8, hx, ?_⟩
        refine ⟨_, rfl, _, rfl, _, rfl, u3, _, rfl, SqL.of h8, fun v nv => ?_⟩
        have Rv : R ≠ v := ne_of_none hR nv
        have uv : u3 ≠ v := ne_of_none h8 nv
        refine ⟨v, _, rfl, .inl (SqL.of upd_same), rfl, ?_, ?_⟩
        · rw [List.all_eq_true]
          intro z hz
          unfold cutV at hz
          have hz := List.mem_of_mem_drop (List.mem_of_mem_take hz)
          obtain ⟨q, _, rfl⟩ := List.mem_map.mp hz
          rfl
        refine ⟨_, rfl, ite_or (fun cin => ?_) (fun cin => ?_)⟩
        · refine ⟨_, rfl, _, rfl, u3, _, _, _, rfl, rfl, SqL.of (by rw [upd_ne uv]; exact h8), hx, _, (by rw [upd_ne Rv]; exact hR), ?_, th ++ [y], ?_, ?_, ?_, ?_, ?_, ?_, ?_⟩
          · rw [List.length_map]
            exact small1000 (by omega)
          · rw [upd_same, List.map_append]
            rfl
          · rw [List.length_append, List.length_singleton]
            omega
          · intro _ z
            simp at z
          · intro z hz
            rcases List.mem_append.mp hz with q | q
            · exact hth z q
            · rw [List.mem_singleton.mp q]
              exact all y hy
          · exact (w8.new nv).at fun o e => by rw [upd_ne Rp.symm]; exact e
          · exact (b8.n1 nv).trans (But.set (F := [R]) (by simp) (by rw [upd_ne Rv]; exact hR) (by intro xs z; cases z)) fun z hz => .inr (by
              rw [List.mem_singleton.mp hz]
              exact b7.free nR (by simp [Rp]))
          · rw [upd_ne u3R, upd_ne uv]
            exact h8
        · refine ⟨th, (by rw [upd_ne Rv]; exact hR), by omega, fun _ => ?_, hth, w8.new nv, b8.n1 nv, by rw [upd_ne uv]; exact h8⟩
          by_cases i0' : i = 0
          · subst i0'
            exact Bool.noConfusion (show true = false from cin)
          · exact hne (by omega)
      · rintro H8 ⟨th, hR, hl', hne, hth, w8, b8, h8⟩
        exact k R th H8 (b7.free nR (by simp [Rp])) Rp ⟨hR, hne (by decide), hl', hth⟩ (w8.mono (by omega)) b8
end
end K76
set_option maxRecDepth 100000
set_option maxHeartbeats 4000000
namespace K76
open PySem L2
section
variable {P : Program} {w : World} {K : PySem.W.Frag} {mg : Str → Option Value} {base : Heap} {a : Ad}

/-! ## same -/
inductive Wd : Tr → Prop
  | lf {v : V} : Wd (.lf v)
  | ls {ts : List Tr} : ts.length < 1000 → (∀ t ∈ ts, Wd t) → Wd (.ls ts)
  | tp {ts : List Tr} : ts.length < 1000 → (∀ t ∈ ts, Wd t) → Wd (.tp ts)
def spSame (k : Nat) : Sp := fun vs H Q _ => ∃ (v u : V) (t : Tr) (N1 N2 : Addr → Prop), vs = [v, u] ∧ Rep N1 H k v t ∧ Rep N2 H k u t ∧ Wd t ∧ ∀ H', Same H H' → Q (.bl true) H'
def spS : Nat → Sp
  | 0 => fun _ _ _ _ => False
  | k + 1 => spSame k
theorem ok_law_same (T : Txt K mg a) : ∀ k : Nat, Ok1 P w K mg base CX0 (k + 1) a.law_same ["_law_found", "_law_due"] (spS k) 
  | 0 => by
    obtain ⟨fd, F⟩ := T.f_law_same
    exact ⟨fd, F.ok sc_law_same (fun vs H Q E h => False.elim h) (fun cdv A outer s H vs Q E hr h => False.elim h), F.binds (ps := ["_law_found", "_law_due"]) fun _ _ _ _ _ _ us hl => match us, hl with | [_, _], _ => rfl, F.kp⟩
  | k + 1 => by
    obtain ⟨fd_law_same, G_law_same, b_law_same, kp_law_same⟩ := ok_law_same T k
    obtain ⟨fd, F⟩ := T.f_law_same
    refine ⟨fd, F.ok sc_law_same (fun vs H Q E h => ?_) (fun cdv A outer s H vs Q E hr h => ?_), F.binds (ps := ["_law_found", "_law_due"]) fun _ _ _ _ _ _ us hl => match us, hl with | [_, _], _ => rfl, F.kp⟩
    · obtain ⟨v, u, t, N1, N2, rfl, _⟩ := h
      rfl
    · skip
      refine ⟨_, (pss_cons (ps_if (pt_val (pe_callB call_isiT (by rfl) T.b_isinstance (by decide +kernel) (pa_cons (pv 1) (pa_cons (pe_tup (pa_cons (pe_bltn (v := .ty "list") (by rfl) T.b_list (by decide +kernel) rfl) (pa_cons (pe_bltn (v := .ty "tuple") (by rfl) T.b_tuple (by decide +kernel) rfl) pa_nil))) pa_nil)))) (pss_cons (ps_set (i := 2) sc_law_same.nd rfl (Or.inl rfl) (pe_ifExp (pt_val (pe_callB call_isi (by rfl) T.b_isinstance (by decide +kernel) (pa_cons (pv 1) (pa_cons (pe_bltn (v := .ty "list") (by rfl) T.b_list (by decide +kernel) rfl) pa_nil)))) (pe_callB call_isi (by rfl) T.b_isinstance (by decide +kernel) (pa_cons (pv 0) (pa_cons (pe_bltn (v := .ty "list") (by rfl) T.b_list (by decide +kernel) rfl) pa_nil))) (pe_callB call_isi (by rfl) T.b_isinstance (by decide +kernel) (pa_cons (pv 0) (pa_cons (pe_bltn (v := .ty "tuple") (by rfl) T.b_tuple (by decide +kernel) rfl) pa_nil)))))
        (pss_cons (ps_if (PW.pt (pw_or (pt_not (pt_val (pv 2))) (pw_or1 (pt_cmpR op_ne (pe_callB (call_len_seqK (K := K) rfl) (by rfl) T.b_len (by decide +kernel) (pa_cons (pv 0) pa_nil)) (pe_callB (call_len_seqK (K := K) rfl) (by rfl) T.b_len (by decide +kernel) (pa_cons (pv 1) pa_nil)) (nomark _))))) (pss_one (ps_ret pe_bl)) pss_nil)
        (pss_one (ps_ret (pe_callB (cr_all rfl) (by rfl) T.b_all (by decide +kernel) (pa_cons (pe_lc (own := [("_law_k", 3)]) (g := gName 3) (tt := tYes) rfl sc_law_same.nd (pi_range1 (by rfl) T.b_range (pa_cons (pe_callB (call_len_seqK (K := K) rfl) (by rfl) T.b_len (by decide +kernel) (pa_cons (pv 1) pa_nil)) pa_nil)) (blkOk_by (N := ["_law_found", "_law_due", "_law_is_kind", "_law_k"]) (sc := defScope s_law_same) (by decide +kernel)) (fun _ _ _ _ _ => (pg_name (i := 3) sc_law_same.nd rfl (Or.inl rfl))) (fun _ _ _ _ _ => pts_nil) (fun _ _ _ _ _ => (pe_call G_law_same (hr.mono (by omega)) rfl T.g_law_same kp_law_same b_law_same .nil pass0 (pa_cons (pe_ix ((ix_listK (K := K) rfl).or (ix_tupK (K := K) rfl)) (pv 0) (pv 3) (fun _ _ => rfl)) (pa_cons (pe_ix ((ix_listK (K := K) rfl).or (ix_tupK (K := K) rfl)) (pv 1) (pv 3) (fun _ _ => rfl)) pa_nil))))) pa_nil)))))) pss_nil)
        (pss_cons (ps_if (pt_cmp (pc_isN (pv 1)) rfl) (pss_one (ps_ret (pe_cmp (pc_isN (pv 0)) rfl))) pss_nil)
        (pss_cons (ps_if (pt_val (pe_callB call_isi (by rfl) T.b_isinstance (by decide +kernel) (pa_cons (pv 1) (pa_cons (pe_bltn (v := .ty "str") (by rfl) T.b_str (by decide +kernel) rfl) pa_nil)))) (pss_one (ps_ret (pe_and (pe_callB call_isi (by rfl) T.b_isinstance (by decide +kernel) (pa_cons (pv 0) (pa_cons (pe_bltn (v := .ty "str") (by rfl) T.b_str (by decide +kernel) rfl) pa_nil))) (pe_one (pe_cmpR op_eq (pv 0) (pv 1) (nomark _)))))) pss_nil)
        (pss_one (ps_ret (pe_and (pe_callB call_isi (by rfl) T.b_isinstance (by decide +kernel) (pa_cons (pv 0) (pa_cons (pe_bltn (v := .ty "int") (by rfl) T.b_int (by decide +kernel) rfl) pa_nil))) (pe_and (pe_cmpR op_eq (pe_callB call_isi (by rfl) T.b_isinstance (by decide +kernel) (pa_cons (pv 0) (pa_cons (pe_bltn (v := .ty "bool") (by rfl) T.b_bool (by decide +kernel) rfl) pa_nil))) (pe_callB call_isi (by rfl) T.b_isinstance (by decide +kernel) (pa_cons (pv 1) (pa_cons (pe_bltn (v := .ty "bool") (by rfl) T.b_bool (by decide +kernel) rfl) pa_nil))) (nomark _)) (pe_one (pe_cmpR op_eq (pv 0) (pv 1) (nomark _)))))))))), ?_⟩
      obtain ⟨v, u, t, N1, N2, rfl, r1, r2, wd, q⟩ := h
      have two : ∀ {ty : String} {b : Bool}, kitB ty "list" = some false → kitB ty "tuple" = some b → PySem.W.kitAny K (.type ty) [.type "list", .type "tuple"] = some b := fun h1 h2 =>
        kitAny_cons (kit_ty h1) (fun _ => kitAny_cons (kit_ty h2) (fun e => by rw [e]; rfl) (fun e => e)) (fun z => by cases z)
      have sm : ∀ {p : Addr} {o : HO}, H p = none → Same H (upd H p o) := fun np b o e => by rw [upd_ne (ne_of_none e np)]; exact e
      cases r2 with
      | lf fu =>
        cases r1 with
        | lf fv =>
        clear fv wd
        cases v with
        | non =>
          refine ⟨_, rfl, (by show 2 ≤ sizeLine; decide), fun p np => ⟨.non, p, [.ty "list", .ty "tuple"], _, _, false, rfl, upd_same, .cons (.ty _) (.cons (.ty _) .nil), .base .non, two (by decide +kernel) (by decide +kernel), false, rfl, iteF ?_⟩⟩
          exact ⟨_, rfl, _, rfl, iteT ⟨_, rfl, q _ (sm np)⟩⟩
        | bl b =>
          refine ⟨_, rfl, (by show 2 ≤ sizeLine; decide), fun p np => ⟨.bl b, p, [.ty "list", .ty "tuple"], _, _, false, rfl, upd_same, .cons (.ty _) (.cons (.ty _) .nil), .base (.bl b), two (by decide +kernel) (by decide +kernel), false, rfl, iteF ?_⟩⟩
          refine ⟨_, rfl, _, rfl, iteF ?_⟩
          refine ⟨_, rfl, .bl b, .ty "str", _, _, false, rfl, ClsV.ty _, .base (.bl b), kit_ty (by decide +kernel), false, rfl, iteF ?_⟩
          refine ⟨_, rfl, .bl b, .ty "int", _, _, true, rfl, ClsV.ty _, .base (.bl b), kit_ty (by decide +kernel), true, rfl, iteT ?_⟩
          refine ⟨_, rfl, .bl b, .ty "bool", _, _, true, rfl, ClsV.ty _, .base (.bl b), kit_ty (by decide +kernel), ?_⟩
          refine ⟨_, rfl, .bl b, .ty "bool", _, _, true, rfl, ClsV.ty _, .base (.bl b), kit_ty (by decide +kernel), rfl, true, rfl, iteT ?_⟩
          refine ⟨_, rfl, _, rfl, rfl, ?_⟩
          rw [decide_eq_true rfl]
          exact q _ (sm np)
        | int i =>
          refine ⟨_, rfl, (by show 2 ≤ sizeLine; decide), fun p np => ⟨.int i, p, [.ty "list", .ty "tuple"], _, _, false, rfl, upd_same, .cons (.ty _) (.cons (.ty _) .nil), .base (.int i), two (by decide +kernel) (by decide +kernel), false, rfl, iteF ?_⟩⟩
          refine ⟨_, rfl, _, rfl, iteF ?_⟩
          refine ⟨_, rfl, .int i, .ty "str", _, _, false, rfl, ClsV.ty _, .base (.int i), kit_ty (by decide +kernel), false, rfl, iteF ?_⟩
          refine ⟨_, rfl, .int i, .ty "int", _, _, true, rfl, ClsV.ty _, .base (.int i), kit_ty (by decide +kernel), true, rfl, iteT ?_⟩
          refine ⟨_, rfl, .int i, .ty "bool", _, _, false, rfl, ClsV.ty _, .base (.int i), kit_ty (by decide +kernel), ?_⟩
          refine ⟨_, rfl, .int i, .ty "bool", _, _, false, rfl, ClsV.ty _, .base (.int i), kit_ty (by decide +kernel), rfl, true, rfl, iteT ?_⟩
          refine ⟨_, rfl, _, rfl, rfl, ?_⟩
          rw [decide_eq_true rfl]
          exact q _ (sm np)
        | str z =>
          refine ⟨_, rfl, (by show 2 ≤ sizeLine; decide), fun p np => ⟨.str z, p, [.ty "list", .ty "tuple"], _, _, false, rfl, upd_same, .cons (.ty _) (.cons (.ty _) .nil), .base (.str z), two (by decide +kernel) (by decide +kernel), false, rfl, iteF ?_⟩⟩
          refine ⟨_, rfl, _, rfl, iteF ?_⟩
          refine ⟨_, rfl, .str z, .ty "str", _, _, true, rfl, ClsV.ty _, .base (.str z), kit_ty (by decide +kernel), true, rfl, iteT ?_⟩
          refine ⟨_, rfl, .str z, .ty "str", _, _, true, rfl, ClsV.ty _, .base (.str z), kit_ty (by decide +kernel), true, rfl, iteT ?_⟩
          refine ⟨_, rfl, _, rfl, rfl, ?_⟩
          rw [decide_eq_true rfl]
          exact q _ (sm np)
        | _ => cases fu
      | @ls k a2 us ts n2 e2 l2 s2 =>
        cases r1 with
        | @ls _ a1 vs _ n1 e1 l1 s1 =>
        cases wd with
        | ls wl wt =>
        refine ⟨_, rfl, (by show 2 ≤ sizeLine; decide), fun p np => ⟨_, p, [.ty "list", .ty "tuple"], .type "list", _, true, rfl, upd_same, .cons (.ty _) (.cons (.ty _) .nil), .base (.lst (by rw [upd_ne (ne_of_none e2 np)]; exact e2)), kitAny_cons (kit_ty (r := true) (by decide +kernel)) (fun z => by cases z) (fun _ => rfl), true, rfl, iteT ?_⟩⟩
        have e1' : (upd H p (.tup [.ty "list", .ty "tuple"])) a1 = some (.lst vs) := by rw [upd_ne (ne_of_none e1 np)]; exact e1
        have e2' : (upd H p (.tup [.ty "list", .ty "tuple"])) a2 = some (.lst us) := by rw [upd_ne (ne_of_none e2 np)]; exact e2
        have sm' := sm (o := .tup [.ty "list", .ty "tuple"]) np
        show tSeq _ _ _ _ (upd H p (.tup [.ty "list", .ty "tuple"]))
        generalize (upd H p (.tup [.ty "list", .ty "tuple"])) = H0 at e1' e2' sm' ⊢
        refine ⟨_, rfl, _, .ty "list", .type "list", _, true, rfl, ClsV.ty _, .base (.lst e2'), kit_ty (by decide +kernel), true, rfl, iteT ?_⟩
        refine ⟨_, rfl, _, .ty "list", .type "list", _, true, rfl, ClsV.ty _, .base (.lst e1'), kit_ty (by decide +kernel), ?_⟩
        refine ⟨_, rfl, true, rfl, iteF ?_⟩
        refine ⟨_, rfl, a1, vs, rfl, .inl (SqL.of e1'), _, rfl, a2, us, rfl, .inl (SqL.of e2'), ?_⟩
        refine ⟨rfl, _, rfl, ?_⟩
        refine noF (by
          have e : V.int (vs.length : Int) = V.int (us.length : Int) := by rw [l1, l2]
          rw [decide_eq_true e]
          rfl) ?_
        refine ⟨_, rfl, a2, us, rfl, .inl (SqL.of e2'), _, rfl, (by omega), (by omega), fun D nD => ?_⟩
        refine lc_range (lo := 0) (n := (us.length : Int).toNat) (fun i H' => H' D = some (.lst ((List.replicate i true).map V.bl)) ∧ Same H0 H')
          ⟨upd_same, fun b o e => by rw [upd_ne (ne_of_none e nD)]; exact e⟩ ?_ ?_
        · rintro i H1 hi ⟨hD, sm1⟩
          refine ⟨rfl, ?_⟩
          have hi1 : i < us.length := by simpa using hi
          obtain ⟨x1, g1⟩ : ∃ x, vs[i]? = some x := ⟨vs[i]'(by omega), by simp [show i < vs.length by omega]⟩
          have hx1 : atI vs (0 + (i : Int)) = some x1 := by rw [Int.zero_add]; exact atI_nat g1
          obtain ⟨x2, g2⟩ : ∃ x, us[i]? = some x := ⟨us[i]'(by omega), by simp [show i < us.length by omega]⟩
          have hx2 : atI us (0 + (i : Int)) = some x2 := by rw [Int.zero_add]; exact atI_nat g2
          obtain ⟨t, ht⟩ : ∃ t, ts[i]? = some t := ⟨ts[i]'(by omega), by simp [show i < ts.length by omega]⟩
          have r1 := s1 i x1 t g1 ht
          have r2 := s2 i x2 t g2 ht
          have sA : Same H H1 := fun b o e => sm1 _ _ (sm' _ _ e)
          refine ⟨_, rfl, _, rfl, .inl ⟨a1, _, _, _, rfl, rfl, SqL.of (sm1 _ _ e1'), hx1, ?_⟩⟩
          refine ⟨_, rfl, _, rfl, .inl ⟨a2, _, _, _, rfl, rfl, SqL.of (sm1 _ _ e2'), hx2, ?_⟩⟩
          refine ⟨x1, x2, t, _, _, rfl, r1.keep (fun _ n => n) (fun a xs _ e => sA _ _ e) (fun a xs e => sA _ _ e), r2.keep (fun _ n => n) (fun a xs _ e => sA _ _ e) (fun a xs e => sA _ _ e), wt t (List.mem_of_getElem? ht), fun H2 sm2 => ?_⟩
          refine ⟨_, sm2 _ _ hD, ?_, ?_, fun b o e => ?_⟩
          · rw [List.length_map, List.length_replicate]
            exact small1000 (by omega)
          · rw [upd_same, List.replicate_succ', List.map_append]
            rfl
          · rw [upd_ne (ne_of_none e nD)]
            exact sm2 _ _ (sm1 _ _ e)
        · rintro H1 ⟨hD, sm1⟩
          refine ⟨D, _, rfl, SqL.of hD, ?_⟩
          have e : (List.replicate (us.length : Int).toNat true).all id = true := by
            rw [List.all_eq_true]
            intro b hb
            exact (List.mem_replicate.mp hb).2
          rw [e]
          exact q _ fun b o e => sm1 _ _ (sm' _ _ e)
      | @tp k a2 us ts e2 l2 s2 =>
        cases r1 with
        | @tp _ a1 vs _ e1 l1 s1 =>
        cases wd with
        | tp wl wt =>
        refine ⟨_, rfl, (by show 2 ≤ sizeLine; decide), fun p np => ⟨_, p, [.ty "list", .ty "tuple"], .type "tuple", _, true, rfl, upd_same, .cons (.ty _) (.cons (.ty _) .nil), .base (.tup (by rw [upd_ne (ne_of_none e2 np)]; exact e2)), two (by decide +kernel) (by decide +kernel), true, rfl, iteT ?_⟩⟩
        have e1' : (upd H p (.tup [.ty "list", .ty "tuple"])) a1 = some (.tup vs) := by rw [upd_ne (ne_of_none e1 np)]; exact e1
        have e2' : (upd H p (.tup [.ty "list", .ty "tuple"])) a2 = some (.tup us) := by rw [upd_ne (ne_of_none e2 np)]; exact e2
        have sm' := sm (o := .tup [.ty "list", .ty "tuple"]) np
        show tSeq _ _ _ _ (upd H p (.tup [.ty "list", .ty "tuple"]))
        generalize (upd H p (.tup [.ty "list", .ty "tuple"])) = H0 at e1' e2' sm' ⊢
        refine ⟨_, rfl, _, .ty "list", .type "tuple", _, false, rfl, ClsV.ty _, .base (.tup e2'), kit_ty (by decide +kernel), false, rfl, iteF ?_⟩
        refine ⟨_, rfl, _, .ty "tuple", .type "tuple", _, true, rfl, ClsV.ty _, .base (.tup e1'), kit_ty (by decide +kernel), ?_⟩
        refine ⟨_, rfl, true, rfl, iteF ?_⟩
        refine ⟨_, rfl, a1, vs, rfl, .inr (SqT.of e1'), _, rfl, a2, us, rfl, .inr (SqT.of e2'), ?_⟩
        refine ⟨rfl, _, rfl, ?_⟩
        refine noF (by
          have e : V.int (vs.length : Int) = V.int (us.length : Int) := by rw [l1, l2]
          rw [decide_eq_true e]
          rfl) ?_
        refine ⟨_, rfl, a2, us, rfl, .inr (SqT.of e2'), _, rfl, (by omega), (by omega), fun D nD => ?_⟩
        refine lc_range (lo := 0) (n := (us.length : Int).toNat) (fun i H' => H' D = some (.lst ((List.replicate i true).map V.bl)) ∧ Same H0 H')
          ⟨upd_same, fun b o e => by rw [upd_ne (ne_of_none e nD)]; exact e⟩ ?_ ?_
        · rintro i H1 hi ⟨hD, sm1⟩
          refine ⟨rfl, ?_⟩
          have hi1 : i < us.length := by simpa using hi
          obtain ⟨x1, g1⟩ : ∃ x, vs[i]? = some x := ⟨vs[i]'(by omega), by simp [show i < vs.length by omega]⟩
          have hx1 : atI vs (0 + (i : Int)) = some x1 := by rw [Int.zero_add]; exact atI_nat g1
          obtain ⟨x2, g2⟩ : ∃ x, us[i]? = some x := ⟨us[i]'(by omega), by simp [show i < us.length by omega]⟩
          have hx2 : atI us (0 + (i : Int)) = some x2 := by rw [Int.zero_add]; exact atI_nat g2
          obtain ⟨t, ht⟩ : ∃ t, ts[i]? = some t := ⟨ts[i]'(by omega), by simp [show i < ts.length by omega]⟩
          have r1 := s1 i x1 t g1 ht
          have r2 := s2 i x2 t g2 ht
          have sA : Same H H1 := fun b o e => sm1 _ _ (sm' _ _ e)
          refine ⟨_, rfl, _, rfl, .inr ⟨a1, _, _, _, rfl, rfl, SqT.of (sm1 _ _ e1'), hx1, ?_⟩⟩
          refine ⟨_, rfl, _, rfl, .inr ⟨a2, _, _, _, rfl, rfl, SqT.of (sm1 _ _ e2'), hx2, ?_⟩⟩
          refine ⟨x1, x2, t, _, _, rfl, r1.keep (fun _ n => n) (fun a xs _ e => sA _ _ e) (fun a xs e => sA _ _ e), r2.keep (fun _ n => n) (fun a xs _ e => sA _ _ e) (fun a xs e => sA _ _ e), wt t (List.mem_of_getElem? ht), fun H2 sm2 => ?_⟩
          refine ⟨_, sm2 _ _ hD, ?_, ?_, fun b o e => ?_⟩
          · rw [List.length_map, List.length_replicate]
            exact small1000 (by omega)
          · rw [upd_same, List.replicate_succ', List.map_append]
            rfl
          · rw [upd_ne (ne_of_none e nD)]
            exact sm2 _ _ (sm1 _ _ e)
        · rintro H1 ⟨hD, sm1⟩
          refine ⟨D, _, rfl, SqL.of hD, ?_⟩
          have e : (List.replicate (us.length : Int).toNat true).all id = true := by
            rw [List.all_eq_true]
            intro b hb
            exact (List.mem_replicate.mp hb).2
          rw [e]
          exact q _ fun b o e => sm1 _ _ (sm' _ _ e)
end
end K76
set_option maxRecDepth 100000
set_option maxHeartbeats 4000000
namespace K76
open PySem L2
section
variable {P : Program} {w : World} {K : PySem.W.Frag} {mg : Str → Option Value} {base : Heap} {a : Ad}

/-! ## len of an instance with its own __len__ -/
section
open PySem.Spec PyProof.Rows
theorem call_lenO {X : Cx} {C f : Addr} {fd : FuncData} {ps : List Str} {sp : Sp} {CI : CXT} {E : XK} {k : Nat} (hm : PySem.W.findIn X.K (.ref C) "__len__" = some (some (.ref f))) (hf : PySem.W.isFn X.K (.ref f) = true) (F : FnOk X.prog X.w X.K X.mg X.base CI k f fd ps sp)
    (b : Binds X.K fd ps []) (hx : Passes CI X E) (hr : Room (k + 1) X.A) :
    CallR X (.builtin "len") (fun xs H Q => ∃ a dx fs, xs = [.ref a] ∧ H a = some (.ins C dx fs) ∧ sp [.ref a] H (fun v H' => ∃ n : Nat, v = .int (n : Int) ∧ n < 2 ^ 62 ∧ Q (.int (n : Int)) H') E) := by
  intro pins s σ H xs us Q I rv h
  obtain ⟨a, dx, fs, rfl, ha, hq⟩ := h
  obtain ⟨u, rfl, ru⟩ := rv.one
  cases ru
  have sb : Sub X k X.A.in1 := Sub.in1 ⟨hr, rfl⟩
  obtain ⟨mA, J, _⟩ := ins_get I.hok ha
  obtain ⟨od, J, _⟩ := J.look
  have e0 : Env0 X.prog X.w X.K X.mg X.base X.A.in1 X.stack s H := by
    have e := I.env0
    exact ⟨by rw [sb.fr]; exact e.frames, e.mod, e.bs, e.bsz, e.funs, e.frf, e.hok, e.bare⟩
  have hl := F.len _ _ _ _ hq
  have r2 : Vals [V.ref a] [Value.ref a] := .cons rfl .nil
  refine Calls.call_function_entry kind_len plain_len entry_len (args_len1 _) ?_
  unfold Builtin.«len»
  refine wpAny_bind (m := oneArg "len" _) (wpAny_pure ?_)
  refine wpAny_bind (m := callSpecial? (.ref a) (PySem.Str.ofString "__len__")) (PySem.W.special_fn (name := "__len__") (args := []) I.kIn J hm (beq_iff_eq.mp hf) ?_)
  refine wpAny_call (codeAny_mono (F.run X.A.in1 X.stack s H ⟨[.ref a], []⟩ [.ref a] [.ref a] _ E sb.room e0 (by
    have := b s [.ref a] I.kIn (by simpa using hl)
    simpa using this) r2 hq) fun r s' hq' => ?_)
  cases r with
  | error e => exact hx pins σ H s e s' I hq'
  | ok fl =>
    cases fl with
    | next => exact False.elim hq'
    | brk => exact False.elim hq'
    | cont => exact False.elim hq'
    | ret u =>
      obtain ⟨v, H', I', rv, n, rfl, hn, q⟩ := I.after hq'
      obtain ⟨t, rfl⟩ := rv
      refine wpAny_bind (wpAny_holding (wpAny_pure ?_))
      refine wpAny_bind (wpAny_letGo ?_)
      show wpAny _ _ (if ((n : Nat) : Int) < 0 then _ else _) _ _ _
      rw [if_neg (by omega)]
      show wpAny _ _ (if ((n : Nat) : Int) ≥ 2 ^ 63 then _ else _) _ _ _
      rw [if_neg (by omega)]
      exact wpAny_bind (wpAny_mkInt (wpAny_pure ⟨_, rfl, .int n, H', I'.tok _, ⟨_, rfl⟩, q⟩))
end
def standT (h : Int) (cs : List Call) : Tr := .ls [thingsT (behind h cs).S.hung, .lf (.int (behind h cs).S.stand), .lf (.int h), .lf (.int (behind h cs).S.len), .lf (.int ((behind h cs).n : Int)), .lf (oS ((behind h cs).S.thingAt "near")), .lf (oS ((behind h cs).S.thingAt "far"))]
def spStand (CL CW : Addr) : Sp := fun vs H Q _ => ∃ (A : LA) (h : Int) (cs : List Call) (f : Str → Option Nat) (th : List Str), vs = [.ref A.L] ∧ LineAt CL CW H A h cs f ∧ Hist th h cs ∧
  ∀ H' o, LineAt CL CW H' A h cs f → Stp A A H H' → Rep (fun b => H b = none) H' 3 (.ref o) (standT h cs) → Q (.ref o) H' 
theorem ok_law_stand (T : Txt K mg a) : Ok1 P w K mg base CX0 7 a.law_stand ["_law_line"] (spStand a.cLine a.cLineWork) := by
  obtain ⟨fd, F⟩ := T.f_law_stand
  obtain ⟨fd_Line_things, G_Line_things, b_Line_things, kp_Line_things⟩ := ok_Line_things (P := P) (w := w) (base := base) T
  obtain ⟨fd_Line_turn, G_Line_turn, b_Line_turn, kp_Line_turn⟩ := ok_Line_turn (P := P) (w := w) (base := base) T
  obtain ⟨fd_Line_distance, G_Line_distance, b_Line_distance, kp_Line_distance⟩ := ok_Line_distance (P := P) (w := w) (base := base) T
  obtain ⟨fd_Line_pulled, G_Line_pulled, b_Line_pulled, kp_Line_pulled⟩ := ok_Line_pulled (P := P) (w := w) (base := base) T
  obtain ⟨fd_Line_len, G_Line_len, b_Line_len, kp_Line_len⟩ := ok_Line_len (P := P) (w := w) (base := base) T
  obtain ⟨fd_Line_at, G_Line_at, b_Line_at, kp_Line_at⟩ := ok_Line_at (P := P) (w := w) (base := base) T
  refine ⟨fd, F.ok sc_law_stand (fun vs H Q E h => ?_) (fun cdv A outer s H vs Q E hr h => ?_), F.binds (ps := ["_law_line"]) fun _ _ _ _ _ _ us hl => match us, hl with | [_], _ => rfl, F.kp⟩
  · obtain ⟨A, h, cs, f, th, rfl, _⟩ := h
    rfl
  · skip
    refine ⟨_, (pss_one (ps_ret (pe_lst (pa_cons (pe_meth0 (pv 0) T.c_Line T.m_Line_things G_Line_things (hr.mono (by decide)) b_Line_things .nil pass0) (pa_cons (pe_prop (pv 0) T.c_Line T.p_Line_turn G_Line_turn (hr.mono (by decide)) b_Line_turn .nil pass0 rfl) (pa_cons (pe_prop (pv 0) T.c_Line T.p_Line_distance G_Line_distance (hr.mono (by decide)) b_Line_distance .nil pass0 rfl) (pa_cons (pe_prop (pv 0) T.c_Line T.p_Line_pulled G_Line_pulled (hr.mono (by decide)) b_Line_pulled .nil pass0 rfl) (pa_cons (pe_callB (call_lenO T.m_Line_len.at_ T.m_Line_len.fn G_Line_len b_Line_len pass0 (hr.mono (by decide))) (by rfl) T.b_len (by decide +kernel) (pa_cons (pv 0) pa_nil)) (pa_cons (pe_meth (pv 0) T.c_Line T.m_Line_at G_Line_at (hr.mono (by decide)) b_Line_at .nil pass0 (pa_cons pe_str pa_nil)) (pa_cons (pe_meth (pv 0) T.c_Line T.m_Line_at G_Line_at (hr.mono (by decide)) b_Line_at .nil pass0 (pa_cons pe_str pa_nil)) pa_nil)))))))))), ?_⟩
    obtain ⟨A, h, cs, f, th, rfl, x, hi, k⟩ := h
    obtain ⟨dx, hL⟩ := x.ob
    refine ⟨_, rfl, A.L, dx, _, rfl, hL, lfl_m_things, A, h, cs, f, th, rfl, x, hi, fun H1 o1 s1 r1 => ?_⟩
    have x1 := x.same s1
    obtain ⟨dx1, hL1⟩ := x1.ob
    refine ⟨_, rfl, A.L, _, _, rfl, hL1, A, h, cs, f, rfl, x1, ?_⟩
    refine ⟨_, rfl, A.L, _, _, rfl, hL1, A, h, cs, f, rfl, x1, ?_⟩
    refine ⟨_, rfl, A.L, _, _, rfl, hL1, A, h, cs, f, rfl, x1, ?_⟩
    refine ⟨_, rfl, A.L, _, _, rfl, hL1, A, h, cs, f, rfl, x1, (behind h cs).n, rfl, (by have := hi.size; exact Nat.lt_of_le_of_lt this (by decide)), ?_⟩
    refine ⟨_, rfl, A.L, _, _, rfl, hL1, lfl_m_at, A, h, cs, f, th, _, rfl, x1, hi, .inl rfl, fun H2 x2 t2 => ?_⟩
    obtain ⟨dx2, hL2⟩ := x2.ob
    refine ⟨_, rfl, A.L, _, _, rfl, hL2, lfl_m_at, A, h, cs, f, th, _, rfl, x2, hi, .inr rfl, fun H3 x3 t3 => ⟨(by show 7 ≤ sizeLine; decide), fun o no => ?_⟩⟩
    have s4 : ∀ {u : HO}, Same H3 (upd H3 o u) := fun b z e => by rw [upd_ne (ne_of_none e no)]; exact e
    have t4 := (t2.trans t3).trans (Stp.same (s4 (u := .lst [.ref o1, .int (behind h cs).S.stand, .int h, .int (behind h cs).S.len, .int ((behind h cs).n : Int), oS ((behind h cs).S.thingAt "near"), oS ((behind h cs).S.thingAt "far")])))
    refine k _ o (x3.same s4) ((Stp.same s1).trans t4) ?_
    have flat : ∀ q, flatV (oS q) = true := fun q => by cases q <;> rfl
    have r2 := r1.keep (N' := fun b => H b = none) (H' := upd H3 o (.lst [.ref o1, .int (behind h cs).S.stand, .int h, .int (behind h cs).S.len, .int ((behind h cs).n : Int), oS ((behind h cs).S.thingAt "near"), oS ((behind h cs).S.thingAt "far")])) (fun _ n => n) (fun b xs n e => t4.but.at (fun hb => by
      obtain ⟨o, e2, _⟩ := x.noTup b hb
      rw [n] at e2
      cases e2) e) (fun b xs e => t4.but.tup e)
    have on : H o = none := by
      cases q : H o with
      | none => rfl
      | some u =>
        have z : o ∉ A.fp ∨ o ∈ A.fp := (Classical.em _).symm
        rcases z with z | z
        · have := ((t2.trans t3).but.at z (s1 _ _ q))
          rw [no] at this
          cases this
        · obtain ⟨u, e, _⟩ := x3.noTup o z
          rw [no] at e
          cases e
    refine .ls on upd_same rfl fun i v t h1 h2 => ?_
    match i, h1, h2 with
    | 0, h1, h2 => cases h1; cases h2; exact r2
    | 1, h1, h2 => cases h1; cases h2; exact .lf rfl
    | 2, h1, h2 => cases h1; cases h2; exact .lf rfl
    | 3, h1, h2 => cases h1; cases h2; exact .lf rfl
    | 4, h1, h2 => cases h1; cases h2; exact .lf rfl
    | 5, h1, h2 => cases h1; cases h2; exact .lf (flat _)
    | 6, h1, h2 => cases h1; cases h2; exact .lf (flat _)
    | n + 7, h1, h2 => cases h2
end
end K76
set_option maxRecDepth 100000
set_option maxHeartbeats 4000000
namespace K76
open PySem L2
section
variable {P : Program} {w : World} {K : PySem.W.Frag} {mg : Str → Option Value} {base : Heap} {a : Ad}

/-! ## a call made -/
/-- the call stands as a tuple: is it a plan; the list of deeds at an address of N -/
structure CallAt (N : Addr → Prop) (H : Hp) (t : Addr) (c : Call) : Prop where
  ob : ∃ (dl : Addr) (ts : List Addr), H t = some (.tup [.bl c.plan, .ref dl]) ∧ N dl ∧ H dl = some (.lst (ts.map V.ref)) ∧ Paired (DeedAt H) ts c.ds
theorem CallAt.keep {N N' : Addr → Prop} {H H' : Hp} {t : Addr} {c : Call} (x : CallAt N H t c) (hN : ∀ a, N a → N' a) (hl : ∀ a xs, N a → H a = some (.lst xs) → H' a = some (.lst xs)) {F : List Addr} (b : But F H H') : CallAt N' H' t c := by
  obtain ⟨dl, ts, e1, n, e2, p⟩ := x.ob
  exact ⟨dl, ts, b.tup e1, hN _ n, hl _ _ n e2, K76.Paired.mapH p fun _ _ _ d => d.but b⟩
theorem But.free' {F : List Addr} {H H' : Hp} {t : Addr} (a : But F H H') (h : H' t = none) : t ∈ F ∨ H t = none := by
  by_cases c : t ∈ F
  · exact .inl c
  · exact .inr (a.free h c)
theorem LineAt.off {CL CW : Addr} {H H' : Hp} {A A' : LA} {h : Int} {cs : List Call} {f : Str → Option Nat} (x : LineAt CL CW H A h cs f) (s : Stp A A' H H') {o : Addr} (n : H' o = none) (hA' : o ∉ A.fp) : H o = none := s.but.free n hA'
theorem tellP_flat (S : WS) (p : PD) : flatV (tellP S p).1 = true := by
  cases p with
  | pull n => rfl
  | peg w x =>
    rw [tellP_peg]
    split <;> rfl
  | hang w x =>
    rw [tellP_hang]
    split <;> rfl
  | fetch w x =>
    cases e : lk S.hung x with
    | none => rw [tellP_fetch0 e]; rfl
    | some p => rw [tellP_fetch1 e]; rfl
  | walk w s =>
    cases e : times S w s with
    | none => rw [tellP_walk0 e]; rfl
    | some p => rw [tellP_walk1 e]; rfl
  | take w =>
    cases e : S.thingAt w with
    | none => rw [tellP_take0 e]; rfl
    | some p => rw [tellP_take1 e]; rfl
  | look w =>
    rw [tellP_look]
    cases S.thingAt w <;> rfl
theorem tell_flat (S : WS) (d : DD) : flatV (tell S d).1 = true := by
  cases d with
  | plain p => exact tellP_flat S p
  | whn w o p =>
    rw [tell_whn]
    split
    · exact tellP_flat S p
    · rfl
theorem runDs_flat : ∀ (ds : List DD) (S : WS), ∀ v ∈ (runDs S ds).1, flatV v = true
  | [], _, v, h => by cases h
  | d :: r, S, v, h => by
    rcases List.mem_cons.mp h with rfl | h
    · exact tell_flat S d
    · exact runDs_flat r _ v h
def toldT (vs : List V) : Tr := .ls (vs.map Tr.lf)
theorem told_rep {N : Addr → Prop} {H : Hp} {o : Addr} {vs : List V} {k : Nat} (hv : ∀ v ∈ vs, flatV v = true) (n : N o) (e : H o = some (.lst vs)) : Rep N H (k + 1) (.ref o) (toldT vs) :=
  .ls n e (by rw [List.length_map]) fun i v t h1 h2 => by
    rw [List.getElem?_map, h1] at h2
    cases h2
    exact .lf (hv v (List.mem_of_getElem? h1))
theorem told_wd {vs : List V} (h : vs.length ≤ 5) : Wd (toldT vs) := .ls (by rw [List.length_map]; omega) fun t ht => by
  obtain ⟨v, _, rfl⟩ := List.mem_map.mp ht
  exact .lf
def spMade (CL CW : Addr) : Sp := fun vs H Q _ => ∃ (A : LA) (h : Int) (cs : List Call) (f : Str → Option Nat) (th : List Str) (t : Addr) (c : Call) (N : Addr → Prop), vs = [.ref A.L, .ref t] ∧ LineAt CL CW H A h cs f ∧ Hist th h cs ∧
  CallAt N H t c ∧ (∀ b, N b → b ∉ A.fp) ∧ c.ok th ∧
  ∀ A' H' o, LineAt CL CW H' A' h (cs ++ [c]) f → Stp A A' H H' → H' o = some (.lst (toldOf h cs c)) → (o ∈ A.fp ∨ H o = none) → o ∉ A'.fp → Q (.ref o) H' 
theorem ok_law_made (T : Txt K mg a) : Ok1 P w K mg base CX0 7 a.law_made ["_law_line", "_law_call"] (spMade a.cLine a.cLineWork) := by
  obtain ⟨fd, F⟩ := T.f_law_made
  obtain ⟨fd_Line_do_plan, G_Line_do_plan, b_Line_do_plan, kp_Line_do_plan⟩ := ok_Line_do_plan (P := P) (w := w) (base := base) T
  obtain ⟨fd_Line_do, G_Line_do, b_Line_do, kp_Line_do⟩ := ok_Line_do (P := P) (w := w) (base := base) T
  obtain ⟨fd_Plan_init, G_Plan_init, b_Plan_init⟩ := ok_Plan_init2 (P := P) (w := w) (base := base) T
  refine ⟨fd, F.ok sc_law_made (fun vs H Q E h => ?_) (fun cdv A outer s H vs Q E hr h => ?_), F.binds (ps := ["_law_line", "_law_call"]) fun _ _ _ _ _ _ us hl => match us, hl with | [_, _], _ => rfl, F.kp⟩
  · obtain ⟨A, h, cs, f, th, t, c, N, rfl, _⟩ := h
    rfl
  · skip
    refine ⟨_, (pss_one (ps_ret (pe_ifExp (pt_val (pe_ix ix_tup (pv 1) pe_int (fun _ _ => rfl))) (pe_meth (pv 0) T.c_Line T.m_Line_do_plan G_Line_do_plan (hr.mono (by decide)) b_Line_do_plan .nil pass0 (pa_cons (pe_make T.k_Plan G_Plan_init (hr.mono (by decide)) rfl T.g_Plan b_Plan_init .nil pass0 (pa_cons (pe_callTy call_tuple_of (by rfl) T.b_tuple (by decide +kernel) (pa_cons (pe_ix ix_tup (pv 1) pe_int (fun _ _ => rfl)) pa_nil)) pa_nil)) pa_nil)) (pe_lst (pa_cons (pe_meth (pv 0) T.c_Line T.m_Line_do G_Line_do (hr.mono (by decide)) b_Line_do .nil pass0 (pa_cons (pe_ix ix_list (pe_ix ix_tup (pv 1) pe_int (fun _ _ => rfl)) pe_int (fun _ _ => rfl)) pa_nil)) pa_nil))))), ?_⟩
    obtain ⟨A, h, cs, f, th, t, c, N, rfl, x, hi, ct, hN, ok, k⟩ := h
    obtain ⟨dl, ts, e1, n, e2, pd⟩ := ct.ob
    obtain ⟨dx, hL⟩ := x.ob
    obtain ⟨plan, ds⟩ := c
    refine ⟨_, rfl, t, _, _, _, rfl, rfl, SqT.of e1, rfl, plan, rfl, ite_or (fun hp => ?_) (fun hp => ?_)⟩
    · have hp : plan = true := hp
      subst hp
      refine ⟨_, rfl, A.L, dx, _, rfl, hL, lfl_m_do_plan, _, rfl, t, _, _, _, rfl, rfl, SqT.of e1, rfl, dl, _, rfl, .inl ⟨SqL.of e2, fun kt nkt => ?_⟩⟩
      intro p dxp np ndp ne
      have s1 : Same H (upd H kt (.tup (ts.map V.ref))) := fun b o e => by rw [upd_ne (ne_of_none e nkt)]; exact e
      have s2 : Same (upd H kt (.tup (ts.map V.ref))) (upd (upd (upd H kt (.tup (ts.map V.ref))) dxp (.own p)) p (.ins a.cPlan dxp [])) := fun b o e => by rw [upd_ne (ne_of_none e np), upd_ne (ne_of_none e ndp)]; exact e
      have s3 : Same H (upd (upd (upd H kt (.tup (ts.map V.ref))) dxp (.own p)) p (.ins a.cPlan dxp [])) := fun b o e => s2 _ _ (s1 _ _ e)
      have np0 : H p = none := by
        cases q : H p with
        | none => rfl
        | some u => rw [s1 _ _ q] at np; cases np
      refine ⟨p, dxp, kt, ts, ds, th, rfl, upd_same, s2 _ _ upd_same, K76.Paired.mapH pd fun _ _ _ d => d.but (But.same (F := []) s3), ok.1, ok.2.1, fun H2 pl b2 => ⟨rfl, ?_⟩⟩
      have s4 : Same H H2 := But.toSame ((But.same (F := []) s3).trans b2 fun z hz => by
        rw [List.mem_singleton.mp hz]
        exact .inr np0)
      refine ⟨A, h, cs, f, th, p, ts, ds, rfl, x.same s4, hi, pl, K76.Paired.mapH pd fun _ _ _ d => d.but (But.same (F := []) s4), ok.1, ok.2.1, fun A' H' o xl st ho no na => ?_⟩
      refine k A' H' o xl ((Stp.same s4).trans st) ho (.inr ?_) na
      cases q : H o with
      | none => rfl
      | some u => rw [s4 _ _ q] at no; cases no
    · have hp : plan = false := hp
      subst hp
      obtain ⟨d, hd⟩ := ok.2.2 rfl
      have hd : ds = [d] := hd
      subst hd
      obtain ⟨u, rfl, du⟩ : ∃ u, ts = [u] ∧ DeedAt H u d := by
        cases pd with
        | cons a b =>
          cases b
          exact ⟨_, rfl, a⟩
      refine ⟨_, rfl, A.L, dx, _, rfl, hL, lfl_m_do, _, rfl, t, _, _, _, rfl, rfl, SqT.of e1, rfl, dl, _, _, _, rfl, rfl, SqL.of e2, rfl, ?_⟩
      refine ⟨A, h, cs, f, th, u, d, rfl, x, hi, du, ok.1 d List.mem_cons_self, fun A' H1 xl st => ⟨(by show 1 ≤ sizeLine; decide), fun o no => ?_⟩⟩
      have s1 : ∀ {u : HO}, Same H1 (upd H1 o u) := fun b z e => by rw [upd_ne (ne_of_none e no)]; exact e
      have na : o ∉ A'.fp := fun hb => by
        obtain ⟨u, e, _⟩ := xl.noTup o hb
        rw [no] at e
        cases e
      exact k A' _ o (xl.same s1) (st.trans (Stp.same s1)) upd_same (st.but.free' no) na
end
end K76
set_option maxRecDepth 100000
set_option maxHeartbeats 4000000
namespace K76
open PySem L2
section
variable {P : Program} {w : World} {K : PySem.W.Frag} {mg : Str → Option Value} {base : Heap} {a : Ad}

/-! ## went -/
section
variable {X : Cx} {CI : CXT} {k : Nat} {C f : Addr} {fd : FuncData} {ps : List Str} {sp : Sp} {E : St → XK} {m : Str} {pos apos : Pos} {e o : Expr} {es : List Expr} {ta : TE} {t : TA}
/-- a method that may raise, within a try -/
def tMethS (C : Addr) (m : Str) (sp : Sp) (E : St → XK) (ta : TE) (t : TA) : TE := fun σ H Q => ta σ H fun x H1 => ∃ a dx fs, x = .ref a ∧ H1 a = some (.ins C dx fs) ∧ fs.lookup m = none ∧ t σ H1 fun vs H2 => sp (.ref a :: vs) H2 Q (E σ)
theorem pe_methS {pl : Sem Bool} (he : PE X o ta) (c : Cls X.K C) (hm : Meth X.K C m f) (F : FnOk X.prog X.w X.K X.mg X.base CI k f fd ps sp) (hr : Room k X.A) (hb : Binds X.K fd ps []) (hx : ∀ σ, PassesAt CI X σ (E σ)) (ha : PA X (e :: es) t)
    (hst : starEach (e :: es) X.env = (false, eval e X.env) :: starEach es X.env := by rfl) (hpl : (backTo pos (starEach es X.env)).any (·.1) = false := by rfl)
    (ht : eval (.Call (.Attribute o m apos) (e :: es) [] pos) X.env = (do
      let ov ← eval o X.env
      standAt apos.atName
      let (f, first) ← holding [ov] (getMethod ov m pl)
      callWith pos f first (backTo pos (starEach (e :: es) X.env)) (backToKw pos (keywordEach [] X.env))) := by rfl) :
    PE X (.Call (.Attribute o m apos) (e :: es) [] pos) (tMethS C m sp E ta t) := by
  refine ⟨fun pins s σ H Q I h => ?_⟩
  refine PySem.W.methodCall_KW (pl := pl) (thn (he.run pins s σ H _ I h) fun u s1 ⟨x, H1, I1, rx, a, dx, fs, ex, ea, l, q⟩ => ?_) ht
  subst ex
  obtain rfl : u = Value.ref a := rx
  refine getmeth_ok I1 ea c hm l ?_
  refine PySem.W.callWith_K (first := [.ref a]) (h₀ := X.base) I.ok.mod.kin hm.kp (thn (ha.run pos pins s1 σ H1 _ I1 q) fun us s2 ⟨vs, H2, I2, r, q2⟩ => ⟨I2.kIn, ?_⟩) hst hpl
  exact run_fnS (us := .ref a :: us) (vs := .ref a :: vs) F hr hb (hx σ) I2 (.cons rfl r) q2
theorem pe_methS0 {pl : Sem Bool} (he : PE X o ta) (c : Cls X.K C) (hm : Meth X.K C m f) (F : FnOk X.prog X.w X.K X.mg X.base CI k f fd ps sp) (hr : Room k X.A) (hb : Binds X.K fd ps []) (hx : ∀ σ, PassesAt CI X σ (E σ))
    (ht : eval (.Call (.Attribute o m apos) [] [] pos) X.env = (do
      let ov ← eval o X.env
      standAt apos.atName
      let (f, first) ← holding [ov] (getMethod ov m pl)
      callWith pos f first (backTo pos (starEach [] X.env)) (backToKw pos (keywordEach [] X.env))) := by rfl) :
    PE X (.Call (.Attribute o m apos) [] [] pos) (tMethS C m sp E ta tNil) := by
  refine ⟨fun pins s σ H Q I h => ?_⟩
  refine PySem.W.methodCall_KW (pl := pl) (thn (he.run pins s σ H _ I h) fun u s1 ⟨x, H1, I1, rx, a, dx, fs, ex, ea, l, q⟩ => ?_) ht
  subst ex
  obtain rfl : u = Value.ref a := rx
  refine getmeth_ok I1 ea c hm l ?_
  exact PySem.W.callWith_K0 (first := [.ref a]) I1.kIn hm.kp (run_fnS (us := [.ref a]) (vs := [.ref a]) F hr hb (hx σ) I1 (.cons rfl .nil) q)
end
/-- how many calls are left: none where it is refused -/
def goes (cs : List Call) (f : Str → Option Nat) (way : Int) (x : Str) : Option Nat := if way = 0 then (if cs.length = 0 then none else some (cs.length - 1)) else f x
def spWent (CL CW : Addr) : Sp := fun vs H Q _ => ∃ (A : LA) (h : Int) (cs : List Call) (f : Str → Option Nat) (th : List Str) (way : Int) (x : Str), vs = [.ref A.L, .int way, .str x] ∧ LineAt CL CW H A h cs f ∧ Hist th h cs ∧ MarksIn f cs.length ∧ (way ≠ 0 → x ∈ names3) ∧
  (goes cs f way x = none → ∀ H', Same H H' → Q .non H') ∧ ∀ n, goes cs f way x = some n → ∀ A' H', LineAt CL CW H' A' h (cs.take n) (keepM f n) → Stp A A' H H' → Q (.bl true) H' 
theorem ok_law_went (T : Txt K mg a) : Ok1 P w K mg base CX0 4 a.law_went ["_law_line", "_law_way", "_law_thing"] (spWent a.cLine a.cLineWork) := by
  obtain ⟨fd, F⟩ := T.f_law_went
  obtain ⟨fd_Line_undo, G_Line_undo, b_Line_undo, kp_Line_undo⟩ := ok_Line_undo (P := P) (w := w) (base := base) T
  obtain ⟨fd_Line_back_to, G_Line_back_to, b_Line_back_to, kp_Line_back_to⟩ := ok_Line_back_to (P := P) (w := w) (base := base) T
  refine ⟨fd, F.ok sc_law_went (fun vs H Q E h => ?_) (fun cdv A outer s H vs Q E hr h => ?_), F.binds (ps := ["_law_line", "_law_way", "_law_thing"]) fun _ _ _ _ _ _ us hl => match us, hl with | [_, _, _], _ => rfl, F.kp⟩
  · obtain ⟨A, h, cs, f, th, way, x, rfl, _⟩ := h
    rfl
  · skip
    refine ⟨_, (pss_cons (ps_set (i := 3) sc_law_went.nd rfl (Or.inl rfl) pe_bl)
      (pss_cons (ps_try_many rfl rfl takes_none5 (fun W pn xe tk _ => (pss_cons (ps_set (i := 4) sc_law_went.nd rfl (Or.inl rfl) (pe_ifExp (pt_cmpR op_eq (pv 1) pe_int (nomark _)) (pe_methS0 (pv 0) T.c_Line T.m_Line_undo G_Line_undo (hr.mono (by decide)) b_Line_undo (fun σ => passAt tk σ)) (pe_methS (pv 0) T.c_Line T.m_Line_back_to G_Line_back_to (hr.mono (by decide)) b_Line_back_to (fun σ => passAt tk σ) (pa_cons (pv 2) pa_nil))))
        (pss_one (ps_set (i := 3) sc_law_went.nd rfl (Or.inl rfl) (pe_cmp (pc_isN (pv 4)) rfl)))))
        (.cons (c := .ref a.cNoMark) ⟨rfl, by decide, .inl T.g_NM⟩ (fun b oe cls d pn _ _ => (pss_one (ps_set (i := 3) sc_law_went.nd rfl (Or.inl rfl) pe_non)))
        (.cons (c := .ref a.cNothingToUndo) ⟨rfl, by decide, .inl T.g_NTU⟩ (fun b oe cls d pn _ _ => (pss_one (ps_set (i := 3) sc_law_went.nd rfl (Or.inl rfl) pe_non))) .nil)))
      (pss_one (ps_ret (pv 3))))), ?_⟩
    obtain ⟨A, h, cs, f, th, way, x, rfl, l, hi, mi, hx, kN, kY⟩ := h
    obtain ⟨dx, hL⟩ := l.ob
    refine ⟨_, rfl, rfl, _, rfl, ite_or (fun hw => ?_) (fun hw => ?_)⟩
    · have hw : way = 0 := by have := of_decide_eq_true hw; injection this
      subst hw
      refine ⟨_, rfl, A.L, dx, _, rfl, hL, lfl_m_undo, A, h, cs, f, th, rfl, l, hi, fun he H' s => ?_, fun cs' c e => ⟨fun A' H' l' st => ?_⟩⟩
      · refine ⟨false, T.e_2, (fun z => nomatch z), fun _ => ⟨true, T.e_3, fun _ b nb => ?_, fun z => nomatch z⟩⟩
        refine ⟨_, rfl, kN ?_ H' s⟩
        unfold goes
        rw [if_pos rfl, he]
        rfl
      · refine ⟨_, rfl, _, rfl, kY cs'.length ?_ A' H' ?_ st⟩
        · unfold goes
          rw [if_pos rfl, e, List.length_append, List.length_singleton, if_neg (by omega)]
          rfl
        · rw [e, List.take_left']
          · exact l'
          · rfl
    · have hw : way ≠ 0 := fun z => by
        rw [z] at hw
        exact absurd hw (by decide)
      refine ⟨_, rfl, A.L, dx, _, rfl, hL, lfl_m_back_to, _, rfl, A, h, cs, f, th, x, rfl, hx hw, l, hi, mi, fun hf d H' s => ?_, fun n hf A' H' l' st => ?_⟩
      · refine ⟨true, T.e_1, fun _ b nb => ?_, fun z => nomatch z⟩
        refine ⟨_, rfl, kN ?_ H' s⟩
        unfold goes
        rw [if_neg hw]
        exact hf
      · refine ⟨_, rfl, _, rfl, kY n ?_ A' H' l' st⟩
        unfold goes
        rw [if_neg hw]
        exact hf
end
end K76
set_option maxRecDepth 100000
set_option maxHeartbeats 4000000
namespace K76
open PySem L2
section
variable {P : Program} {w : World} {K : PySem.W.Frag} {mg : Str → Option Value} {base : Heap} {a : Ad}

/-! ## kept -/
theorem lkM_mem {ms : List (Str × Nat)} {p : Str × Nat} : (ms.map (·.1)).Nodup → p ∈ ms → lkM ms p.1 = some p.2 := by
  induction ms with
  | nil => intro _ h; cases h
  | cons q r ih =>
    intro h hp
    obtain ⟨h1, h2⟩ := List.nodup_cons.mp (show (q.1 :: r.map (·.1)).Nodup from h)
    unfold lkM
    by_cases e : q.1 = p.1
    · rw [List.find?_cons_of_pos (by simpa using e)]
      rcases List.mem_cons.mp hp with rfl | hp
      · rfl
      · exact absurd (show q.1 ∈ r.map (·.1) from e ▸ List.mem_map.mpr ⟨p, hp, rfl⟩) h1
    · rw [List.find?_cons_of_neg (by simpa using e)]
      rcases List.mem_cons.mp hp with rfl | hp
      · exact absurd rfl e
      · exact ih h2 hp
theorem lkM_none {ms : List (Str × Nat)} {x : Str} (h : x ∉ ms.map (·.1)) : lkM ms x = none := by
  unfold lkM
  rw [Option.map_eq_none_iff, List.find?_eq_none]
  intro q hq e
  exact h (List.mem_map.mpr ⟨q, hq, by simpa using e⟩)
/-- a mark's key is not among the earlier ones -/
theorem nd_take {ms : List (Str × Nat)} (h : (ms.map (·.1)).Nodup) {i : Nat} {p : Str × Nat} (hp : ms[i]? = some p) : p.1 ∉ (ms.take i).map (·.1) := by
  intro hm
  have hi : i < ms.length := by
    by_cases c : i < ms.length
    · exact c
    · rw [List.getElem?_eq_none (by omega)] at hp; cases hp
  have sp : ms = ms.take i ++ p :: ms.drop (i + 1) := by
    have h2 : ms.drop i = p :: ms.drop (i + 1) := by
      rw [List.drop_eq_getElem_cons hi]
      congr 1
      rw [List.getElem?_eq_getElem hi] at hp
      exact Option.some.inj hp
    rw [← h2, List.take_append_drop]
  rw [sp, List.map_append, List.nodup_append] at h
  exact h.2.2 _ hm _ (List.mem_map.mpr ⟨p, List.mem_cons_self, rfl⟩) rfl
def spKept : Sp := fun vs H Q _ => ∃ (m : Addr) (n : Nat) (f : Str → Option Nat), vs = [.ref m, .int (n : Int)] ∧ MarksAt H m f ∧ ∀ o H', H o = none → MarksAt H' o (keepM f n) → Same H H' → Q (.ref o) H' 
theorem ok_law_kept (T : Txt K mg a) : Ok1 P w K mg base CX0 1 a.law_kept ["_law_marks", "_law_many"] (spKept) := by
  obtain ⟨fd, F⟩ := T.f_law_kept
  refine ⟨fd, F.ok sc_law_kept (fun vs H Q E h => ?_) (fun cdv A outer s H vs Q E hr h => ?_), F.binds (ps := ["_law_marks", "_law_many"]) fun _ _ _ _ _ _ us hl => match us, hl with | [_, _], _ => rfl, F.kp⟩
  · obtain ⟨m, n, f, rfl, _⟩ := h
    rfl
  · have hu := hu_of hr
    refine ⟨_, (pss_cons (ps_set (i := 2) sc_law_kept.nd rfl (Or.inl rfl) pe_dnewK)
      (pss_cons (ps_lock (ps_for PassesOwn.never rfl (pi_keys (pv 0)) (pg_name (i := 3) sc_law_kept.nd rfl (Or.inl rfl)) (pss_one (ps_if (pt_cmpR op_le (pe_dget hu (pv 0) (pv 3) (fun _ _ => rfl)) (pv 1) (nomark _)) (pss_one (ps_asg (pe_dget hu (pv 0) (pv 3) (fun _ _ => rfl)) (pg_sub (pv 2) (pv 3) (set_dict hu)))) pss_nil))))
      (pss_one (ps_ret (pv 2))))), ?_⟩
    obtain ⟨m, n, f, rfl, mk, k⟩ := h
    obtain ⟨ms, hm, nd, ks, lk⟩ := mk
    have few := few_names nd ks
    intro D nD
    have mD : m ≠ D := ne_of_none hm nD
    refine ⟨m, .dK (kvM ms), (by rw [upd_ne mD]; exact hm), True.intro, fun od => ?_⟩
    refine ⟨_, rfl, m, od, rfl, .inl ⟨kvM ms, upd_same, ?_⟩⟩
    refine for_it ms.length (fun i σ H' => ∃ v, σ = [some (.ref m), some (.int (n : Int)), some (.ref D), v] ∧ H' D = some (.dK (kvM ((ms.take i).filter fun p => decide (p.2 ≤ n)))) ∧ Same (upd H m (.frz od (.dK (kvM ms)))) H')
      ⟨none, rfl, by rw [upd_ne mD.symm, upd_same]; rfl, fun b o e => by
        by_cases hb : b = m
        · rw [hb] at e ⊢
          rw [upd_same] at e ⊢
          exact e
        · rw [upd_ne hb] at e ⊢
          rw [upd_ne (ne_of_none e nD)]
          exact e⟩ ?go ?stop ?turn ?done
    case go =>
      rintro i σ H' hi ⟨v, rfl, e, sm⟩
      exact ⟨sm _ _ upd_same, by rw [kvM_length]; exact hi⟩
    case stop =>
      rintro σ H' ⟨v, rfl, e, sm⟩
      exact ⟨sm _ _ upd_same, by rw [kvM_length]; exact Nat.le_refl _⟩
    case turn =>
      rintro i σ H1 y H2 hi ⟨v, rfl, e, sm⟩ ⟨rfl, k1, v1, he, rfl⟩
      obtain ⟨q, hq⟩ : ∃ q, ms[i]? = some q := ⟨ms[i], by simp [hi]⟩
      have he' : (Sum.inr q.1, V.int (q.2 : Int)) = (k1, v1) := by
        unfold kvM at he
        rw [List.getElem?_map, hq] at he
        exact Option.some.inj he
      cases he'
      have hmem := List.mem_of_getElem? hq
      have val : some (V.int (q.2 : Int)) = valV (kvM ms) (Sum.inr q.1 : Key) := by
        rw [valV_kvM, lkM_mem nd hmem]
        rfl
      have dg : DGet H2 m (.str q.1) (some (.int (q.2 : Int))) := .inl ⟨kvM ms, Sum.inr q.1, .inr ⟨od, sm _ _ upd_same⟩, rfl, val⟩
      have tk := take_snoc hq
      refine ⟨_, rfl, _, rfl, m, _, rfl, dg, _, rfl, _, _, rfl, rfl, _, rfl, ite_or (fun c => ?_) (fun c => ?_)⟩
      · have c : q.2 ≤ n := by have := of_decide_eq_true c; omega
        refine ⟨_, rfl, _, rfl, m, _, rfl, dg, _, rfl, _, rfl, D, _, rfl, DPut.k (k := Sum.inr q.1) e ?_, ?_⟩
        · rw [kvM_length]
          have h1 : ((ms.take i).filter fun p => decide (p.2 ≤ n)).length ≤ (ms.take i).length := List.length_filter_le _ _
          rw [List.length_take] at h1
          exact small1000 (by omega)
        · refine ⟨_, rfl, ?_, fun b o z => ?_⟩
          · rw [upd_same, putK_new, tk, List.filter_append, List.filter_cons_of_pos (by simpa using c)]
            · unfold kvM
              rw [List.map_append]
              rfl
            · rw [valV_kvM, lkM_none]
              · rfl
              · intro hm2
                obtain ⟨p, hp, e2⟩ := List.mem_map.mp hm2
                exact nd_take nd hq (List.mem_map.mpr ⟨p, (List.mem_filter.mp hp).1, e2⟩)
          · by_cases hb : b = D
            · rw [hb, upd_ne mD.symm] at z
              rw [nD] at z
              cases z
            · rw [upd_ne hb]
              exact sm _ _ z
      · have c : ¬ q.2 ≤ n := fun z => by
          have := of_decide_eq_false c
          omega
        refine ⟨_, rfl, ?_, sm⟩
        rw [tk, List.filter_append, List.filter_cons_of_neg (by simpa using c)]
        simpa using e
    case done =>
      rintro σ H1 ⟨v, rfl, e, sm⟩
      rw [List.take_length] at e
      refine ⟨sm _ _ upd_same, _, rfl, k D _ nD ?_ fun b o z => ?_⟩
      · refine ⟨ms.filter fun p => decide (p.2 ≤ n), by rw [upd_ne mD.symm]; exact e, (List.filter_sublist.map _).nodup nd, fun p hp => ks p ((List.mem_filter.mp hp).1), fun x => ?_⟩
        rw [lkM_filter n x nd]
        unfold keepM
        rw [lk]
      · by_cases hb : b = m
        · rw [hb, upd_same, ← z, hb]
          exact hm.symm
        · rw [upd_ne hb]
          exact sm _ _ (by rw [upd_ne hb]; exact z)
end
end K76
set_option maxRecDepth 100000
set_option maxHeartbeats 4000000
namespace K76
open PySem L2
section
variable {P : Program} {w : World} {K : PySem.W.Frag} {mg : Str → Option Value} {base : Heap} {a : Ad}

/-! ## a new line: the same calls again -/
/-- a call and what it told, as the law keeps them -/
structure PairAt (N : Addr → Prop) (H : Hp) (p : Addr) (c : Call) (vs : List V) : Prop where
  ob : ∃ t o, H p = some (.tup [.ref t, .ref o]) ∧ CallAt N H t c ∧ N o ∧ H o = some (.lst vs)
structure HistAt (N : Addr → Prop) (H : Hp) (l : Addr) (h : Int) (cs : List Call) : Prop where
  ob : ∃ ps : List Addr, N l ∧ H l = some (.lst (ps.map V.ref)) ∧ ps.length = cs.length ∧ ∀ (i : Nat) p c, ps[i]? = some p → cs[i]? = some c → PairAt N H p c (toldOf h (cs.take i) c)
theorem PairAt.keep {N N' : Addr → Prop} {H H' : Hp} {p : Addr} {c : Call} {vs : List V} (x : PairAt N H p c vs) (hN : ∀ a, N a → N' a) (hl : ∀ a xs, N a → H a = some (.lst xs) → H' a = some (.lst xs)) {F : List Addr} (b : But F H H') : PairAt N' H' p c vs := by
  obtain ⟨t, o, e, ct, n, eo⟩ := x.ob
  exact ⟨t, o, b.tup e, ct.keep hN hl b, hN _ n, hl _ _ n eo⟩
theorem HistAt.keep {N N' : Addr → Prop} {H H' : Hp} {l : Addr} {h : Int} {cs : List Call} (x : HistAt N H l h cs) (hN : ∀ a, N a → N' a) (hl : ∀ a xs, N a → H a = some (.lst xs) → H' a = some (.lst xs)) {F : List Addr} (b : But F H H') : HistAt N' H' l h cs := by
  obtain ⟨ps, n, e, len, ob⟩ := x.ob
  exact ⟨ps, hN _ n, hl _ _ n e, len, fun i p c h1 h2 => (ob i p c h1 h2).keep hN hl b⟩
/-- the marks that are there ahead of turn i -/
def gm (f : Str → Option Nat) : Nat → Str → Option Nat
  | 0 => fun _ => none
  | k + 1 => keepM f k
/-- the marks of a row of names, set one by one -/
def ins (k : Nat) (g : Str → Option Nat) (l : List (Str × Nat)) : Str → Option Nat := l.foldl (fun g p => if p.2 = k then putM g p.1 k else g) g
theorem ins_snoc (k : Nat) (g : Str → Option Nat) (l : List (Str × Nat)) (p : Str × Nat) : ins k g (l ++ [p]) = if p.2 = k then putM (ins k g l) p.1 k else ins k g l := by
  unfold ins
  rw [List.foldl_append]
  rfl
theorem ins_at (k : Nat) (x : Str) : ∀ (l : List (Str × Nat)) (g : Str → Option Nat), (l.map (·.1)).Nodup → ins k g l x = if lkM l x = some k then some k else g x
  | [], g, _ => by
    unfold lkM
    rfl
  | p :: r, g, h => by
    obtain ⟨h1, h2⟩ := List.nodup_cons.mp (show (p.1 :: r.map (·.1)).Nodup from h)
    show ins k (if p.2 = k then putM g p.1 k else g) r x = _
    rw [ins_at k x r _ h2]
    have lk1 : p.1 = x → lkM (p :: r) x = some p.2 := fun e => by unfold lkM; rw [List.find?_cons_of_pos (by simpa using e)]; rfl
    have lk2 : ¬ p.1 = x → lkM (p :: r) x = lkM r x := fun e => by unfold lkM; rw [List.find?_cons_of_neg (by simpa using e)]
    by_cases e : p.1 = x
    · have n0 : lkM r x = none := lkM_none (by rw [← e]; exact h1)
      rw [lk1 e, n0, if_neg (by intro z; cases z)]
      by_cases c : p.2 = k
      · rw [if_pos c, if_pos (by rw [c])]
        unfold putM
        rw [if_pos e.symm]
      · rw [if_neg c, if_neg (fun z => c (Option.some.inj z))]
    · rw [lk2 e]
      by_cases c : p.2 = k
      · rw [if_pos c]
        have : putM g p.1 k x = g x := by
          unfold putM
          rw [if_neg (fun z => e z.symm)]
        rw [this]
      · rw [if_neg c]
theorem ins_gm {ms : List (Str × Nat)} {f : Str → Option Nat} (nd : (ms.map (·.1)).Nodup) (lk : ∀ x, lkM ms x = f x) (k : Nat) : ins k (gm f k) ms = gm f (k + 1) := by
  funext x
  rw [ins_at k x ms _ nd, lk]
  show _ = keepM f k x
  cases e : f x with
  | none =>
    rw [keepM_none e, if_neg (by intro z; cases z)]
    cases k with
    | zero => rfl
    | succ k => exact keepM_none e
  | some j =>
    rw [keepM_some e]
    by_cases c : j = k
    · rw [c, if_pos rfl, if_pos (Nat.le_refl _)]
    · rw [if_neg (fun z => c (Option.some.inj z))]
      cases k with
      | zero => rw [if_neg (by omega)]; rfl
      | succ k =>
        show keepM f k x = _
        rw [keepM_some e]
        by_cases d : j ≤ k
        · rw [if_pos d, if_pos (by omega)]
        · rw [if_neg d, if_neg (by omega)]
theorem Same.step {F : List Addr} {H H1 H2 : Hp} (s : Same H H1) (b : But F H1 H2) (h : ∀ a ∈ F, H a = none) : Same H H2 := fun a o e => b.at (fun z => by rw [h a z] at e; cases e) (s _ _ e)
/-- a dict that is not the line's is locked, unlocked -/
theorem LineAt.lock {CL CW : Addr} {H : Hp} {A : LA} {h : Int} {cs : List Call} {f : Str → Option Nat} {m : Addr} {o u : HO} (x : LineAt CL CW H A h cs f) (n : m ∉ A.fp) (e : H m = some u) (ht : ∀ xs, u ≠ .tup xs) : LineAt CL CW (upd H m o) A h cs f :=
  x.keep (fun b hb o' e' => by rw [upd_ne (fun z : b = m => n (z ▸ hb))]; exact e') fun b xs e' => by
    rw [upd_ne (fun z => ht xs (by rw [z, e] at e'; exact Option.some.inj e'))]
    exact e'
theorem toldOf_len (h : Int) (cs : List Call) (c : Call) : (toldOf h cs c).length = c.ds.length := runDs_len _ _
def spNew (CL CW : Addr) : Sp := fun vs H Q _ => ∃ (l m : Addr) (h : Int) (cs : List Call) (f : Str → Option Nat) (th : List Str), vs = [.int h, .ref l, .ref m] ∧ HistAt (fun b => H b ≠ none) H l h cs ∧ MarksAt H m f ∧ MarksIn f cs.length ∧ Hist th h cs ∧
  ∀ A H', LineAt CL CW H' A h cs f → Same H H' → (∀ b ∈ A.fp, H b = none) → Q (.ref A.L) H' 
theorem ok_law_new_line (T : Txt K mg a) : Ok1 P w K mg base CX0 8 a.law_new_line ["_law_size", "_law_calls", "_law_marks"] (spNew a.cLine a.cLineWork) := by
  obtain ⟨fd, F⟩ := T.f_law_new_line
  obtain ⟨fd_Line_init, G_Line_init, b_Line_init, kp_Line_init⟩ := ok_Line_init (P := P) (w := w) (base := base) T
  obtain ⟨fd_Line_mark, G_Line_mark, b_Line_mark, kp_Line_mark⟩ := ok_Line_mark (P := P) (w := w) (base := base) T
  obtain ⟨fd_law_made, G_law_made, b_law_made, kp_law_made⟩ := ok_law_made (P := P) (w := w) (base := base) T
  obtain ⟨fd_law_same, G_law_same, b_law_same, kp_law_same⟩ := ok_law_same (P := P) (w := w) (base := base) T 4
  refine ⟨fd, F.ok sc_law_new_line (fun vs H Q E h => ?_) (fun cdv A outer s H vs Q E hr h => ?_), F.binds (ps := ["_law_size", "_law_calls", "_law_marks"]) fun _ _ _ _ _ _ us hl => match us, hl with | [_, _, _], _ => rfl, F.kp⟩
  · obtain ⟨l, m, h, cs, f, th, rfl, _⟩ := h
    rfl
  · have hu := hu_of hr
    refine ⟨_, (pss_cons (ps_set (i := 3) sc_law_new_line.nd rfl (Or.inl rfl) (pe_make T.k_Line G_Line_init (hr.mono (by decide)) rfl T.g_Line b_Line_init .nil pass0 (pa_cons (pv 0) pa_nil)))
      (pss_cons (ps_for PassesOwn.never rfl (pi_range1 (by rfl) T.b_range (pa_cons (pe_op op_add (pe_callB call_len_seq (by rfl) T.b_len (by decide +kernel) (pa_cons (pv 1) pa_nil)) pe_int) pa_nil)) (pg_name (i := 4) sc_law_new_line.nd rfl (Or.inl rfl)) (pss_cons (ps_lock (ps_for PassesOwn.never rfl (pi_keys (pv 2)) (pg_name (i := 5) sc_law_new_line.nd rfl (Or.inl rfl)) (pss_one (ps_if (pt_cmpR op_eq (pe_dget hu (pv 2) (pv 5) (fun _ _ => rfl)) (pv 4) (nomark _)) (pss_one (ps_expr (pe_meth (pv 3) T.c_Line T.m_Line_mark G_Line_mark (hr.mono (by decide)) b_Line_mark .nil pass0 (pa_cons (pv 5) pa_nil)))) pss_nil))))
      (pss_one (ps_if (PW.pt (pw_and (pt_cmpR op_lt (pv 4) (pe_callB call_len_seq (by rfl) T.b_len (by decide +kernel) (pa_cons (pv 1) pa_nil)) (nomark _)) (pw_and1 (pt_not (pt_val (pe_call G_law_same (hr.mono (by decide)) rfl T.g_law_same kp_law_same b_law_same .nil pass0 (pa_cons (pe_call G_law_made (hr.mono (by decide)) rfl T.g_law_made kp_law_made b_law_made .nil pass0 (pa_cons (pv 3) (pa_cons (pe_ix ix_tup (pe_ix ix_list (pv 1) (pv 4) (fun _ _ => rfl)) pe_int (fun _ _ => rfl)) pa_nil))) (pa_cons (pe_ix ix_tup (pe_ix ix_list (pv 1) (pv 4) (fun _ _ => rfl)) pe_int (fun _ _ => rfl)) pa_nil)))))))) (pss_one (ps_ret pe_non)) pss_nil))))
      (pss_one (ps_ret (pv 3))))), ?_⟩
    obtain ⟨l, m, h, cs, f, th, rfl, hs, mk, mi, hi, k⟩ := h
    obtain ⟨ms, hm, nd, ks, lk⟩ := mk
    have few := few_names nd ks
    obtain ⟨ps, nl, hl, plen, pair⟩ := hs.ob
    have most := hi.most
    refine ⟨_, rfl, fun L dx nL nd' ne => ⟨L, dx, h, rfl, upd_same, hi.h1, hi.h2, fun A H0 eL x0 b0 fr0 => ⟨rfl, ?_⟩⟩⟩
    subst eL
    have nN : ∀ {b : Addr}, (upd (upd H dx (.own A.L)) A.L (.ins a.cLine dx [])) b = none → H b = none := fun {b} z => by
      cases q : H b with
      | none => rfl
      | some o =>
        rw [upd_ne (ne_of_none q nL), upd_ne (ne_of_none q nd'), q] at z
        cases z
    have s0 : Same H H0 := Same.step (F := [A.L]) (fun b o e => by rw [upd_ne (ne_of_none e nL), upd_ne (ne_of_none e nd')]; exact e) b0 (by intro z hz; rw [List.mem_singleton.mp hz]; exact nL)
    have fr : ∀ b ∈ A.fp, H b = none := fun b hb => by
      rcases fr0 b hb with z | z
      · rw [z]; exact nL
      · exact nN z
    have plen' : (ps.map V.ref).length = cs.length := by rw [List.length_map, plen]
    refine ⟨_, rfl, l, _, rfl, .inl (SqL.of (s0 _ _ hl)), _, _, rfl, rfl, _, rfl, (by rw [plen']; omega), (by rw [plen']; omega), ?_⟩
    rw [plen']
    refine for_range (lo := 0) (n := ((cs.length : Int) + 1).toNat) (fun i σ H' => ∃ (A' : LA) (v1 v2 : Option V), A'.L = A.L ∧ σ = [some (.int h), some (.ref l), some (.ref m), some (.ref A.L), v1, v2] ∧ LineAt a.cLine a.cLineWork H' A' h (cs.take i) (gm f i) ∧ Same H H' ∧ ∀ b ∈ A'.fp, H b = none)
      ⟨A, none, none, rfl, rfl, x0, s0, fr⟩ ?_ ?_
    · rintro i σ H1 hi1 ⟨B, v1, v2, eB, rfl, x, sm, fr⟩
      have hi1 : i ≤ cs.length := by omega
      have lt : (cs.take i).length = i := by rw [List.length_take]; omega
      have mB : m ∉ B.fp := fun z => by
        rw [fr m z] at hm
        cases hm
      refine ⟨m, .dK (kvM ms), sm _ _ hm, True.intro, fun od => ?_⟩
      refine ⟨_, rfl, m, od, rfl, .inl ⟨kvM ms, upd_same, ?_⟩⟩
      refine for_it ms.length (fun j σ H' => ∃ v2 : Option V, σ = [some (.int h), some (.ref l), some (.ref m), some (.ref A.L), some (.int (0 + (i : Int))), v2] ∧ LineAt a.cLine a.cLineWork H' B h (cs.take i) (ins i (gm f i) (ms.take j)) ∧ But B.fp (upd H1 m (.frz od (.dK (kvM ms)))) H')
        ⟨v2, rfl, x.lock mB (sm _ _ hm) (fun xs z => by cases z), But.refl⟩ ?go ?stop ?turn ?done
      case go =>
        rintro j σ H' hj ⟨v, rfl, y, bt⟩
        exact ⟨bt.at mB upd_same, by rw [kvM_length]; exact hj⟩
      case stop =>
        rintro σ H' ⟨v, rfl, y, bt⟩
        exact ⟨bt.at mB upd_same, by rw [kvM_length]; exact Nat.le_refl _⟩
      case turn =>
        rintro j σ H2 z H3 hj ⟨v, rfl, y, bt⟩ ⟨rfl, k1, u1, he, rfl⟩
        obtain ⟨q, hq⟩ : ∃ q, ms[j]? = some q := ⟨ms[j], by simp [hj]⟩
        have he' : (Sum.inr q.1, V.int (q.2 : Int)) = (k1, u1) := by
          unfold kvM at he
          rw [List.getElem?_map, hq] at he
          exact Option.some.inj he
        cases he'
        have hmem := List.mem_of_getElem? hq
        have val : some (V.int (q.2 : Int)) = valV (kvM ms) (Sum.inr q.1 : Key) := by
          rw [valV_kvM, lkM_mem nd hmem]
          rfl
        have dg : DGet H3 m (.str q.1) (some (.int (q.2 : Int))) := .inl ⟨kvM ms, Sum.inr q.1, .inr ⟨od, bt.at mB upd_same⟩, rfl, val⟩
        have tk := take_snoc hq
        refine ⟨_, rfl, _, rfl, m, _, rfl, dg, _, rfl, rfl, _, rfl, ite_or (fun c => ?_) (fun c => ?_)⟩
        · have c : q.2 = i := by
            have := of_decide_eq_true c
            injection this with this
            omega
          obtain ⟨dy, hL⟩ := y.ob
          rw [eB] at hL
          refine ⟨_, rfl, A.L, dy, _, rfl, hL, lfl_m_mark, _, rfl, B, h, cs.take i, _, q.1, (by rw [eB]; rfl), ks q hmem, y, fun H4 y4 st => ?_⟩
          refine ⟨_, rfl, ?_, bt.trans st.but fun w hw => .inl hw⟩
          rw [tk, ins_snoc, if_pos c]
          rw [lt] at y4
          exact y4
        · have c : ¬ q.2 = i := fun z => by
            rw [z, Int.zero_add] at c
            exact absurd c (by simp)
          refine ⟨_, rfl, ?_, bt⟩
          rw [tk, ins_snoc, if_neg c]
          exact y
      case done =>
        rintro σ H2 ⟨v, rfl, y, bt⟩
        rw [List.take_length, ins_gm nd lk] at y
        refine ⟨bt.at mB upd_same, ?_⟩
        have y2 := y.lock (o := .dK (kvM ms)) mB (bt.at mB upd_same) (fun xs z => by cases z)
        have s2 : Same H (upd H2 m (.dK (kvM ms))) := fun b o z => by
          by_cases hb : b = m
          · rw [hb, upd_same, ← z, hb]
            exact hm.symm
          · rw [upd_ne hb]
            exact bt.at (fun w => by rw [fr b w] at z; cases z) (by rw [upd_ne hb]; exact sm _ _ z)
        generalize (upd H2 m (.dK (kvM ms))) = H3 at y2 s2 ⊢
        refine ⟨_, rfl, _, rfl, l, _, rfl, .inl (SqL.of (s2 _ _ hl)), _, _, rfl, rfl, _, rfl, ite_or (fun c => ?_) (fun c => ?_)⟩
        · have c : i < cs.length := by
            have := of_decide_eq_true c
            rw [plen'] at this
            omega
          obtain ⟨cl, hcl⟩ : ∃ c, cs[i]? = some c := ⟨cs[i], by simp [c]⟩
          obtain ⟨p, hp⟩ : ∃ p, ps[i]? = some p := ⟨ps[i]'(by omega), by simp [show i < ps.length by omega]⟩
          have pr2 : PairAt (fun b => H b ≠ none) H3 p cl (toldOf h (cs.take i) cl) := (pair i p cl hp hcl).keep (fun _ z => z) (fun b xs _ e => s2 _ _ e) (But.same (F := []) s2)
          obtain ⟨t, o, ep, ct, no, eo⟩ := pr2.ob
          have hat : atI (ps.map V.ref) (0 + (i : Int)) = some (V.ref p) := by
            rw [Int.zero_add]
            exact atI_nat (by rw [List.getElem?_map, hp]; rfl)
          refine ⟨_, rfl, _, rfl, _, rfl, l, _, _, _, rfl, rfl, SqL.of (s2 _ _ hl), hat, p, _, _, _, rfl, rfl, SqT.of ep, rfl, ?_⟩
          refine ⟨B, h, cs.take i, gm f (i + 1), th, t, cl, fun b => H b ≠ none, (by rw [eB]; rfl), y2, hi.take i, ct, (fun b hb z => hb (fr b z)), hi.calls cl (List.mem_of_getElem? hcl), fun B' H4 o2 y4 st eo2 _ _ => ?_⟩
          have s4 : Same H H4 := Same.step s2 st.but fr
          have fr4 : ∀ b ∈ B'.fp, H b = none := fun b hb => by
            rcases st.fresh b hb with z | z
            · exact fr b z
            · cases q : H b with
              | none => rfl
              | some u => rw [s2 _ _ q] at z; cases z
          have eo4 : H4 o = some (.lst (toldOf h (cs.take i) cl)) := st.but.at (fun z => no (fr o z)) eo
          refine ⟨_, rfl, _, rfl, l, _, _, _, rfl, rfl, SqL.of (s4 _ _ hl), hat, p, _, _, _, rfl, rfl, SqT.of (st.but.tup ep), rfl, ?_⟩
          have flat : ∀ v ∈ toldOf h (cs.take i) cl, flatV v = true := runDs_flat _ _
          have five := (hi.calls cl (List.mem_of_getElem? hcl)).2.1
          refine ⟨_, _, toldT (toldOf h (cs.take i) cl), fun _ => True, fun _ => True, rfl, told_rep flat True.intro eo2, told_rep flat True.intro eo4, told_wd (by rw [toldOf_len]; exact five), fun H5 s5 => ?_⟩
          refine ⟨true, rfl, iteF ⟨B', _, _, st.L.trans eB, rfl, ?_, fun b u z => s5 _ _ (s4 _ _ z), fr4⟩⟩
          rw [take_snoc hcl]
          exact y4.same s5
        · have c : i = cs.length := by
            have := of_decide_eq_false c
            rw [plen'] at this
            omega
          refine iteF ⟨B, _, _, eB, rfl, ?_, s2, fr⟩
          rw [List.take_of_length_le (by omega)]
          rw [List.take_of_length_le (by omega)] at y2
          exact y2
    · rintro σ H1 ⟨B, v1, v2, eB, rfl, x, sm, fr⟩
      refine ⟨_, rfl, ?_⟩
      rw [← eB]
      refine k B H1 ?_ sm fr
      have e1 : ((cs.length : Int) + 1).toNat = cs.length + 1 := by omega
      rw [e1, List.take_of_length_le (by omega)] at x
      have e2 : gm f (cs.length + 1) = f := keepM_all mi
      rw [e2] at x
      exact x
end
end K76
set_option maxRecDepth 100000
set_option maxHeartbeats 4000000
namespace K76
open PySem L2
section
variable {P : Program} {w : World} {K : PySem.W.Frag} {mg : Str → Option Value} {base : Heap} {a : Ad}

/-! ## alike -/
section
open PySem.Spec PyProof.Rows
/-- is, of None or a truth value and a truth value -/
theorem op_isNB {X : Cx} : OpR X (compareOp .Is) (fun x y H Q => ∃ b : Bool, y = .bl b ∧ ((x = .non ∧ Q (.bl false) H) ∨ ∃ a : Bool, x = .bl a ∧ Q (.bl (decide (a = b))) H)) := by
  intro pins s σ H x y v u Q I rx ry h
  obtain ⟨b, rfl, ⟨rfl, q⟩ | ⟨a, rfl, q⟩⟩ := h
  · cases (show v = Value.none from rx)
    cases (show u = Value.bool b from ry)
    exact wpAny_is_other rfl (fun z => nomatch z) ⟨.bl false, H, I, rfl, q⟩
  · exact op_isBl pins s σ H _ _ v u Q I rx ry ⟨a, b, rfl, rfl, q⟩
end
theorem LineAt.other {CL CW : Addr} {H H' : Hp} {A A' B : LA} {h : Int} {cs : List Call} {f : Str → Option Nat} (x : LineAt CL CW H B h cs f) (st : Stp A A' H H') (d : ∀ b ∈ A.fp, b ∉ B.fp) : LineAt CL CW H' B h cs f ∧ ∀ b ∈ A'.fp, b ∉ B.fp := by
  refine ⟨x.but st.but fun b hb hA => d b hA hb, fun b hb hB => ?_⟩
  rcases st.fresh b hb with z | z
  · exact d b z hB
  · obtain ⟨o, e, _⟩ := x.noTup b hB
    rw [z] at e
    cases e
theorem WellAt.other {H H' : Hp} {A A' : LA} {p : Addr} {c : Nat} (w : WellAt H p c) (st : Stp A A' H H') (n : p ∉ A.fp) : WellAt H' p c ∧ p ∉ A'.fp := by
  refine ⟨w.at fun o e => st.but.at n e, fun hb => ?_⟩
  rcases st.fresh p hb with z | z
  · exact n z
  · obtain ⟨_, _, _, e, _⟩ := w
    rw [z] at e
    cases e
theorem standT_wd {th : List Str} {h : Int} {cs : List Call} (hi : Hist th h cs) : Wd (standT h cs) := by
  refine .ls (by show 7 < 1000; decide) fun t ht => ?_
  simp only [List.mem_cons, List.not_mem_nil, or_false] at ht
  rcases ht with rfl | rfl | rfl | rfl | rfl | rfl | rfl
  · refine .ls ?_ fun t ht => ?_
    · rw [List.length_map]
      unfold sortP
      rw [List.length_mergeSort, List.length_map]
      have := hi.good.size
      omega
    · obtain ⟨y, _, rfl⟩ := List.mem_map.mp ht
      refine .tp (by show 2 < 1000; decide) fun t ht => ?_
      simp only [List.mem_cons, List.not_mem_nil, or_false] at ht
      rcases ht with rfl | rfl <;> exact .lf
  all_goals exact .lf
theorem draw3 {r : Int} (h0 : 0 ≤ r) (h1 : r < 3) : ∃ x : Str, atI [V.str "here", V.str "there", V.str "b"] r = some (V.str x) ∧ x ∈ names3 := by
  obtain ⟨x, hx, hm⟩ := atI_of (xs := names3.map V.str) (r := r) h0 (by show r < 3; exact h1)
  obtain ⟨y, hy, rfl⟩ := List.mem_map.mp hm
  exact ⟨y, hx, hy⟩
/-- behind a step that goes -/
theorem goes_le {cs : List Call} {f : Str → Option Nat} {way : Int} {x : Str} {n : Nat} (mi : MarksIn f cs.length) (h : goes cs f way x = some n) : n ≤ cs.length ∧ (way = 0 → n + 1 ≤ cs.length) := by
  unfold goes at h
  by_cases c : way = 0
  · rw [if_pos c] at h
    by_cases d : cs.length = 0
    · rw [if_pos d] at h
      cases h
    · rw [if_neg d] at h
      cases h
      omega
  · rw [if_neg c] at h
    exact ⟨mi x n h, fun z => absurd z c⟩
theorem odd_step {n i a c : Nat} (h1 : n ≤ a) (h2 : a + (i + 1) / 2 ≤ c) (h3 : i % 2 = 1) : n + (i + 1 + 1) / 2 ≤ c := by omega
def spAlike (CL CW : Addr) : Sp := fun vs H Q _ => ∃ (A B : LA) (p : Addr) (c : Nat) (h : Int) (cs : List Call) (f : Str → Option Nat) (th : List Str), vs = [.ref p, .ref A.L, .ref B.L] ∧ LineAt CL CW H A h cs f ∧ LineAt CL CW H B h cs f ∧ (∀ b ∈ A.fp, b ∉ B.fp) ∧ p ∉ A.fp ∧ p ∉ B.fp ∧
  WellAt H p c ∧ c ≤ 900000 ∧ Hist th h cs ∧ MarksIn f cs.length ∧ cs.length ≤ 99 ∧ ∀ H', Q (.bl true) H' 
theorem ok_law_alike (T : Txt K mg a) : Ok1 P w K mg base CX0 8 a.law_alike ["_law_well_here", "_law_one", "_law_other"] (spAlike a.cLine a.cLineWork) := by
  obtain ⟨fd, F⟩ := T.f_law_alike
  obtain ⟨fd_law_stand, G_law_stand, b_law_stand, kp_law_stand⟩ := ok_law_stand (P := P) (w := w) (base := base) T
  obtain ⟨fd_law_draw, G_law_draw, b_law_draw, kp_law_draw⟩ := ok_law_draw (P := P) (w := w) (base := base) T
  obtain ⟨fd_law_went, G_law_went, b_law_went, kp_law_went⟩ := ok_law_went (P := P) (w := w) (base := base) T
  obtain ⟨fd_Line_len, G_Line_len, b_Line_len, kp_Line_len⟩ := ok_Line_len (P := P) (w := w) (base := base) T
  obtain ⟨fd_law_same, G_law_same, b_law_same, kp_law_same⟩ := ok_law_same (P := P) (w := w) (base := base) T 4
  refine ⟨fd, F.ok sc_law_alike (fun vs H Q E h => ?_) (fun cdv A outer s H vs Q E hr h => ?_), F.binds (ps := ["_law_well_here", "_law_one", "_law_other"]) fun _ _ _ _ _ _ us hl => match us, hl with | [_, _, _], _ => rfl, F.kp⟩
  · obtain ⟨A, B, p, c, h, cs, f, th, rfl, _⟩ := h
    rfl
  · skip
    refine ⟨_, (pss_cons (ps_for PassesOwn.never rfl (pi_range1 (by rfl) T.b_range (pa_cons pe_int pa_nil)) (pg_name (i := 3) sc_law_alike.nd rfl (Or.inl rfl)) (pss_cons (ps_if (pt_not (pt_val (pe_call G_law_same (hr.mono (by decide)) rfl T.g_law_same kp_law_same b_law_same .nil pass0 (pa_cons (pe_call G_law_stand (hr.mono (by decide)) rfl T.g_law_stand kp_law_stand b_law_stand .nil pass0 (pa_cons (pv 1) pa_nil)) (pa_cons (pe_call G_law_stand (hr.mono (by decide)) rfl T.g_law_stand kp_law_stand b_law_stand .nil pass0 (pa_cons (pv 2) pa_nil)) pa_nil))))) (pss_one (ps_ret pe_bl)) pss_nil)
      (pss_cons (ps_par (i := 4) (j := 5) rfl sc_law_alike.nd rfl rfl (by decide) rfl rfl (pa_cons (pe_ix ix_list (pe_lst (pa_cons pe_str (pa_cons pe_str (pa_cons pe_str pa_nil)))) (pe_call G_law_draw (hr.mono (by decide)) rfl T.g_law_draw kp_law_draw b_law_draw .nil pass0 (pa_cons (pv 0) (pa_cons pe_int pa_nil))) (fun _ _ => rfl)) (pa_cons (pe_op op_mul (pe_op op_fdivN (pe_call G_law_draw (hr.mono (by decide)) rfl T.g_law_draw kp_law_draw b_law_draw .nil pass0 (pa_cons (pv 0) (pa_cons pe_int pa_nil))) pe_int) (pe_op op_modN (pv 3) pe_int)) pa_nil)) (by rfl))
      (pss_cons (ps_set (i := 6) sc_law_alike.nd rfl (Or.inl rfl) (pe_lst (pa_cons (pe_call G_law_went (hr.mono (by decide)) rfl T.g_law_went kp_law_went b_law_went .nil pass0 (pa_cons (pv 1) (pa_cons (pv 5) (pa_cons (pv 4) pa_nil)))) (pa_cons (pe_call G_law_went (hr.mono (by decide)) rfl T.g_law_went kp_law_went b_law_went .nil pass0 (pa_cons (pv 2) (pa_cons (pv 5) (pa_cons (pv 4) pa_nil)))) pa_nil))))
      (pss_cons (ps_if (PW.pt (pw_or (pt_cmpR op_isNB (pe_ix ix_list (pv 6) pe_int (fun _ _ => rfl)) pe_bl (nomark _)) (pw_or1 (pt_not (pt_val (pe_call G_law_same (hr.mono (by decide)) rfl T.g_law_same kp_law_same b_law_same .nil pass0 (pa_cons (pe_ix ix_list (pv 6) pe_int (fun _ _ => rfl)) (pa_cons (pe_ix ix_list (pv 6) pe_int (fun _ _ => rfl)) pa_nil)))))))) (pss_one (ps_ret pe_bl)) pss_nil)
      (pss_one (ps_if (PW.pt (pw_and (pt_cmpR op_eq (pv 5) pe_int (nomark _)) (pw_and1 (pt_cmp (pc_isN (pe_ix ix_list (pv 6) pe_int (fun _ _ => rfl))) rfl)))) (pss_one (ps_ret (pe_cmpR op_eq (pe_callB (call_lenO T.m_Line_len.at_ T.m_Line_len.fn G_Line_len b_Line_len pass0 (hr.mono (by decide))) (by rfl) T.b_len (by decide +kernel) (pa_cons (pv 1) pa_nil)) pe_int (nomark _)))) pss_nil)))))))
      (pss_one (ps_ret pe_bl))), ?_⟩
    obtain ⟨A, B, p, c, h, cs, f, th, rfl, xA, xB, ab, pA, pB, wl, hc, hi, mi, most, k⟩ := h
    refine ⟨_, rfl, by decide, by decide, ?_⟩
    refine for_range (lo := 0) (n := (200 : Int).toNat) (fun i σ H' => ∃ (A' B' : LA) (cs' : List Call) (f' : Str → Option Nat) (v1 v2 v3 v4 : Option V), A'.L = A.L ∧ B'.L = B.L ∧ σ = [some (.ref p), some (.ref A.L), some (.ref B.L), v1, v2, v3, v4] ∧ LineAt a.cLine a.cLineWork H' A' h cs' f' ∧ LineAt a.cLine a.cLineWork H' B' h cs' f' ∧
      (∀ b ∈ A'.fp, b ∉ B'.fp) ∧ p ∉ A'.fp ∧ p ∉ B'.fp ∧ WellAt H' p (c + 2 * i) ∧ Hist th h cs' ∧ MarksIn f' cs'.length ∧ cs'.length + (i + 1) / 2 ≤ cs.length)
      ⟨A, B, cs, f, none, none, none, none, rfl, rfl, rfl, xA, xB, ab, pA, pB, wl, hi, mi, by omega⟩ ?_ ?_
    · rintro i σ H1 hi1 ⟨A1, B1, cs1, f1, v1, v2, v3, v4, eA, eB, rfl, xA, xB, ab, pA, pB, wl, hi, mi, le⟩
      have hi1 : i < 200 := hi1
      refine ⟨_, rfl, A1, h, cs1, f1, th, (by rw [eA]; rfl), xA, hi, fun H2 o1 x2 s2 r1 => ?_⟩
      obtain ⟨xB2, _⟩ := xB.other s2 ab
      have w2 := (wl.other s2 pA).1
      refine ⟨_, rfl, B1, h, cs1, f1, th, (by rw [eB]; rfl), xB2, hi, fun H3 o2 x3 s3 r2 => ?_⟩
      obtain ⟨xA3, _⟩ := x2.other s3 fun b hb hA => ab b hA hb
      have w3 := (w2.other s3 pB).1
      refine ⟨_, _, standT h cs1, _, _, rfl, r1.keep (N' := fun b => H1 b = none) (fun _ n => n) (fun b xs n e => s3.but.at (fun hb => by
        obtain ⟨o, e, _⟩ := xB.noTup b hb
        rw [n] at e
        cases e) e) (fun b xs e => s3.but.tup e), r2, standT_wd hi, fun H4 s4 => ?_⟩
      refine ⟨true, rfl, iteF ?_⟩
      have xA4 := xA3.same s4
      have xB4 := x3.same s4
      have w4 := w3.at (H' := H4) fun o e => s4 _ _ e
      clear x2 x3 xA3 xB2 w2 w3 s2 s3 s4 r1 r2 xA xB wl
      refine ⟨(by show 3 ≤ sizeLine; decide), fun q nq => ?_⟩
      have qp : q ≠ p := w4.ne nq
      refine ⟨_, rfl, p, 3, _, rfl, by decide, ten_le (by decide), w4.new nq, by omega, fun d1 H5 a1 a2 w5 b5 => ?_⟩
      obtain ⟨x, hx, hx3⟩ := draw3 a1 a2
      refine ⟨q, _, d1, _, rfl, rfl, SqL.of (b5.at (by simp [qp]) upd_same), hx, ?_⟩
      refine ⟨_, rfl, p, 3, _, rfl, by decide, ten_le (by decide), w5, by omega, fun d2 H6 c1 c2 w6 b6 => ⟨d2, 2, rfl, rfl, ⟨by decide, by decide⟩, ?_⟩⟩
      have e2 : d2.fdiv 2 = 0 ∨ d2.fdiv 2 = 1 := by
        rcases (by omega : d2 = 0 ∨ d2 = 1 ∨ d2 = 2) with rfl | rfl | rfl <;> decide
      have ei : (0 + (i : Int)).fmod 2 = ((i % 2 : Nat) : Int) := by
        rw [Int.fmod_eq_emod_of_nonneg _ (by decide)]
        omega
      have hw : (d2.fdiv 2 * (0 + (i : Int)).fmod 2 = 0) ∨ (d2.fdiv 2 * (0 + (i : Int)).fmod 2 = 1 ∧ i % 2 = 1) := by
        rw [ei]
        rcases e2 with e | e
        · rw [e]
          exact .inl (Int.zero_mul _)
        · rw [e, Int.one_mul]
          omega
      refine ⟨_, rfl, _, _, rfl, rfl, (by show (2 : Int) ≠ 0; decide), _, _, rfl, rfl, .inl (by rcases e2 with e | e <;> rw [e] <;> decide), _, .int (d2.fdiv 2 * (0 + (i : Int)).fmod 2), rfl, ?_⟩
      generalize d2.fdiv 2 * (0 + (i : Int)).fmod 2 = way at hw ⊢
      have bt : But [p] H4 H6 := ((But.refl.n1 nq).t1 b5).t1 b6
      have xA6 := xA4.but bt fun b hb hp => pA (by rw [← List.mem_singleton.mp hp]; exact hb)
      have xB6 := xB4.but bt fun b hb hp => pB (by rw [← List.mem_singleton.mp hp]; exact hb)
      clear xA4 xB4 bt b5 b6 w4 w5
      cases g : goes cs1 f1 way x with
      | none =>
        refine ⟨_, rfl, _, rfl, _, rfl, A1, h, cs1, f1, th, way, x, (by rw [eA]; rfl), xA6, hi, mi, (fun _ => hx3), (fun _ H7 s7 => ?_), (fun n e => by rw [g] at e; cases e)⟩
        refine ⟨_, rfl, _, rfl, _, rfl, B1, h, cs1, f1, th, way, x, (by rw [eB]; rfl), xB6.same s7, hi, mi, (fun _ => hx3), (fun _ H8 s8 => ⟨(by show 2 ≤ sizeLine; decide), fun o no => ?_⟩), (fun n e => by rw [g] at e; cases e)⟩
        refine ⟨_, rfl, o, _, _, _, rfl, rfl, SqL.of upd_same, rfl, false, rfl, .inl ⟨rfl, _, rfl, iteF ?_⟩⟩
        refine ⟨_, rfl, o, _, _, _, rfl, rfl, SqL.of upd_same, rfl, _, rfl, o, _, _, _, rfl, rfl, SqL.of upd_same, rfl, ?_⟩
        refine ⟨.non, .non, .lf .non, (fun _ => True), (fun _ => True), rfl, .lf rfl, .lf rfl, .lf, fun H9 s9 => ⟨true, rfl, iteF ?_⟩⟩
        have so : ∀ {u : HO}, Same H8 (upd H8 o u) := fun b z e => by rw [upd_ne (ne_of_none e no)]; exact e
        have sall : Same H6 H9 := fun b z e => s9 _ _ (so _ _ (s8 _ _ (s7 _ _ e)))
        have xA9 := xA6.same sall
        refine ⟨_, rfl, rfl, _, rfl, ite_or (fun z => ?_) (fun z => ?_)⟩
        · have z : way = 0 := by have := of_decide_eq_true z; injection this
          refine ⟨_, rfl, o, _, _, _, rfl, rfl, SqL.of (s9 _ _ upd_same), rfl, _, rfl, iteT ?_⟩
          have c0 : cs1 = [] := by
            unfold goes at g
            rw [if_pos z] at g
            by_cases d : cs1.length = 0
            · exact List.length_eq_zero_iff.mp d
            · rw [if_neg d] at g
              cases g
          subst c0
          obtain ⟨dx, hL⟩ := xA9.ob
          rw [eA] at hL
          exact ⟨_, rfl, A.L, dx, _, rfl, hL, A1, h, [], f1, (by rw [eA]), xA9, 0, rfl, (by decide), rfl, k _⟩
        · have z : way ≠ 0 := fun q => by rw [q] at z; exact absurd z (by decide)
          refine iteF ⟨A1, B1, cs1, f1, _, _, _, _, eA, eB, rfl, xA9, xB6.same sall, ab, pA, pB, (w6.at fun u e => sall _ _ e).mono (by omega), hi, mi, ?_⟩
          omega
      | some n =>
        obtain ⟨n1, n2⟩ := goes_le mi g
        have ln : (cs1.take n).length = n := by rw [List.length_take]; omega
        refine ⟨_, rfl, _, rfl, _, rfl, A1, h, cs1, f1, th, way, x, (by rw [eA]; rfl), xA6, hi, mi, (fun _ => hx3), (fun e => by rw [g] at e; cases e), fun n' e A2 H7 xA7 sA => ?_⟩
        rw [g] at e
        cases e
        obtain ⟨xB7, ab7⟩ := xB6.other sA ab
        obtain ⟨w7, pA7⟩ := w6.other sA pA
        refine ⟨_, rfl, _, rfl, _, rfl, B1, h, cs1, f1, th, way, x, (by rw [eB]; rfl), xB7, hi, mi, (fun _ => hx3), (fun e => by rw [g] at e; cases e), fun n' e B2 H8 xB8 sB => ⟨(by show 2 ≤ sizeLine; decide), fun o no => ?_⟩⟩
        rw [g] at e
        cases e
        obtain ⟨xA8, ba8⟩ := xA7.other sB fun b hb hA => ab7 b hA hb
        obtain ⟨w8, pB8⟩ := w7.other sB pB
        refine ⟨_, rfl, o, _, _, _, rfl, rfl, SqL.of upd_same, rfl, false, rfl, .inr ⟨true, rfl, _, rfl, iteF ?_⟩⟩
        refine ⟨_, rfl, o, _, _, _, rfl, rfl, SqL.of upd_same, rfl, _, rfl, o, _, _, _, rfl, rfl, SqL.of upd_same, rfl, ?_⟩
        refine ⟨.bl true, .bl true, .lf (.bl true), (fun _ => True), (fun _ => True), rfl, .lf rfl, .lf rfl, .lf, fun H9 s9 => ⟨true, rfl, iteF ?_⟩⟩
        have so : ∀ {u : HO}, Same H8 (upd H8 o u) := fun b z e => by rw [upd_ne (ne_of_none e no)]; exact e
        have sall : Same H8 H9 := fun b z e => s9 _ _ (so _ _ e)
        have inv : (n + (i + 1 + 1) / 2 ≤ cs.length) → ∃ (A' B' : LA) (cs' : List Call) (f' : Str → Option Nat) (v1 v2 v3 v4 : Option V), A'.L = A.L ∧ B'.L = B.L ∧ [some (V.ref p), some (.ref A.L), some (.ref B.L), some (.int (0 + (i : Int))), some (.str x), some (.int way), some (.ref o)] = [some (V.ref p), some (.ref A.L), some (.ref B.L), v1, v2, v3, v4] ∧ LineAt a.cLine a.cLineWork H9 A' h cs' f' ∧ LineAt a.cLine a.cLineWork H9 B' h cs' f' ∧
            (∀ b ∈ A'.fp, b ∉ B'.fp) ∧ p ∉ A'.fp ∧ p ∉ B'.fp ∧ WellAt H9 p (c + 2 * (i + 1)) ∧ Hist th h cs' ∧ MarksIn f' cs'.length ∧ cs'.length + (i + 1 + 1) / 2 ≤ cs.length := fun le2 =>
          ⟨A2, B2, cs1.take n, keepM f1 n, _, _, _, _, sA.L.trans eA, sB.L.trans eB, rfl, xA8.same sall, xB8.same sall, (fun b h1 h2 => ba8 b h2 h1), pA7, pB8, (w8.at fun u e => sall _ _ e).mono (by omega), hi.take n, (by rw [ln]; exact marksIn_keepM f1 n), by rw [ln]; exact le2⟩
        refine ⟨_, rfl, rfl, _, rfl, ite_or (fun z => ?_) (fun z => ?_)⟩
        · have z : way = 0 := by have := of_decide_eq_true z; injection this
          refine ⟨_, rfl, o, _, _, _, rfl, rfl, SqL.of (s9 _ _ upd_same), rfl, _, rfl, ite_or (fun c => absurd (of_decide_eq_true c) (by intro z; cases z)) (fun _ => inv ?_)⟩
          have := n2 z
          omega
        · have z : way ≠ 0 := fun q => by rw [q] at z; exact absurd z (by decide)
          exact iteF (inv (odd_step n1 le (hw.elim (fun q => absurd q z) fun q => q.2)))
    · rintro σ H1 ⟨A1, B1, cs1, f1, v1, v2, v3, v4, eA, eB, rfl, xA, xB, ab, pA, pB, wl, hi, mi, le⟩
      have : (200 : Int).toNat = 200 := rfl
      omega
end
end K76
set_option maxRecDepth 100000
set_option maxHeartbeats 4000000
namespace K76
open PySem L2
section
variable {P : Program} {w : World} {K : PySem.W.Frag} {mg : Str → Option Value} {base : Heap} {a : Ad}

/-! ## what the law keeps beside the line -/
/-- data: at none of F's addresses -/
def Dt (F : List Addr) (H : Hp) (a : Addr) : Prop := a ∉ F ∧ H a ≠ none
structure Beside (H : Hp) (G : List Addr) (A : LA) (l m tl : Addr) (h : Int) (cs : List Call) (f : Str → Option Nat) (th : List Str) (C : Nat) : Prop where
  hs : HistAt (Dt (A.fp ++ G) H) H l h cs
  mks : MarksAt H m f
  md : Dt (A.fp ++ G) H m
  tg : ThingsAt H tl th
  td : Dt (A.fp ++ G) H tl
  gw : ∀ g ∈ G, WellAt H g C ∧ g ∉ A.fp
theorem Dt.to {F F' F1 : List Addr} {H H' : Hp} {a : Addr} (d : Dt F H a) (b : But F1 H H') (h1 : ∀ x ∈ F1, x ∈ F) (h2 : ∀ x ∈ F', x ∈ F ∨ H x = none) : Dt F' H' a := by
  refine ⟨fun z => ?_, ?_⟩
  · rcases h2 a z with q | q
    · exact d.1 q
    · exact d.2 q
  · cases q : H a with
    | none => exact absurd q d.2
    | some o =>
      rw [b.at (fun z => d.1 (h1 a z)) q]
      intro z
      cases z
theorem Dt.at {F F1 : List Addr} {H H' : Hp} {a : Addr} {o : HO} (d : Dt F H a) (b : But F1 H H') (h1 : ∀ x ∈ F1, x ∈ F) (e : H a = some o) : H' a = some o := b.at (fun z => d.1 (h1 a z)) e
/-- a new thing is data -/
theorem Dt.new {F : List Addr} {H H' : Hp} {a : Addr} (h : ∀ x ∈ F, H x ≠ none) (n : H a = none) (e : H' a ≠ none) : Dt F H' a := ⟨fun z => h a z n, e⟩
section
variable {H H' : Hp} {G : List Addr} {A A' : LA} {l m tl : Addr} {h : Int} {cs : List Call} {f : Str → Option Nat} {th : List Str} {C C' : Nat}
theorem Beside.to (x : Beside H G A l m tl h cs f th C) {F1 : List Addr} (b : But F1 H H') (h1 : ∀ y ∈ F1, y ∈ A.fp ++ G) (h2 : ∀ y ∈ A'.fp, y ∈ A.fp ∨ H y = none) (hw : ∀ g ∈ G, WellAt H' g C') : Beside H' G A' l m tl h cs f th C' := by
  have h3 : ∀ y ∈ A'.fp ++ G, y ∈ A.fp ++ G ∨ H y = none := fun y hy => by
    rcases List.mem_append.mp hy with z | z
    · rcases h2 y z with q | q
      · exact .inl (List.mem_append.mpr (.inl q))
      · exact .inr q
    · exact .inl (List.mem_append.mpr (.inr z))
  refine ⟨x.hs.keep (fun a d => d.to b h1 h3) (fun a xs d e => d.at b h1 e) b, x.mks.keep fun o e => x.md.at b h1 e, x.md.to b h1 h3, ⟨x.td.at b h1 x.tg.at_, x.tg.ne, x.tg.few, x.tg.all⟩, x.td.to b h1 h3, fun g hg => ⟨hw g hg, fun hA => ?_⟩⟩
  rcases h2 g hA with q | q
  · exact (x.gw g hg).2 q
  · obtain ⟨_, _, _, e, _⟩ := (x.gw g hg).1
    rw [q] at e
    cases e
theorem Beside.same (x : Beside H G A l m tl h cs f th C) (s : Same H H') : Beside H' G A l m tl h cs f th C :=
  x.to (But.same (F := []) s) (fun _ z => by cases z) (fun _ z => .inl z) fun g hg => (x.gw g hg).1.at fun o e => s _ _ e
theorem Beside.well (x : Beside H G A l m tl h cs f th C) {p : Addr} (hp : p ∈ G) (b : But [p] H H') (w : WellAt H' p C') (hC : C ≤ C') : Beside H' G A l m tl h cs f th C' :=
  x.to b (fun y hy => by rw [List.mem_singleton.mp hy]; exact List.mem_append.mpr (.inr hp)) (fun _ z => .inl z) fun g hg => by
    by_cases c : g = p
    · rw [c]; exact w
    · exact ((x.gw g hg).1.at fun o e => b.at (by simp [c]) e).mono hC
theorem Beside.step (x : Beside H G A l m tl h cs f th C) (st : Stp A A' H H') : Beside H' G A' l m tl h cs f th C :=
  x.to st.but (fun y hy => List.mem_append.mpr (.inl hy)) st.fresh fun g hg => ((x.gw g hg).1.other st (x.gw g hg).2).1
theorem Beside.up (x : Beside H G A l m tl h cs f th C) (hC : C ≤ C') : Beside H G A l m tl h cs f th C' :=
  ⟨x.hs, x.mks, x.md, x.tg, x.td, fun g hg => ⟨(x.gw g hg).1.mono hC, (x.gw g hg).2⟩⟩
end
theorem HistAt.nl {N : Addr → Prop} {H : Hp} {l : Addr} {h : Int} {cs : List Call} (x : HistAt N H l h cs) : N l := let ⟨_, n, _⟩ := x.ob; n
theorem HistAt.len {N : Addr → Prop} {H : Hp} {l : Addr} {h : Int} {cs : List Call} (x : HistAt N H l h cs) : ∃ xs : List V, H l = some (.lst xs) ∧ xs.length = cs.length := let ⟨ps, _, e, len, _⟩ := x.ob; ⟨_, e, by rw [List.length_map, len]⟩
/-- the row cut off -/
theorem HistAt.take {N : Addr → Prop} {H : Hp} {l l' : Addr} {h : Int} {cs : List Call} (x : HistAt N H l h cs) {xs : List V} (e : H l = some (.lst xs)) (n : Nat) (hn : n ≤ cs.length) (nl : N l') (e' : H l' = some (.lst (xs.take n))) : HistAt N H l' h (cs.take n) := by
  obtain ⟨ps, _, e2, len, ob⟩ := x.ob
  rw [e2] at e
  cases e
  refine ⟨ps.take n, nl, by rw [e', List.map_take], by rw [List.length_take, List.length_take]; omega, fun i p c h1 h2 => ?_⟩
  have hi : i < n := by
    by_cases q : i < n
    · exact q
    · rw [List.getElem?_eq_none (by rw [List.length_take]; omega)] at h2; cases h2
  rw [List.getElem?_take_of_lt hi] at h1 h2
  have := ob i p c h1 h2
  rw [List.take_take, Nat.min_eq_left (by omega)]
  exact this
theorem HistAt.snoc {N : Addr → Prop} {H : Hp} {l l' : Addr} {h : Int} {cs : List Call} {c : Call} {p : Addr} (x : HistAt N H l h cs) {xs : List V} (e : H l = some (.lst xs)) (nl : N l') (e' : H l' = some (.lst (xs ++ [V.ref p]))) (pr : PairAt N H p c (toldOf h cs c)) : HistAt N H l' h (cs ++ [c]) := by
  obtain ⟨ps, _, e2, len, ob⟩ := x.ob
  rw [e2] at e
  cases e
  refine ⟨ps ++ [p], nl, by rw [e', List.map_append]; rfl, by rw [List.length_append, List.length_append, len]; rfl, fun i q d h1 h2 => ?_⟩
  by_cases hi : i < cs.length
  · rw [List.getElem?_append_left (by omega)] at h1
    rw [List.getElem?_append_left hi] at h2
    have := ob i q d h1 h2
    rw [List.take_append_of_le_length (by omega)]
    exact this
  · have hi2 : i = cs.length := by
      by_cases z : i = cs.length
      · exact z
      · rw [List.getElem?_eq_none (by rw [List.length_append, List.length_singleton]; omega)] at h2; cases h2
    subst hi2
    rw [List.getElem?_append_right (by omega), len, Nat.sub_self] at h1
    rw [List.getElem?_append_right (by omega), Nat.sub_self] at h2
    cases h1
    cases h2
    rw [List.take_append_of_le_length (Nat.le_refl _), List.take_length]
    exact pr
theorem cutV_take {xs : List V} {n : Nat} (h : n ≤ xs.length) : cutV xs none (some (n : Int)) = xs.take n := by
  unfold cutV
  rw [HT.sIx_nat, HT.sIx_none, Nat.min_eq_left h]
  rfl
theorem cutV_init {xs : List V} : cutV xs none (some (-1)) = xs.take (xs.length - 1) := by
  unfold cutV
  have : HT.sIx xs.length xs.length (some (-1)) = xs.length - 1 := by
    show (if (-1 : Int) < 0 then (-1 + (xs.length : Int)).toNat else min (-1 : Int).toNat xs.length) = _
    rw [if_pos (by decide)]
    omega
  rw [this, HT.sIx_none]
  rfl
end
end K76
set_option maxRecDepth 100000
set_option maxHeartbeats 4000000
namespace K76
open PySem L2
section
variable {P : Program} {w : World} {K : PySem.W.Frag} {mg : Str → Option Value} {base : Heap} {a : Ad}

/-! ## one turn of the law -/
/-- what a turn gives -/
def TurnQ (CL CW : Addr) (H : Hp) (G : List Addr) (A : LA) (tl : Addr) (h : Int) (n : Nat) (th : List Str) (C : Nat) (Q : VK) : Prop := ∀ A' l' m' o cs' f' H', LineAt CL CW H' A' h cs' f' → Hist th h cs' → MarksIn f' cs'.length → Beside H' G A' l' m' tl h cs' f' th (C + 200) → cs'.length ≤ n + 1 → A'.L = A.L →
  H' o = some (.tup [.ref l', .ref m']) → But (A.fp ++ G) H H' → (∀ b ∈ A'.fp, b ∈ A.fp ∨ H b = none) → Q (.ref o) H'
theorem WellAt.there {H : Hp} {p : Addr} {c : Nat} (w : WellAt H p c) : H p ≠ none := fun z => by
  obtain ⟨_, _, _, e, _⟩ := w
  rw [z] at e
  cases e
theorem Beside.there {CL CW : Addr} {H : Hp} {G : List Addr} {A : LA} {l m tl : Addr} {h : Int} {cs cs2 : List Call} {f f2 : Str → Option Nat} {th : List Str} {C : Nat} (e : Beside H G A l m tl h cs f th C) (x : LineAt CL CW H A h cs2 f2) : ∀ y ∈ A.fp ++ G, H y ≠ none := fun y hy => by
  rcases List.mem_append.mp hy with z | z
  · obtain ⟨o, e, _⟩ := x.noTup y z
    rw [e]
    intro q
    cases q
  · exact (e.gw y z).1.there
theorem TurnQ.go {CL CW : Addr} {H H2 : Hp} {G : List Addr} {A : LA} {tl : Addr} {h : Int} {n : Nat} {th : List Str} {C : Nat} {Q : VK} (k : TurnQ CL CW H G A tl h n th C Q) (b : But (A.fp ++ G) H H2) (gw : ∀ g ∈ G, H2 g ≠ none) : TurnQ CL CW H2 G A tl h n th C Q :=
  fun A' l' m' o cs' f' H' x1 x2 x3 x4 x5 x6 x7 b2 fr => k A' l' m' o cs' f' H' x1 x2 x3 x4 x5 x6 x7 (b.trans b2 fun _ z => .inl z) fun c hc => by
    rcases fr c hc with z | z
    · exact .inl z
    · by_cases q : c ∈ A.fp
      · exact .inl q
      · refine .inr (b.free z fun w => ?_)
        rcases List.mem_append.mp w with w | w
        · exact q w
        · exact gw c w z
theorem TurnQ.fin {CL CW : Addr} {H H4 H7 : Hp} {G : List Addr} {A A2 : LA} {l' m' o tl : Addr} {h : Int} {n : Nat} {cs' : List Call} {f' : Str → Option Nat} {th : List Str} {C : Nat} {Q : VK} (k : TurnQ CL CW H G A tl h n th C Q) (st : Stp A A2 H H4) (s : Same H4 H7) (x4 : LineAt CL CW H4 A2 h cs' f')
    (hi : Hist th h cs') (mi : MarksIn f' cs'.length) (e : Beside H7 G A2 l' m' tl h cs' f' th (C + 200)) (le : cs'.length ≤ n + 1) (ho : H7 o = some (.tup [.ref l', .ref m'])) : Q (.ref o) H7 :=
  k A2 l' m' o cs' f' H7 (x4.same s) hi mi e le st.L ho ((st.but.mono fun z hz => .inl (List.mem_append.mpr (.inl hz))).trans (But.same (F := []) s) fun _ z => by cases z) st.fresh
theorem there_same {F : List Addr} {H H' : Hp} (h : ∀ x ∈ F, H x ≠ none) (s : Same H H') : ∀ x ∈ F, H' x ≠ none := fun x hx z => by
  cases q : H x with
  | none => exact h x hx q
  | some o =>
    rw [s _ _ q] at z
    cases z
theorem same_new {H : Hp} {p : Addr} {o : HO} (n : H p = none) : Same H (upd H p o) := fun b u e => by rw [upd_ne (ne_of_none e n)]; exact e
theorem MarksAt.there {H : Hp} {m : Addr} {f : Str → Option Nat} (x : MarksAt H m f) : H m ≠ none := by
  obtain ⟨ms, e, _⟩ := x
  rw [e]
  intro z
  cases z
/-- calls and marks cut off behind a step back -/
theorem cut_fin {CL CW : Addr} {H3 H4 H6 : Hp} {G : List Addr} {A A2 : LA} {l m l' m' o tl : Addr} {h : Int} {n j : Nat} {cs : List Call} {f : Str → Option Nat} {th : List Str} {C C1 : Nat} {Q : VK} {xs ys : List V} (k : TurnQ CL CW H3 G A tl h n th C Q) (st : Stp A A2 H3 H4) (x4 : LineAt CL CW H4 A2 h (cs.take j) (keepM f j))
    (e4 : Beside H4 G A2 l m tl h cs f th C1) (hC : C1 ≤ C + 200) (hi : Hist th h cs) (hj : j ≤ cs.length) (le : cs.length ≤ n + 1) (hl : H4 l = some (.lst xs)) (ey : ys = xs.take j) (nl : H4 l' = none) (nm : (upd H4 l' (.lst ys)) m' = none) (mk' : MarksAt H6 m' (keepM f j)) (s6 : Same (upd H4 l' (.lst ys)) H6) (no : H6 o = none) :
    Q (.ref o) (upd H6 o (.tup [.ref l', .ref m'])) := by
  have s5 : Same H4 (upd H4 l' (.lst ys)) := same_new nl
  have s7 : Same H6 (upd H6 o (.tup [.ref l', .ref m'])) := same_new no
  have sA : Same H4 (upd H6 o (.tup [.ref l', .ref m'])) := fun b u z => s7 _ _ (s6 _ _ (s5 _ _ z))
  have e7 := e4.same sA
  have th4 := e4.there x4
  have hl' : (upd H6 o (.tup [.ref l', .ref m'])) l' = some (.lst (xs.take j)) := by
    rw [← ey]
    exact s7 _ _ (s6 _ _ upd_same)
  have mk7 := mk'.keep (H' := upd H6 o (.tup [.ref l', .ref m'])) fun _ e => s7 _ _ e
  have lt : (cs.take j).length = j := by rw [List.length_take]; omega
  refine k.fin st sA x4 (hi.take j) (by rw [lt]; exact marksIn_keepM f j) (Beside.up ⟨e7.hs.take (sA _ _ hl) j hj (Dt.new th4 nl (by rw [hl']; intro z; cases z)) hl', mk7, Dt.new (there_same th4 s5) nm mk7.there, e7.tg, e7.td, e7.gw⟩ hC) (by rw [lt]; omega) upd_same
theorem Dt.step {H H' : Hp} {G : List Addr} {A A2 : LA} {a : Addr} (d : Dt (A.fp ++ G) H a) (st : Stp A A2 H H') : Dt (A2.fp ++ G) H' a :=
  d.to st.but (fun y hy => List.mem_append.mpr (.inl hy)) fun y hy => by
    rcases List.mem_append.mp hy with z | z
    · rcases st.fresh y z with q | q
      · exact .inl (List.mem_append.mpr (.inl q))
      · exact .inr q
    · exact .inl (List.mem_append.mpr (.inr z))
theorem Dt.same {H H' : Hp} {F : List Addr} {a : Addr} (d : Dt F H a) (s : Same H H') : Dt F H' a := d.to (But.same (F := []) s) (fun _ z => by cases z) fun _ z => .inl z
/-- a call is made and written down -/
theorem call_fin {CL CW : Addr} {H7 H8 : Hp} {G : List Addr} {A A2 : LA} {l m l' pp ll o o8 t D tl : Addr} {h : Int} {n : Nat} {cs : List Call} {c : Call} {f : Str → Option Nat} {th : List Str} {C C1 : Nat} {Q : VK} {xs : List V} {ts : List Addr} (k : TurnQ CL CW H7 G A tl h n th C Q) (st : Stp A A2 H7 H8) (x8 : LineAt CL CW H8 A2 h (cs ++ [c]) f)
    (e7 : Beside H7 G A l m tl h cs f th C1) (hC : C1 ≤ C + 200) (hi : Hist th h cs) (mi : MarksIn f cs.length) (most : cs.length ≤ 98) (le : cs.length ≤ n) (ok : c.ok th) (hl : H7 l = some (.lst xs)) (ht : H7 t = some (.tup [.bl c.plan, .ref D])) (hD : H7 D = some (.lst (ts.map V.ref))) (dD : Dt (A.fp ++ G) H7 D) (pd : Paired (DeedAt H7) ts c.ds)
    (eo8 : H8 o8 = some (.lst (toldOf h cs c))) (no8 : o8 ∈ A.fp ∨ H7 o8 = none) (na8 : o8 ∉ A2.fp) (npp : H8 pp = none) (nll : (upd H8 pp (.tup [.ref t, .ref o8])) ll = none) (nl' : (upd (upd H8 pp (.tup [.ref t, .ref o8])) ll (.lst [.ref pp])) l' = none)
    (no : (upd (upd (upd H8 pp (.tup [.ref t, .ref o8])) ll (.lst [.ref pp])) l' (.lst (xs ++ [.ref pp]))) o = none) :
    Q (.ref o) (upd (upd (upd (upd H8 pp (.tup [.ref t, .ref o8])) ll (.lst [.ref pp])) l' (.lst (xs ++ [.ref pp]))) o (.tup [.ref l', .ref m])) := by
  have s9 : Same H8 (upd H8 pp (.tup [.ref t, .ref o8])) := same_new npp
  have s10 := same_new (o := .lst [.ref pp]) nll
  have s11 := same_new (o := .lst (xs ++ [.ref pp])) nl'
  have s12 := same_new (o := .tup [.ref l', .ref m]) no
  have e8 := e7.step st
  have th8 := e8.there x8
  have hpp := s12 _ _ (s11 _ _ (s10 _ _ (upd_same (H := H8) (a := pp) (o := .tup [.ref t, .ref o8]))))
  have hl' := s12 _ _ (upd_same (H := upd (upd H8 pp (.tup [.ref t, .ref o8])) ll (.lst [.ref pp])) (a := l') (o := .lst (xs ++ [.ref pp])))
  have th10 := there_same th8 (H' := upd (upd H8 pp (.tup [.ref t, .ref o8])) ll (.lst [.ref pp])) fun b u z => s10 _ _ (s9 _ _ z)
  have sA : Same H8 (upd (upd (upd (upd H8 pp (.tup [.ref t, .ref o8])) ll (.lst [.ref pp])) l' (.lst (xs ++ [.ref pp]))) o (.tup [.ref l', .ref m])) := fun b u z => s12 _ _ (s11 _ _ (s10 _ _ (s9 _ _ z)))
  have dl' : Dt (A2.fp ++ G) (upd (upd (upd (upd H8 pp (.tup [.ref t, .ref o8])) ll (.lst [.ref pp])) l' (.lst (xs ++ [.ref pp]))) o (.tup [.ref l', .ref m])) l' := Dt.new th10 nl' (by rw [hl']; intro z; cases z)
  have ho := upd_same (H := upd (upd (upd H8 pp (.tup [.ref t, .ref o8])) ll (.lst [.ref pp])) l' (.lst (xs ++ [.ref pp]))) (a := o) (o := .tup [.ref l', .ref m])
  clear s9 s10 s11 s12 th10 nll nl' no
  generalize (upd (upd (upd (upd H8 pp (.tup [.ref t, .ref o8])) ll (.lst [.ref pp])) l' (.lst (xs ++ [.ref pp]))) o (.tup [.ref l', .ref m])) = H12 at hpp hl' sA dl' ho ⊢
  have e12 := e8.same sA
  have hl12 : H12 l = some (.lst xs) := sA _ _ (st.but.at (fun z => e7.hs.nl.1 (List.mem_append.mpr (.inl z))) hl)
  have hD12 : H12 D = some (.lst (ts.map V.ref)) := sA _ _ (st.but.at (fun z => dD.1 (List.mem_append.mpr (.inl z))) hD)
  have dD12 : Dt (A2.fp ++ G) H12 D := (dD.step st).same sA
  have ct : CallAt (Dt (A2.fp ++ G) H12) H12 t c := ⟨D, ts, sA _ _ (st.but.tup ht), dD12, hD12, K76.Paired.mapH pd fun _ _ _ d => (d.but st.but).but (But.same (F := []) sA)⟩
  have do8 : Dt (A2.fp ++ G) H12 o8 := by
    refine ⟨fun z => ?_, by rw [sA _ _ eo8]; intro z; cases z⟩
    rcases List.mem_append.mp z with z | z
    · exact na8 z
    · rcases no8 with q | q
      · exact (e7.gw o8 z).2 q
      · exact (e7.gw o8 z).1.there q
  refine k.fin st sA x8 ⟨hi.h1, hi.h2, hi.few, fun d hd => ?_, by rw [List.length_append, List.length_singleton]; omega⟩ (fun z j hz => by rw [List.length_append, List.length_singleton]; exact Nat.le_succ_of_le (mi z j hz))
    (Beside.up ⟨e12.hs.snoc hl12 dl' hl' ⟨t, o8, hpp, ct, do8, sA _ _ eo8⟩, e12.mks, e12.md, e12.tg, e12.td, e12.gw⟩ hC) (by rw [List.length_append, List.length_singleton]; omega) ho
  rcases List.mem_append.mp hd with q | q
  · exact hi.calls d q
  · rw [List.mem_singleton.mp q]
    exact ok
theorem many_at {way d : Int} (h0 : 0 ≤ d) (h6 : d < 6) : ∃ n : Int, atI [V.int 1, V.int d] (if decide (V.int way = V.int 4) = true then 1 else 0) = some (V.int n) ∧ 0 ≤ n ∧ n ≤ 5 ∧ (decide (V.int way = V.int 4) = false → n = 1) := by
  cases decide (V.int way = V.int 4) with
  | true => exact ⟨d, rfl, h0, by omega, fun z => by cases z⟩
  | false => exact ⟨1, rfl, by decide, by decide, fun _ => rfl⟩
def spTurn (CL CW : Addr) : Sp := fun vs H Q _ => ∃ (G : List Addr) (A : LA) (p l m tl : Addr) (h : Int) (cs : List Call) (f : Str → Option Nat) (th : List Str) (C : Nat), vs = [.ref p, .ref A.L, .ref l, .ref m, .ref tl] ∧ p ∈ G ∧ LineAt CL CW H A h cs f ∧ Hist th h cs ∧ MarksIn f cs.length ∧ Beside H G A l m tl h cs f th C ∧ C ≤ 700000 ∧ cs.length ≤ 98 ∧
  TurnQ CL CW H G A tl h cs.length th C Q
theorem ok_law_turn (T : Txt K mg a) : Ok1 P w K mg base CX0 8 a.law_turn ["_law_well_here", "_law_line", "_law_calls", "_law_marks", "_law_things_here"] (spTurn a.cLine a.cLineWork) := by
  obtain ⟨fd, F⟩ := T.f_law_turn
  obtain ⟨fd_law_draw, G_law_draw, b_law_draw, kp_law_draw⟩ := ok_law_draw (P := P) (w := w) (base := base) T
  obtain ⟨fd_law_went, G_law_went, b_law_went, kp_law_went⟩ := ok_law_went (P := P) (w := w) (base := base) T
  obtain ⟨fd_law_kept, G_law_kept, b_law_kept, kp_law_kept⟩ := ok_law_kept (P := P) (w := w) (base := base) T
  obtain ⟨fd_Line_mark, G_Line_mark, b_Line_mark, kp_Line_mark⟩ := ok_Line_mark (P := P) (w := w) (base := base) T
  obtain ⟨fd_law_deed, G_law_deed, b_law_deed, kp_law_deed⟩ := ok_law_deed (P := P) (w := w) (base := base) T
  obtain ⟨fd_law_made, G_law_made, b_law_made, kp_law_made⟩ := ok_law_made (P := P) (w := w) (base := base) T
  obtain ⟨fd_law_same, G_law_same, b_law_same, kp_law_same⟩ := ok_law_same (P := P) (w := w) (base := base) T 4
  refine ⟨fd, F.ok sc_law_turn (fun vs H Q E h => ?_) (fun cdv A outer s H vs Q E hr h => ?_), F.binds (ps := ["_law_well_here", "_law_line", "_law_calls", "_law_marks", "_law_things_here"]) fun _ _ _ _ _ _ us hl => match us, hl with | [_, _, _, _, _], _ => rfl, F.kp⟩
  · obtain ⟨G, A, p, l, m, tl, h, cs, f, th, C, rfl, _⟩ := h
    rfl
  · have hu := hu_of hr
    refine ⟨_, (pss_cons (ps_par (i := 5) (j := 6) rfl sc_law_turn.nd rfl rfl (by decide) rfl rfl (pa_cons (pe_call G_law_draw (hr.mono (by decide)) rfl T.g_law_draw kp_law_draw b_law_draw .nil pass0 (pa_cons (pv 0) (pa_cons pe_int pa_nil))) (pa_cons (pe_ix ix_list (pe_lst (pa_cons pe_str (pa_cons pe_str (pa_cons pe_str pa_nil)))) (pe_call G_law_draw (hr.mono (by decide)) rfl T.g_law_draw kp_law_draw b_law_draw .nil pass0 (pa_cons (pv 0) (pa_cons pe_int pa_nil))) (fun _ _ => rfl)) pa_nil)) (by rfl))
      (pss_cons (ps_if (PW.pt (pw_and (pt_cmpR op_eq (pv 5) pe_int (nomark _)) (pw_and1 (pt_cmpR (op_neNil hr.units0) (pv 2) (pe_lst pa_nil) (nomark _))))) (pss_cons (ps_if (pt_cmpR op_notBl (pe_call G_law_went (hr.mono (by decide)) rfl T.g_law_went kp_law_went b_law_went .nil pass0 (pa_cons (pv 1) (pa_cons pe_int (pa_cons pe_str pa_nil)))) pe_bl (nomark _)) (pss_one (ps_ret pe_non)) pss_nil)
      (pss_one (ps_ret (pe_tup (pa_cons (pe_slice sl_list (pv 2) po_none (po_some (pe_un un_neg pe_int))) (pa_cons (pe_call G_law_kept (hr.mono (by decide)) rfl T.g_law_kept kp_law_kept b_law_kept .nil pass0 (pa_cons (pv 3) (pa_cons (pe_op op_sub (pe_callB call_len_seq (by rfl) T.b_len (by decide +kernel) (pa_cons (pv 2) pa_nil)) pe_int) pa_nil))) pa_nil)))))) pss_nil)
      (pss_cons (ps_if (pt_cmpR op_eq (pv 5) pe_int (nomark _)) (pss_cons (ps_par (i := 7) (j := 8) rfl sc_law_turn.nd rfl rfl (by decide) rfl rfl (pa_cons pe_non (pa_cons (pe_dget2 hu (pv 3) (pv 6) (pe_callB call_len_seq (by rfl) T.b_len (by decide +kernel) (pa_cons (pv 2) pa_nil)) ⟨rfl, rfl, rfl, rfl⟩) pa_nil)) (by rfl))
      (pss_cons (ps_if (pt_cmp (pc_din hu (pv 6) (pv 3))) (pss_one (ps_set (i := 7) sc_law_turn.nd rfl (Or.inl rfl) pe_bl)) pss_nil)
      (pss_cons (ps_if (pt_not (pt_val (pe_call G_law_same (hr.mono (by decide)) rfl T.g_law_same kp_law_same b_law_same .nil pass0 (pa_cons (pe_call G_law_went (hr.mono (by decide)) rfl T.g_law_went kp_law_went b_law_went .nil pass0 (pa_cons (pv 1) (pa_cons pe_int (pa_cons (pv 6) pa_nil)))) (pa_cons (pv 7) pa_nil))))) (pss_one (ps_ret pe_non)) pss_nil)
      (pss_one (ps_ret (pe_tup (pa_cons (pe_slice sl_list (pv 2) po_none (po_some (pv 8))) (pa_cons (pe_call G_law_kept (hr.mono (by decide)) rfl T.g_law_kept kp_law_kept b_law_kept .nil pass0 (pa_cons (pv 3) (pa_cons (pv 8) pa_nil))) pa_nil)))))))) pss_nil)
      (pss_cons (ps_if (pt_cmpR op_lt (pv 5) pe_int (nomark _)) (pss_cons (ps_set (i := 9) sc_law_turn.nd rfl (Or.inl rfl) (pe_callTy call_dictD (by rfl) T.b_dict (by decide +kernel) (pa_cons (pv 3) pa_nil)))
      (pss_cons (ps_asg (pe_callB call_len_seq (by rfl) T.b_len (by decide +kernel) (pa_cons (pv 2) pa_nil)) (pg_sub (pv 9) (pv 6) (set_dict hu)))
      (pss_cons (ps_expr (pe_meth (pv 1) T.c_Line T.m_Line_mark G_Line_mark (hr.mono (by decide)) b_Line_mark .nil pass0 (pa_cons (pv 6) pa_nil)))
      (pss_one (ps_ret (pe_tup (pa_cons (pv 2) (pa_cons (pv 9) pa_nil)))))))) pss_nil)
      (pss_cons (ps_set (i := 8) sc_law_turn.nd rfl (Or.inl rfl) (pe_ix ix_list (pe_lst (pa_cons pe_int (pa_cons (pe_call G_law_draw (hr.mono (by decide)) rfl T.g_law_draw kp_law_draw b_law_draw .nil pass0 (pa_cons (pv 0) (pa_cons pe_int pa_nil))) pa_nil))) (pe_callTy call_int1 (by rfl) T.b_int (by decide +kernel) (pa_cons (pe_cmpR op_eq (pv 5) pe_int (nomark _)) pa_nil)) (fun _ _ => rfl)))
      (pss_cons (ps_set (i := 10) sc_law_turn.nd rfl (Or.inl rfl) (pe_tup (pa_cons (pe_cmpR op_eq (pv 5) pe_int (nomark _)) (pa_cons (pe_lc (own := [("_law_k", 11)]) (g := gName 11) (tt := tYes) rfl sc_law_turn.nd (pi_range1 (by rfl) T.b_range (pa_cons (pv 8) pa_nil)) (blkOk_by (N := ["_law_well_here", "_law_line", "_law_calls", "_law_marks", "_law_things_here", "_law_way", "_law_word", "_law_due", "_law_many", "_law_some", "_law_call", "_law_k"]) (sc := defScope s_law_turn) (by decide +kernel)) (fun _ _ _ _ _ => (pg_name (i := 11) sc_law_turn.nd rfl (Or.inl rfl))) (fun _ _ _ _ _ => pts_nil) (fun _ _ _ _ _ => (pe_call G_law_deed (hr.mono (by decide)) rfl T.g_law_deed kp_law_deed b_law_deed .nil pass0 (pa_cons (pv 0) (pa_cons (pv 4) pa_nil))))) pa_nil))))
      (pss_one (ps_ret (pe_tup (pa_cons (pe_op op_cat (pv 2) (pe_lst (pa_cons (pe_tup (pa_cons (pv 10) (pa_cons (pe_call G_law_made (hr.mono (by decide)) rfl T.g_law_made kp_law_made b_law_made .nil pass0 (pa_cons (pv 1) (pa_cons (pv 10) pa_nil))) pa_nil))) pa_nil))) (pa_cons (pv 3) pa_nil))))))))))), ?_⟩
    obtain ⟨G, A, p, l, m, tl, h, cs, f, th, C, rfl, hp, x, hi, mi, en, hC, most, k⟩ := h
    have pA := (en.gw p hp).2
    refine ⟨_, rfl, p, 8, _, rfl, by decide, ten_le (by decide), (en.gw p hp).1, by omega, fun way H1 a1 a2 w1 b1 => ?_⟩
    have e1 := en.well hp b1 w1 (Nat.le_succ _)
    have x1 := x.but b1 fun b hb hz => pA (by rw [← List.mem_singleton.mp hz]; exact hb)
    refine ⟨(by show 3 ≤ sizeLine; decide), fun q nq => ?_⟩
    refine ⟨_, rfl, p, 3, _, rfl, by decide, ten_le (by decide), w1.new nq, by omega, fun d H2 c1 c2 w2 b2 => ?_⟩
    obtain ⟨y, hy, hy3⟩ := draw3 c1 c2
    refine ⟨q, _, d, _, rfl, rfl, SqL.of (b2.at (by simp [w1.ne nq]) upd_same), hy, _, _, rfl, ?_⟩
    have bt : But [p] H H2 := (b1.n1 nq).t1 b2
    have e2 := (en.well hp bt w2 (Nat.le_add_right C 2) : Beside H2 G A l m tl h cs f th (C + 2))
    have x2 := x.but bt fun b hb hz => pA (by rw [← List.mem_singleton.mp hz]; exact hb)
    have k2 := k.go (bt.mono fun z hz => .inl (by rw [List.mem_singleton.mp hz]; exact List.mem_append.mpr (.inr hp))) (fun g hg => (e2.gw g hg).1.there)
    clear e1 x1 b1 b2 w1 bt x en k
    obtain ⟨ms, hm, nd, ks, lk⟩ := id e2.mks
    have few := few_names nd ks
    obtain ⟨xs, hl, hxs⟩ := e2.hs.len
    refine ⟨_, rfl, rfl, _, rfl, ite_or (fun hw => ?_) (fun hw => ?_)⟩
    · have hw : way = 0 := by have := of_decide_eq_true hw; injection this
      subst hw
      refine ⟨_, rfl, (by show 0 ≤ sizeLine; decide), fun z nz => ⟨l, z, _, rfl, rfl, SqL.of (by rw [upd_ne (ne_of_none hl nz)]; exact hl), SqL.of upd_same, _, rfl, ?_⟩⟩
      have sz : Same H2 (upd H2 z (.lst [])) := same_new nz
      have x3 := x2.same sz
      have e3 := e2.same sz
      have k3 := k2.go (But.same sz) (fun g hg => (e3.gw g hg).1.there)
      have hm3 := sz _ _ hm
      have hl3 := sz _ _ hl
      generalize (upd H2 z (.lst [])) = H3 at x3 e3 k3 hm3 hl3 ⊢
      refine ite_or (fun hc => ?_) (fun hc => ?_)
      · have len1 : cs.length ≠ 0 := fun z => by
          rw [List.length_eq_zero_iff.mp (hxs.trans z)] at hc
          cases hc
        have g : goes cs f 0 "" = some (cs.length - 1) := by
          unfold goes
          rw [if_pos rfl, if_neg len1]
        refine ⟨_, rfl, A, h, cs, f, th, 0, _, rfl, x3, hi, mi, (fun z => absurd rfl z), (fun e => by rw [show goes cs f 0 (Str.ofString "") = some (cs.length - 1) from g] at e; cases e), fun n e A2 H4 x4 st => ?_⟩
        rw [show goes cs f 0 (Str.ofString "") = some (cs.length - 1) from g] at e
        cases e
        refine ⟨true, true, rfl, rfl, _, rfl, iteF ?_⟩
        have e4 := e3.step st
        have hl4 : H4 l = some (.lst xs) := st.but.at (fun z => e3.hs.nl.1 (List.mem_append.mpr (.inl z))) hl3
        refine ⟨_, rfl, _, rfl, _, rfl, l, xs, rfl, SqL.of hl4, fun l' nl' => ?_⟩
        have s5 : Same H4 (upd H4 l' (.lst (cutV xs none (some (-1))))) := same_new nl'
        refine ⟨_, rfl, _, rfl, l, xs, rfl, .inl (SqL.of (s5 _ _ hl4)), _, _, rfl, rfl, m, cs.length - 1, f, ?_, (e4.same s5).mks, fun m' H6 nm' mk' s6 => ⟨(by show 2 ≤ sizeLine; decide), fun o no => cut_fin k3 st x4 e4 (by omega) hi (Nat.sub_le _ _) (Nat.le_succ _) hl4 (by rw [cutV_init, hxs]) nl' nm' mk' s6 no⟩⟩
        rw [hxs]
        show [V.ref m, V.int ((cs.length : Int) - 1)] = [V.ref m, V.int ((cs.length - 1 : Nat) : Int)]
        rw [show (cs.length : Int) - 1 = ((cs.length - 1 : Nat) : Int) by omega]
      · refine ⟨_, rfl, rfl, _, rfl, iteF ?_⟩
        refine ⟨_, rfl, _, _, rfl, rfl, _, rfl, iteT ?_⟩
        refine ⟨_, rfl, m, kvM ms, rfl, Rd.of hm3, fun m' nm' => ?_⟩
        have s4 : Same H3 (upd H3 m' (.dK (kvM ms))) := same_new nm'
        refine ⟨_, rfl, l, xs, rfl, .inl (SqL.of (s4 _ _ hl3)), _, rfl, _, rfl, m', _, rfl, DPut.k (k := Sum.inr y) upd_same (small1000 (by rw [kvM_length]; omega)), ?_⟩
        rw [upd_upd, hxs]
        obtain ⟨ms', em, n1, n2, n3⟩ := put_kvM (n := cs.length) nd ks lk hy3
        rw [em]
        have s5 : Same H3 (upd H3 m' (.dK (kvM ms'))) := same_new nm'
        have x5 := x3.same s5
        have th3 := e3.there x3
        obtain ⟨dx, hL⟩ := x5.ob
        refine ⟨_, rfl, A.L, dx, _, rfl, hL, lfl_m_mark, _, rfl, A, h, cs, f, y, rfl, hy3, x5, fun H6 x6 st => ?_⟩
        refine ⟨_, rfl, _, rfl, (by show 2 ≤ sizeLine; decide), fun o no => ?_⟩
        have st3 : Stp A A H3 H6 := (Stp.same s5).trans st
        have mA : m' ∉ A.fp ++ G := fun z => th3 m' z nm'
        have s7 : Same H6 (upd H6 o (.tup [.ref l, .ref m'])) := same_new no
        have e7 := (e3.step st3).same s7
        have mk7 : MarksAt (upd H6 o (.tup [.ref l, .ref m'])) m' (putM f y cs.length) := ⟨ms', s7 _ _ (st.but.at (fun z => mA (List.mem_append.mpr (.inl z))) upd_same), n1, n2, n3⟩
        refine k3.fin st3 s7 x6 hi (fun z j hz => ?_) (Beside.up ⟨e7.hs, mk7, ⟨mA, mk7.there⟩, e7.tg, e7.td, e7.gw⟩ (by omega)) (Nat.le_succ _) upd_same
        unfold putM at hz
        by_cases c : z = y
        · rw [if_pos c] at hz
          cases hz
          exact Nat.le_refl _
        · rw [if_neg c] at hz
          exact mi z j hz
    · have hw : way ≠ 0 := fun z => by rw [z] at hw; exact absurd hw (by decide)
      have x3 := x2
      have e3 := e2
      have k3 := k2
      have hm3 := hm
      have hl3 := hl
      clear x2 e2 k2 hm hl
      generalize H2 = H3 at x3 e3 k3 hm3 hl3 w2 ⊢
      refine ⟨_, rfl, rfl, _, rfl, ite_or (fun h1 => ?_) (fun h1 => ?_)⟩
      · refine ⟨_, rfl, m, rfl, .inl ⟨_, Rd.of hm3⟩, _, rfl, _, rfl, l, xs, rfl, .inl (SqL.of hl3), _, DGet.k (k := Sum.inr y) hm3, .non, .int (((f y).getD cs.length : Nat) : Int), ?_, ?_⟩
        · rw [valV_kvM, lk, hxs]
          cases f y <;> rfl
        refine ⟨_, rfl, _, rfl, m, _, rfl, DGet.k (k := Sum.inr y) hm3, _, rfl, ?_⟩
        rw [valV_kvM, lk]
        have hg : goes cs f 1 y = f y := by
          unfold goes
          rw [if_neg (by decide)]
        cases fy : f y with
        | none =>
          refine iteF ?_
          refine ⟨_, rfl, _, rfl, A, h, cs, f, th, 1, y, rfl, x3, hi, mi, (fun _ => hy3), (fun _ H4 s4 => ?_), (fun n e => by rw [hg, fy] at e; cases e)⟩
          refine ⟨_, rfl, .non, .non, .lf .non, (fun _ => True), (fun _ => True), rfl, .lf rfl, .lf rfl, .lf, fun H5 s5 => ⟨true, rfl, iteF ?_⟩⟩
          have st : Stp A A H3 H5 := Stp.same fun b u z => s5 _ _ (s4 _ _ z)
          have x5 : LineAt a.cLine a.cLineWork H5 A h (cs.take cs.length) (keepM f cs.length) := by
            rw [List.take_length, keepM_all mi]
            exact x3.same fun b u z => s5 _ _ (s4 _ _ z)
          have e5 := e3.step st
          have hl5 : H5 l = some (.lst xs) := s5 _ _ (s4 _ _ hl3)
          refine ⟨_, rfl, _, rfl, _, rfl, l, xs, rfl, SqL.of hl5, fun l' nl' => ?_⟩
          refine ⟨_, rfl, _, rfl, m, cs.length, f, rfl, (e5.same (same_new nl')).mks, fun m' H6 nm' mk' s6 => ⟨(by show 2 ≤ sizeLine; decide), fun o no => cut_fin k3 st x5 e5 (by omega) hi (Nat.le_refl _) (Nat.le_succ _) hl5 (cutV_take (by omega)) nl' nm' mk' s6 no⟩⟩
        | some n =>
          refine iteT ?_
          refine ⟨_, rfl, _, rfl, A, h, cs, f, th, 1, y, rfl, x3, hi, mi, (fun _ => hy3), (fun e => by rw [hg, fy] at e; cases e), fun n' e A2 H4 x4 st4 => ?_⟩
          rw [hg, fy] at e
          cases e
          refine ⟨_, rfl, .bl true, .bl true, .lf (.bl true), (fun _ => True), (fun _ => True), rfl, .lf rfl, .lf rfl, .lf, fun H5 s5 => ⟨true, rfl, iteF ?_⟩⟩
          have st : Stp A A2 H3 H5 := st4.trans (Stp.same s5)
          have x5 := x4.same s5
          have e5 := e3.step st
          have hl5 : H5 l = some (.lst xs) := st.but.at (fun z => e3.hs.nl.1 (List.mem_append.mpr (.inl z))) hl3
          have nle := mi y n fy
          refine ⟨_, rfl, _, rfl, _, rfl, l, xs, rfl, SqL.of hl5, fun l' nl' => ?_⟩
          refine ⟨_, rfl, _, rfl, m, n, f, rfl, (e5.same (same_new nl')).mks, fun m' H6 nm' mk' s6 => ⟨(by show 2 ≤ sizeLine; decide), fun o no => cut_fin k3 st x5 e5 (by omega) hi nle (Nat.le_succ _) hl5 (cutV_take (by omega)) nl' nm' mk' s6 no⟩⟩
      · refine ⟨_, rfl, _, _, rfl, rfl, _, rfl, ite_or (fun h4 => ?_) (fun h4 => ?_)⟩
        · skip
          refine ⟨_, rfl, m, kvM ms, rfl, Rd.of hm3, fun m' nm' => ?_⟩
          have s4 : Same H3 (upd H3 m' (.dK (kvM ms))) := same_new nm'
          refine ⟨_, rfl, l, xs, rfl, .inl (SqL.of (s4 _ _ hl3)), _, rfl, _, rfl, m', _, rfl, DPut.k (k := Sum.inr y) upd_same (small1000 (by rw [kvM_length]; omega)), ?_⟩
          rw [upd_upd, hxs]
          obtain ⟨ms', em, n1, n2, n3⟩ := put_kvM (n := cs.length) nd ks lk hy3
          rw [em]
          have s5 : Same H3 (upd H3 m' (.dK (kvM ms'))) := same_new nm'
          have x5 := x3.same s5
          have th3 := e3.there x3
          obtain ⟨dx, hL⟩ := x5.ob
          refine ⟨_, rfl, A.L, dx, _, rfl, hL, lfl_m_mark, _, rfl, A, h, cs, f, y, rfl, hy3, x5, fun H6 x6 st => ?_⟩
          refine ⟨_, rfl, _, rfl, (by show 2 ≤ sizeLine; decide), fun o no => ?_⟩
          have st3 : Stp A A H3 H6 := (Stp.same s5).trans st
          have mA : m' ∉ A.fp ++ G := fun z => th3 m' z nm'
          have s7 : Same H6 (upd H6 o (.tup [.ref l, .ref m'])) := same_new no
          have e7 := (e3.step st3).same s7
          have mk7 : MarksAt (upd H6 o (.tup [.ref l, .ref m'])) m' (putM f y cs.length) := ⟨ms', s7 _ _ (st.but.at (fun z => mA (List.mem_append.mpr (.inl z))) upd_same), n1, n2, n3⟩
          refine k3.fin st3 s7 x6 hi (fun z j hz => ?_) (Beside.up ⟨e7.hs, mk7, ⟨mA, mk7.there⟩, e7.tg, e7.td, e7.gw⟩ (by omega)) (Nat.le_succ _) upd_same
          unfold putM at hz
          by_cases c : z = y
          · rw [if_pos c] at hz
            cases hz
            exact Nat.le_refl _
          · rw [if_neg c] at hz
            exact mi z j hz
        · have th3 := e3.there x3
          refine ⟨_, rfl, p, 6, _, rfl, by decide, ten_le (by decide), (e3.gw p hp).1, by omega, fun d6 H4 f1 f2 w4 b4 => ⟨(by show 2 ≤ sizeLine; decide), fun q2 nq2 => ?_⟩⟩
          obtain ⟨mny, hat, m0, m5, mone⟩ := many_at (way := way) f1 f2
          refine ⟨_, rfl, rfl, .inr ⟨_, rfl, q2, _, _, _, rfl, rfl, SqL.of upd_same, hat, ?_⟩⟩
          have b5 : But [p] H3 (upd H4 q2 (.lst [.int 1, .int d6])) := b4.n1 nq2
          have w5 : WellAt (upd H4 q2 (.lst [.int 1, .int d6])) p (C + 3) := w4.new nq2
          have x5 := x3.but b5 fun b hb hz => pA (by rw [← List.mem_singleton.mp hz]; exact hb)
          have e5 := e3.well hp b5 w5 (by omega)
          show gName 8 (.int mny) _ (upd H4 q2 (.lst [.int 1, .int d6])) _
          generalize (upd H4 q2 (.lst [.int 1, .int d6])) = H5 at b5 w5 x5 e5 ⊢
          have th5 := e5.there x5
          refine ⟨_, rfl, rfl, _, rfl, _, rfl, by omega, by omega, fun D nD => ?_⟩
          have DA : D ∉ A.fp ++ G := fun z => th5 D z nD
          have Dp : D ≠ p := fun z => DA (by rw [z]; exact List.mem_append.mpr (.inr hp))
          have tlp : tl ≠ p := fun z => e5.td.1 (by rw [z]; exact List.mem_append.mpr (.inr hp))
          refine lc_range (lo := 0) (n := mny.toNat) (fun i H' => ∃ (ts : List Addr) (ds : List DD), H' D = some (.lst (ts.map V.ref)) ∧ Paired (DeedAt H') ts ds ∧ ds.length = i ∧ (∀ d ∈ ds, d.ok th) ∧ WellAt H' p (C + 3 + 20 * i) ∧ But [p] H5 H')
            ⟨[], [], upd_same, .nil, rfl, (fun d hd => by cases hd), w5.new nD, But.refl.n1 nD⟩ ?_ ?_
          · rintro i H6 hi6 ⟨ts, ds, hD, pd, hlen, okd, w6, b6⟩
            refine ⟨rfl, ?_⟩
            have e6 := e5.well hp b6 w6 (by omega)
            refine ⟨_, rfl, _, rfl, p, tl, th, _, rfl, e6.tg, tlp, w6, by omega, fun t Dd H7 dt dok w7 b7 => ?_⟩
            have hD7 := b7.at (by simp [Dp]) hD
            have bD : But [D] H7 (upd H7 D (.lst (ts.map V.ref ++ [.ref t]))) := But.set (by simp) hD7 (by intro xs z; cases z)
            have tl' : ts.length = ds.length := K76.Paired.len pd
            refine ⟨_, hD7, small1000 (by rw [List.length_map]; omega), ts ++ [t], ds ++ [Dd], ?_, ?_, ?_, ?_, ?_, ?_⟩
            · rw [upd_same, List.map_append]
              rfl
            · exact K76.Paired.snoc (K76.Paired.mapH pd fun _ _ _ d => (d.but b7).but bD) (dt.but bD)
            · rw [List.length_append, hlen]
              rfl
            · intro z hz
              rcases List.mem_append.mp hz with q | q
              · exact okd z q
              · rw [List.mem_singleton.mp q]
                exact dok
            · refine WellAt.at (H := H7) (w7.mono (by omega)) fun o e => ?_
              rw [upd_ne Dp.symm]
              exact e
            · exact (b6.t1 b7).trans bD fun z hz => .inr (by
                rw [List.mem_singleton.mp hz]
                exact nD)
          · rintro H6 ⟨ts, ds, hD, pd, hlen, okd, w6, b6⟩
            refine ⟨(by show 2 ≤ sizeLine; decide), fun t nt => ?_⟩
            have s7 := same_new (o := .tup [.bl (decide (V.int way = V.int 4)), .ref D]) nt
            have w6' := w6.mono (d := C + 103) (by omega)
            have e7 := (e5.well hp b6 w6' (by omega)).same s7
            have x7 := (x5.but b6 fun b hb hz => pA (by rw [← List.mem_singleton.mp hz]; exact hb)).same s7
            have k7 := k3.go (((b5.t1 b6).mono fun z hz => .inl (by rw [List.mem_singleton.mp hz]; exact List.mem_append.mpr (.inr hp))).trans (But.same (F := []) s7) fun _ z => by cases z) (fun g hg => (e7.gw g hg).1.there)
            have hD7 := s7 _ _ hD
            have pd7 := K76.Paired.mapH pd fun _ _ _ d => d.but (But.same (F := []) s7)
            have ht7 := upd_same (H := H6) (a := t) (o := .tup [.bl (decide (V.int way = V.int 4)), .ref D])
            have hl7 : (upd H6 t (.tup [.bl (decide (V.int way = V.int 4)), .ref D])) l = some (.lst xs) := s7 _ _ (b6.at (fun z => e5.hs.nl.1 (by rw [List.mem_singleton.mp z]; exact List.mem_append.mpr (.inr hp))) (b5.at (fun z => e3.hs.nl.1 (by rw [List.mem_singleton.mp z]; exact List.mem_append.mpr (.inr hp))) hl3))
            show gName 10 (.ref t) _ (upd H6 t (.tup [.bl (decide (V.int way = V.int 4)), .ref D])) _
            generalize (upd H6 t (.tup [.bl (decide (V.int way = V.int 4)), .ref D])) = H7 at e7 x7 k7 hD7 pd7 ht7 hl7 ⊢
            have okc : Call.ok th ⟨decide (V.int way = V.int 4), ds⟩ := ⟨okd, by show ds.length ≤ 5; omega, fun z => by
              have := mone z
              have l1 : ds.length = 1 := by omega
              exact List.length_eq_one_iff.mp l1⟩
            refine ⟨_, rfl, _, rfl, _, rfl, _, rfl, A, h, cs, f, th, t, ⟨decide (V.int way = V.int 4), ds⟩, (fun b => b = D), rfl, x7, hi, ⟨D, ts, ht7, rfl, hD7, pd7⟩, (fun b hb hz => DA (by rw [← hb]; exact List.mem_append.mpr (.inl hz))), okc, fun A2 H8 o8 x8 st eo8 no8 na8 => ⟨(by show 2 ≤ sizeLine; decide), fun pp npp => ⟨(by show 1 ≤ sizeLine; decide), fun ll nll => ?_⟩⟩⟩
            have hl8 : H8 l = some (.lst xs) := st.but.at (fun z => e7.hs.nl.1 (List.mem_append.mpr (.inl z))) hl7
            refine ⟨l, ll, xs, _, rfl, rfl, ?_, upd_same, ?_, fun l' nl' => ⟨_, rfl, (by show 2 ≤ sizeLine; decide), fun o no => call_fin k7 st x8 e7 (by omega) hi mi most (Nat.le_refl _) okc hl7 ht7 hD7 ⟨DA, by rw [hD7]; intro z; cases z⟩ pd7 eo8 no8 na8 npp nll nl' no⟩⟩
            · exact same_new nll _ _ (same_new npp _ _ hl8)
            · rw [hxs, sizeLine_eq]
              show cs.length + 1 ≤ _
              omega
end
end K76
set_option maxRecDepth 100000
set_option maxHeartbeats 4000000
namespace K76
open PySem L2
section
variable {P : Program} {w : World} {K : PySem.W.Frag} {mg : Str → Option Value} {base : Heap} {a : Ad}

/-! ## the law -/
example : PySem.Challenge.rw_roundline_k76_whole_calls_that_stand.most = some 63 := rfl
def spLaw (K : PySem.W.Frag) : Sp := fun vs H Q _ => ∃ (a : Addr) (ns : List Int), vs = [.ref a] ∧ SqL K H a (ns.map V.int) ∧ ns.length ≤ 63 ∧ ∀ H', Q (.bl true) H' 
theorem ok_lawF (T : Txt K mg a) {fd : FuncData} (F : Fun K "law" "law" s_law a.law fd) : FnOk P w K mg base CX0 9 a.law fd ["_law_script"] (spLaw K) := by
  obtain ⟨fd_law_well, G_law_well, b_law_well, kp_law_well⟩ := ok_law_well (P := P) (w := w) (base := base) T
  obtain ⟨fd_law_things, G_law_things, b_law_things, kp_law_things⟩ := ok_law_things (P := P) (w := w) (base := base) T
  obtain ⟨fd_law_distance, G_law_distance, b_law_distance, kp_law_distance⟩ := ok_law_distance (P := P) (w := w) (base := base) T
  obtain ⟨fd_law_draw, G_law_draw, b_law_draw, kp_law_draw⟩ := ok_law_draw (P := P) (w := w) (base := base) T
  obtain ⟨fd_Line_init, G_Line_init, b_Line_init, kp_Line_init⟩ := ok_Line_init (P := P) (w := w) (base := base) T
  obtain ⟨fd_law_turn, G_law_turn, b_law_turn, kp_law_turn⟩ := ok_law_turn (P := P) (w := w) (base := base) T
  obtain ⟨fd_law_new_line, G_law_new_line, b_law_new_line, kp_law_new_line⟩ := ok_law_new_line (P := P) (w := w) (base := base) T
  obtain ⟨fd_law_stand, G_law_stand, b_law_stand, kp_law_stand⟩ := ok_law_stand (P := P) (w := w) (base := base) T
  obtain ⟨fd_law_alike, G_law_alike, b_law_alike, kp_law_alike⟩ := ok_law_alike (P := P) (w := w) (base := base) T
  obtain ⟨fd_law_same, G_law_same, b_law_same, kp_law_same⟩ := ok_law_same (P := P) (w := w) (base := base) T 4
  refine F.ok sc_law (fun vs H Q E h => ?_) (fun cdv A outer s H vs Q E hr h => ?_)
  · obtain ⟨a0, ns, rfl, _⟩ := h
    rfl
  · skip
    refine ⟨_, (pss_cons (ps_set (i := 1) sc_law.nd rfl (Or.inr rfl) (pe_call G_law_well (hr.mono (by decide)) rfl T.g_law_well kp_law_well b_law_well .nil pass0 (pa_cons (pv 0) (pa_cons pe_int pa_nil))))
      (pss_cons (ps_par (i := 2) (j := 3) rfl sc_law.nd rfl rfl (by decide) rfl rfl (pa_cons (pe_call G_law_distance (hr.mono (by decide)) rfl T.g_law_distance kp_law_distance b_law_distance .nil pass0 (pa_cons (pv 1) pa_nil)) (pa_cons (pe_call G_law_things (hr.mono (by decide)) rfl T.g_law_things kp_law_things b_law_things .nil pass0 (pa_cons (pv 1) pa_nil)) pa_nil)) (by rfl))
      (pss_cons (ps_par (i := 4) (j := 5) rfl sc_law.nd rfl rfl (by decide) rfl rfl (pa_cons (pe_lst pa_nil) (pa_cons pe_dnewK pa_nil)) (by rfl))
      (pss_cons (ps_par (i := 6) (j := 7) rfl sc_law.nd rfl rfl (by decide) rfl rfl (pa_cons (pe_make T.k_Line G_Line_init (hr.mono (by decide)) rfl T.g_Line b_Line_init .nil pass0 (pa_cons (pv 2) pa_nil)) (pa_cons (pe_lc (own := [("_law_k", 11)]) (g := gName 11) (tt := tYes) rfl sc_law.nd (pi_range1 (by rfl) T.b_range (pa_cons (pe_op op_add pe_int (pe_call G_law_draw (hr.mono (by decide)) rfl T.g_law_draw kp_law_draw b_law_draw .nil pass0 (pa_cons (pv 1) (pa_cons pe_int pa_nil)))) pa_nil)) (blkOk_by (N := ["_law_script", "_law_well_here", "_law_size", "_law_things_here", "_law_calls", "_law_marks", "_law_line", "_law_wells", "_law_spring", "_law_both", "_law_other", "_law_k"]) (sc := defScope s_law) (by decide +kernel)) (fun _ _ _ _ _ => (pg_name (i := 11) sc_law.nd rfl (Or.inl rfl))) (fun _ _ _ _ _ => pts_nil) (fun _ _ _ _ _ => (pv 1))) pa_nil)) (by rfl))
      (pss_cons (ps_expr (pe_bm PySem.F.plainAttrs_list PySem.F.slot_list_extend PySem.F.type_list_extend mt_extend (pv 7) (pa_cons (pe_lc (own := [("_law_k", 11)]) (g := gName 11) (tt := tYes) rfl sc_law.nd (pi_range2 (by rfl) T.b_range (pa_cons pe_int (pa_cons (pe_callB (call_min2 rfl) (by rfl) T.b_min (by decide +kernel) (pa_cons pe_int (pa_cons (pe_callB call_len_seq (by rfl) T.b_len (by decide +kernel) (pa_cons (pv 0) pa_nil)) pa_nil))) pa_nil))) (blkOk_by (N := ["_law_script", "_law_well_here", "_law_size", "_law_things_here", "_law_calls", "_law_marks", "_law_line", "_law_wells", "_law_spring", "_law_both", "_law_other", "_law_k"]) (sc := defScope s_law) (by decide +kernel)) (fun _ _ _ _ _ => (pg_name (i := 11) sc_law.nd rfl (Or.inl rfl))) (fun _ _ _ _ _ => pts_nil) (fun _ _ _ _ _ => (pe_call G_law_well (hr.mono (by decide)) rfl T.g_law_well kp_law_well b_law_well .nil pass0 (pa_cons (pv 0) (pa_cons (pv 11) pa_nil))))) pa_nil)))
      (pss_cons (ps_for PassesOwn.never rfl (pi_list (pv 7)) (pg_name (i := 8) sc_law.nd rfl (Or.inl rfl)) (pss_cons (ps_set (i := 9) sc_law.nd rfl (Or.inl rfl) (pe_call G_law_turn (hr.mono (by decide)) rfl T.g_law_turn kp_law_turn b_law_turn .nil pass0 (pa_cons (pv 8) (pa_cons (pv 6) (pa_cons (pv 4) (pa_cons (pv 5) (pa_cons (pv 3) pa_nil)))))))
      (pss_cons (ps_if (pt_cmp (pc_isN (pv 9)) rfl) (pss_one (ps_ret pe_bl)) pss_nil)
      (pss_one (ps_asg (pv 9) (pg_tup rfl (pgs_cons (pg_name (i := 4) sc_law.nd rfl (Or.inl rfl)) (pgs_cons (pg_name (i := 5) sc_law.nd rfl (Or.inl rfl)) pgs_nil))))))))
      (pss_cons (ps_set (i := 10) sc_law.nd rfl (Or.inl rfl) (pe_call G_law_new_line (hr.mono (by decide)) rfl T.g_law_new_line kp_law_new_line b_law_new_line .nil pass0 (pa_cons (pv 2) (pa_cons (pv 4) (pa_cons (pv 5) pa_nil)))))
      (pss_cons (ps_if (PW.pt (pw_or (pt_cmp (pc_isN (pv 10)) rfl) (pw_or1 (pt_not (pt_val (pe_call G_law_same (hr.mono (by decide)) rfl T.g_law_same kp_law_same b_law_same .nil pass0 (pa_cons (pe_call G_law_stand (hr.mono (by decide)) rfl T.g_law_stand kp_law_stand b_law_stand .nil pass0 (pa_cons (pv 10) pa_nil)) (pa_cons (pe_call G_law_stand (hr.mono (by decide)) rfl T.g_law_stand kp_law_stand b_law_stand .nil pass0 (pa_cons (pv 6) pa_nil)) pa_nil)))))))) (pss_one (ps_ret pe_bl)) pss_nil)
      (pss_one (ps_ret (pe_call G_law_alike (hr.mono (by decide)) rfl T.g_law_alike kp_law_alike b_law_alike .nil pass0 (pa_cons (pv 1) (pa_cons (pv 6) (pa_cons (pv 10) pa_nil)))))))))))))), ?_⟩
    obtain ⟨a0, ns, rfl, hS, hlen, k⟩ := h
    -- the first well
    refine ⟨_, rfl, a0, ns, 0, rfl, hS, hlen, by decide, by decide, fun p H1 np w1 s1 => ?_⟩
    refine ⟨_, rfl, p, 1, rfl, w1, by decide, fun r H2 r1 r2 w2 b2 => ?_⟩
    refine ⟨_, rfl, p, _, rfl, w2, by decide, fun tl th H3 ntl tlp tg w3 b3 => ?_⟩
    refine ⟨_, _, rfl, ?_⟩
    have sH3 : Same H H3 := Same.step s1 (b2.t1 b3) fun z hz => by rw [List.mem_singleton.mp hz]; exact np
    refine ⟨(by show 0 ≤ sizeLine; decide), fun l0 nl0 => ?_⟩
    intro m0 nm0
    refine ⟨_, _, rfl, ?_⟩
    have w5 : WellAt (upd (upd H3 l0 (.lst [])) m0 (.dK [])) p 31 := (w3.new nl0).new nm0
    have s5 : Same H3 (upd (upd H3 l0 (.lst [])) m0 (.dK [])) := fun b u z => same_new nm0 _ _ (same_new nl0 _ _ z)
    have hl5 : (upd (upd H3 l0 (.lst [])) m0 (.dK [])) l0 = some (.lst []) := same_new nm0 _ _ upd_same
    have hm5 : (upd (upd H3 l0 (.lst [])) m0 (.dK [])) m0 = some (.dK []) := upd_same
    have l0p : l0 ≠ p := w3.ne nl0
    have m0p : m0 ≠ p := (w3.new nl0).ne nm0
    have ht5 := s5 _ _ tg.at_
    clear nl0 nm0
    show tSeq _ _ _ _ (upd (upd H3 l0 (.lst [])) m0 (.dK []))
    generalize (upd (upd H3 l0 (.lst [])) m0 (.dK [])) = H5 at w5 s5 hl5 hm5 ht5 ⊢
    -- the line
    refine ⟨_, rfl, fun L dx nL ndx ne => ⟨L, dx, r, rfl, upd_same, r1, r2, fun A H6 eL x6 b6 fr6 => ⟨rfl, ?_⟩⟩⟩
    subst eL
    have nN : ∀ {b : Addr}, (upd (upd H5 dx (.own A.L)) A.L (.ins a.cLine dx [])) b = none → H5 b = none := fun {b} z => by
      cases q : H5 b with
      | none => rfl
      | some o =>
        rw [upd_ne (ne_of_none q nL), upd_ne (ne_of_none q ndx), q] at z
        cases z
    have s6 : Same H5 H6 := Same.step (F := [A.L]) (fun b o e => by rw [upd_ne (ne_of_none e nL), upd_ne (ne_of_none e ndx)]; exact e) b6 (by intro z hz; rw [List.mem_singleton.mp hz]; exact nL)
    have fr : ∀ b ∈ A.fp, H5 b = none := fun b hb => by
      rcases fr6 b hb with z | z
      · rw [z]; exact nL
      · exact nN z
    have w6 : WellAt H6 p 31 := w5.at fun o e => s6 _ _ e
    clear b6 fr6 nL ndx ne nN
    refine ⟨_, rfl, p, 16, _, rfl, by decide, ten_le (by decide), w6, by omega, fun d H7 d0 d1 w7 b7 => ⟨_, _, rfl, rfl, _, rfl, by omega, by omega, fun D nD => ?_⟩⟩
    have pA : p ∉ A.fp := fun z => w5.there (fr p z)
    have x7 := x6.but b7 fun b hb hz => pA (by rw [← List.mem_singleton.mp hz]; exact hb)
    refine lc_range (lo := 0) (n := (1 + d).toNat) (fun i H' => H' = upd H7 D (.lst ((List.replicate i p).map V.ref))) rfl ?_ ?_
    · rintro i H' hi rfl
      refine ⟨rfl, _, rfl, _, upd_same, ?_, ?_⟩
      · rw [List.length_map, List.length_replicate]
        exact small1000 (by omega)
      · rw [upd_upd, List.replicate_succ', List.map_append]
        rfl
    rintro H' rfl
    refine ⟨_, _, rfl, ?_⟩
    have s8 : Same H7 (upd H7 D (.lst ((List.replicate (1 + d).toNat p).map V.ref))) := same_new nD
    have hD8 : (upd H7 D (.lst ((List.replicate (1 + d).toNat p).map V.ref))) D = some (.lst ((List.replicate (1 + d).toNat p).map V.ref)) := upd_same
    show tSeq _ _ _ _ (upd H7 D (.lst ((List.replicate (1 + d).toNat p).map V.ref)))
    generalize (upd H7 D (.lst ((List.replicate (1 + d).toNat p).map V.ref))) = H8 at s8 hD8 ⊢
    have sq8 : SqL K H8 a0 (ns.map V.int) := by
      refine Same.seq (fun b u z => s8 _ _ (b7.at ?_ (s6 _ _ (s5 _ _ (sH3 _ _ z))))) hS
      intro q
      rw [List.mem_singleton.mp q, np] at z
      cases z
    -- the other wells
    have em : (if ((ns.map V.int).length : Int) < 63 then ((ns.map V.int).length : Int) else 63) = (ns.length : Int) := by
      rw [List.length_map]
      split <;> omega
    refine ⟨_, rfl, .inl ⟨rfl, _, SqL.of hD8⟩, ?_⟩
    refine ⟨_, rfl, a0, _, rfl, .inl sq8, _, _, rfl, _, _, rfl, (by rw [em]; omega), fun D2 nD2 => ?_⟩
    rw [em]
    have D2D : D ≠ D2 := ne_of_none hD8 nD2
    refine lc_range (lo := 1) (n := ((ns.length : Int) - 1).toNat) (fun i H' => ∃ gs : List Addr, H' D2 = some (.lst (gs.map V.ref)) ∧ gs.length = i ∧ (∀ g ∈ gs, WellAt H' g 1 ∧ H8 g = none ∧ g ≠ D2) ∧ Same H8 H')
      ⟨[], upd_same, rfl, (fun g hg => by cases hg), same_new nD2⟩ ?_ ?_
    · rintro i H' hi ⟨gs, hD2, hl, hg, sm⟩
      refine ⟨rfl, ?_⟩
      refine ⟨_, rfl, _, rfl, a0, ns, 1 + (i : Int), rfl, sm.seq sq8, hlen, by omega, by omega, fun g H2 ng wg sg => ?_⟩
      have hD2' := sg _ _ hD2
      have gD2 : g ≠ D2 := fun z => by
        rw [z, hD2] at ng
        cases ng
      have g8 : H8 g = none := by
        cases q : H8 g with
        | none => rfl
        | some o => rw [sm _ _ q] at ng; cases ng
      have at2 : ∀ {z c}, z ≠ D2 → WellAt H2 z c → WellAt (upd H2 D2 (.lst (gs.map V.ref ++ [.ref g]))) z c := fun {z c} n w => w.at fun o e => by rw [upd_ne n]; exact e
      refine ⟨_, hD2', small1000 (by rw [List.length_map]; omega), gs ++ [g], ?_, ?_, ?_, ?_⟩
      · rw [upd_same, List.map_append]
        rfl
      · rw [List.length_append, hl]
        rfl
      · intro z hz
        rcases List.mem_append.mp hz with q | q
        · obtain ⟨h1, h2, h3⟩ := hg z q
          exact ⟨at2 h3 (h1.at fun o e => sg _ _ e), h2, h3⟩
        · rw [List.mem_singleton.mp q]
          exact ⟨at2 gD2 wg, g8, gD2⟩
      · intro b u z
        rw [upd_ne (ne_of_none z nD2)]
        exact sg _ _ (sm _ _ z)
    rintro H9 ⟨gs, hD2, hgl, hg, s9⟩
    refine ⟨D, D2, _, _, rfl, rfl, s9 _ _ hD8, hD2, ?_, ?_⟩
    · rw [List.length_map, List.length_map, List.length_replicate, sizeLine_eq]
      omega
    rw [← List.map_append]
    -- all the wells
    have hws : ∀ z ∈ List.replicate (1 + d).toNat p ++ gs, z ∈ p :: gs := fun z hz => by
      rcases List.mem_append.mp hz with q | q
      · rw [(List.mem_replicate.mp q).2]
        exact List.mem_cons_self
      · exact List.mem_cons_of_mem _ q
    have lws : (List.replicate (1 + d).toNat p ++ gs).length ≤ 78 := by
      rw [List.length_append, List.length_replicate]
      omega
    generalize List.replicate (1 + d).toNat p ++ gs = ws at hws lws ⊢
    have pD : p ≠ D := fun z => w7.there (by rw [z]; exact nD)
    have keep9 : ∀ z o, z ≠ p → H5 z = some o → H9 z = some o := fun z o n e => s9 _ _ (s8 _ _ (b7.at (by simp [n]) (s6 _ _ e)))
    have keepA : ∀ z o, z ≠ p → H5 z = some o → (upd H9 D (.lst (ws.map V.ref))) z = some o ∧ z ∉ A.fp ++ (p :: gs) := fun z o n e => by
      have e7 : H7 z = some o := b7.at (by simp [n]) (s6 _ _ e)
      refine ⟨by rw [upd_ne (ne_of_none e7 nD)]; exact keep9 z o n e, fun hz => ?_⟩
      rcases List.mem_append.mp hz with q | q
      · rw [fr z q] at e
        cases e
      · rcases List.mem_cons.mp q with q | q
        · exact n q
        · have := (hg z q).2.1
          rw [s8 _ _ e7] at this
          cases this
    have DA : D ∉ A.fp := fun z => by
      obtain ⟨o, e, _⟩ := x7.noTup D z
      rw [nD] at e
      cases e
    have Dgs : D ∉ gs := fun z => by
      have := (hg D z).2.1
      rw [hD8] at this
      cases this
    have x9 : LineAt a.cLine a.cLineWork (upd H9 D (.lst (ws.map V.ref))) A r [] (fun _ => none) := ((x7.same s8).same s9).lock DA (s9 _ _ hD8) (fun xs z => by cases z)
    have w9 : ∀ g ∈ p :: gs, WellAt (upd H9 D (.lst (ws.map V.ref))) g 100 ∧ g ∉ A.fp := fun g hgm => by
      rcases List.mem_cons.mp hgm with q | q
      · rw [q]
        exact ⟨(w7.mono (by omega)).at fun o e => by rw [upd_ne pD]; exact s9 _ _ (s8 _ _ e), pA⟩
      · obtain ⟨h1, h2, h3⟩ := hg g q
        refine ⟨(h1.mono (by omega)).at fun o e => by rw [upd_ne (fun z => Dgs (by rw [← z]; exact q))]; exact e, fun z => ?_⟩
        obtain ⟨o, e, _⟩ := x7.noTup g z
        rw [s8 _ _ e] at h2
        cases h2
    obtain ⟨l9, lF⟩ := keepA l0 _ l0p hl5
    obtain ⟨m9, mF⟩ := keepA m0 _ m0p hm5
    obtain ⟨t9, tF⟩ := keepA tl _ tlp ht5
    have e9 : Beside (upd H9 D (.lst (ws.map V.ref))) (p :: gs) A l0 m0 tl r [] (fun _ => none) th 100 :=
      ⟨⟨[], ⟨lF, by rw [l9]; intro z; cases z⟩, l9, rfl, fun i q c h1 h2 => by cases h2⟩, ⟨[], m9, List.nodup_nil, (fun q hq => by cases hq), fun _ => rfl⟩, ⟨mF, by rw [m9]; intro z; cases z⟩, ⟨t9, tg.ne, tg.few, tg.all⟩, ⟨tF, by rw [t9]; intro z; cases z⟩, w9⟩
    have hD9 : (upd H9 D (.lst (ws.map V.ref))) D = some (.lst (ws.map V.ref)) := upd_same
    have dD9 : Dt (A.fp ++ (p :: gs)) (upd H9 D (.lst (ws.map V.ref))) D := by
      refine ⟨fun z => ?_, by rw [hD9]; intro z; cases z⟩
      rcases List.mem_append.mp z with q | q
      · exact DA q
      · rcases List.mem_cons.mp q with q | q
        · exact pD q.symm
        · exact Dgs q
    clear keep9 keepA l9 lF m9 mF t9 tF w9
    show tSeq _ _ _ _ (upd H9 D (.lst (ws.map V.ref)))
    generalize (upd H9 D (.lst (ws.map V.ref))) = HA at x9 e9 hD9 dD9 ⊢
    have h0 : Hist th r [] := ⟨r1, r2, tg.few, (fun c hc => by cases hc), Nat.zero_le _⟩
    refine ⟨_, rfl, D, rfl, ⟨_, SqL.of hD9⟩, for_list (K := K) (a := D) (xs := ws.map V.ref) (fun i σ H' => ∃ (A' : LA) (l m : Addr) (cs : List Call) (f : Str → Option Nat) (v8 v9 v10 v11 : Option V), A'.L = A.L ∧ σ = [some (.ref a0), some (.ref p), some (.int r), some (.ref tl), some (.ref l), some (.ref m), some (.ref A.L), some (.ref D), v8, v9, v10, v11] ∧
        LineAt a.cLine a.cLineWork H' A' r cs f ∧ Hist th r cs ∧ MarksIn f cs.length ∧ Beside H' (p :: gs) A' l m tl r cs f th (100 + 200 * i) ∧ cs.length ≤ i ∧ H' D = some (.lst (ws.map V.ref)) ∧ Dt (A'.fp ++ (p :: gs)) H' D)
      ⟨A, l0, m0, [], fun _ => none, none, none, none, none, rfl, rfl, x9, h0, (fun z j e => by cases e), e9, Nat.le_refl _, hD9, dD9⟩ (fun i σ H' _ ⟨_, _, _, _, _, _, _, _, _, _, _, _, _, _, _, _, hD, _⟩ => SqL.of hD) ?_ ?_⟩
    · rintro i x σ H' hx ⟨A1, l, m, cs, f, v8, v9, v10, v11, eA, rfl, x1, hi, mi, en, le, hD, dD⟩
      have hil : i < ws.length := by
        have := (List.getElem?_eq_some_iff.mp hx).1
        rwa [List.length_map] at this
      obtain ⟨g, hgm, rfl⟩ : ∃ g, g ∈ p :: gs ∧ x = V.ref g := by
        have := List.mem_of_getElem? hx
        obtain ⟨g, h1, h2⟩ := List.mem_map.mp this
        exact ⟨g, hws g h1, h2.symm⟩
      refine ⟨_, rfl, _, rfl, _, rfl, _, rfl, _, rfl, p :: gs, A1, g, l, m, tl, r, cs, f, th, _, (by rw [eA]; rfl), hgm, x1, hi, mi, en, by omega, by omega, fun A2 l2 m2 o cs2 f2 H2 x2 hi2 mi2 en2 le2 eL2 ho b2 fr2 => ?_⟩
      refine ⟨_, rfl, _, rfl, iteF ?_⟩
      refine ⟨_, rfl, o, _, rfl, SqT.of ho, rfl, _, _, rfl, _, _, rfl, rfl, A2, l2, m2, cs2, f2, _, _, _, _, eL2.trans eA, rfl, x2, hi2, mi2, en2.up (by omega), by omega, dD.at b2 (fun _ z => z) hD, dD.to b2 (fun _ z => z) fun y hy => ?_⟩
      rcases List.mem_append.mp hy with q | q
      · rcases fr2 y q with q | q
        · exact .inl (List.mem_append.mpr (.inl q))
        · exact .inr q
      · exact .inl (List.mem_append.mpr (.inr q))
    · rintro σ H' ⟨A1, l, m, cs, f, v8, v9, v10, v11, eA, rfl, x1, hi, mi, en, le, hD, dD⟩
      rw [List.length_map] at le en
      have hp : p ∈ p :: gs := List.mem_cons_self
      obtain ⟨wp, pA1⟩ := en.gw p hp
      refine ⟨_, rfl, _, rfl, _, rfl, l, m, r, cs, f, th, rfl, en.hs.keep (fun _ q => q.2) (fun _ _ _ e => e) (But.refl (F := [])), en.mks, mi, hi, fun B H2 xB sB frB => ?_⟩
      refine ⟨_, rfl, _, rfl, iteF ?_⟩
      have ab : ∀ b ∈ A1.fp, b ∉ B.fp := fun b h1 h2 => by
        obtain ⟨o, e, _⟩ := x1.noTup b h1
        rw [frB b h2] at e
        cases e
      have pB : p ∉ B.fp := fun z => wp.there (frB p z)
      have xA2 := x1.same sB
      have w2 : WellAt H2 p (100 + 200 * ws.length) := wp.at fun o e => sB _ _ e
      refine ⟨_, rfl, B, r, cs, f, th, rfl, xB, hi, fun H3 o1 xB3 s3 t1 => ?_⟩
      obtain ⟨xA3, _⟩ := xA2.other s3 fun b h1 h2 => ab b h2 h1
      have w3 := (w2.other s3 pB).1
      refine ⟨_, rfl, A1, r, cs, f, th, (by rw [eA]; rfl), xA3, hi, fun H4 o2 xA4 s4 t2 => ?_⟩
      obtain ⟨xB4, _⟩ := xB3.other s4 ab
      have w4 := (w3.other s4 pA1).1
      refine ⟨_, _, standT r cs, _, _, rfl, t1.keep (N' := fun b => H2 b = none) (fun _ n => n) (fun b xs n e => s4.but.at (fun hb => by
        obtain ⟨o, e, _⟩ := xA2.noTup b hb
        rw [n] at e
        cases e) e) (fun b xs e => s4.but.tup e), t2, standT_wd hi, fun H5 s5 => ⟨true, rfl, iteF ?_⟩⟩
      refine ⟨_, rfl, _, rfl, _, rfl, A1, B, p, _, r, cs, f, th, (by rw [eA]; rfl), xA4.same s5, xB4.same s5, ab, pA1, pB, w4.at (fun o e => s5 _ _ e), by omega, hi, mi, by omega, fun H6 => k H6⟩
end
end K76
set_option maxRecDepth 100000
set_option maxHeartbeats 4000000
namespace K76
open PySem L2
section
variable {P : Program} {w : World} {K : PySem.W.Frag} {mg : Str → Option Value} {base : Heap} {a : Ad}

/-! ## what the top has written; the end -/
theorem exm_mk {K : PySem.W.Frag} {S : Addr} {cls : Value} {b : Bool} (h1 : PySem.W.subIn K (.ref S) (.type "BaseException") = some true) (h2 : PySem.W.isClsIn K S = true) (h3 : PySem.W.typeIn K (.ref S) = some (.type "type")) (h4 : PySem.W.subIn K cls (.ref S) = some b) :
    PySem.W.exmOne K cls (.ref S) = some b := by
  have e1 : (PySem.W.subIn K (.ref S) (.type "BaseException") == some true) = true := by rw [h1] <;> rfl
  have e2 : ((PySem.W.clsIn K S).isSome && PySem.W.typeIn K (.ref S) == some (.type "type")) = true := by
    have h2' : (PySem.W.clsIn K S).isSome = true := h2
    rw [h2', h3] <;> rfl
  show (if (PySem.W.subIn K (.ref S) (.type "BaseException") == some true) = true then (if ((PySem.W.clsIn K S).isSome && PySem.W.typeIn K (.ref S) == some (.type "type")) = true then PySem.W.subIn K cls (.ref S) else none) else none) = some b
  rw [if_pos e1, if_pos e2]
  exact h4
theorem all_mk {l : PySem.W.OpenLaw} {w : World} {K : PySem.W.Frag} {h : Heap} {mg : Str → Option Value} {fa : Addr} (X : K.In h) (G : h.Ns mainGlobals mg) (hfa : mg "law" = some (.ref fa))
    {cLineWork cLine cPlan cNothingToUndo cNoMark x_NoMark_init x_is_whole x_is_thing x_is_window x_is_distance x_is_length x_is_plain_deed x_is_deed x_LineWork_init x_LineWork_spot_at x_LineWork_thing_at x_LineWork_shift x_LineWork_tell x_LineWork_look x_LineWork_peg x_LineWork_hang x_LineWork_fetch x_LineWork_walk x_LineWork_times_to x_Line_init x_Line_distance p_Line_distance x_Line_turn p_Line_turn x_Line_pulled : Addr}
    {p_Line_pulled x_Line_len x_Line_remember x_Line_do x_Line_do_plan x_Line_undo x_Line_mark x_Line_back_to x_Line_things x_Line_at x_Plan_init x_Plan_deeds x_law_well x_law_draw x_law_pick x_law_things x_law_plain x_law_deed x_law_distance x_law_same x_law_stand x_law_made x_law_went x_law_new_line x_law_kept x_law_alike x_law_turn x_law tD tE : Addr}
    {cWIN cLE nsM : Addr}
    {oc_NoMark_init kV_NoMark_init dc_NoMark_init pm_NoMark_init cd_NoMark_init ct_NoMark_init oc_is_whole kV_is_whole dc_is_whole pm_is_whole cd_is_whole ct_is_whole oc_is_thing kV_is_thing dc_is_thing pm_is_thing cd_is_thing ct_is_thing oc_is_window kV_is_window dc_is_window pm_is_window cd_is_window ct_is_window oc_is_distance kV_is_distance dc_is_distance pm_is_distance cd_is_distance ct_is_distance : Value}
    {oc_is_length kV_is_length dc_is_length pm_is_length cd_is_length ct_is_length oc_is_plain_deed kV_is_plain_deed dc_is_plain_deed pm_is_plain_deed cd_is_plain_deed ct_is_plain_deed oc_is_deed kV_is_deed dc_is_deed pm_is_deed cd_is_deed ct_is_deed oc_LineWork_init kV_LineWork_init dc_LineWork_init pm_LineWork_init cd_LineWork_init ct_LineWork_init oc_LineWork_spot_at kV_LineWork_spot_at dc_LineWork_spot_at pm_LineWork_spot_at cd_LineWork_spot_at ct_LineWork_spot_at : Value}
    {oc_LineWork_thing_at kV_LineWork_thing_at dc_LineWork_thing_at pm_LineWork_thing_at cd_LineWork_thing_at ct_LineWork_thing_at oc_LineWork_shift kV_LineWork_shift dc_LineWork_shift pm_LineWork_shift cd_LineWork_shift ct_LineWork_shift oc_LineWork_tell kV_LineWork_tell dc_LineWork_tell pm_LineWork_tell cd_LineWork_tell ct_LineWork_tell oc_LineWork_look kV_LineWork_look dc_LineWork_look pm_LineWork_look cd_LineWork_look ct_LineWork_look oc_LineWork_peg kV_LineWork_peg dc_LineWork_peg pm_LineWork_peg cd_LineWork_peg ct_LineWork_peg : Value}
    {oc_LineWork_hang kV_LineWork_hang dc_LineWork_hang pm_LineWork_hang cd_LineWork_hang ct_LineWork_hang oc_LineWork_fetch kV_LineWork_fetch dc_LineWork_fetch pm_LineWork_fetch cd_LineWork_fetch ct_LineWork_fetch oc_LineWork_walk kV_LineWork_walk dc_LineWork_walk pm_LineWork_walk cd_LineWork_walk ct_LineWork_walk oc_LineWork_times_to kV_LineWork_times_to dc_LineWork_times_to pm_LineWork_times_to cd_LineWork_times_to ct_LineWork_times_to oc_Line_init kV_Line_init dc_Line_init pm_Line_init cd_Line_init ct_Line_init : Value}
    {oc_Line_distance kV_Line_distance dc_Line_distance pm_Line_distance cd_Line_distance ct_Line_distance oc_Line_turn kV_Line_turn dc_Line_turn pm_Line_turn cd_Line_turn ct_Line_turn oc_Line_pulled kV_Line_pulled dc_Line_pulled pm_Line_pulled cd_Line_pulled ct_Line_pulled oc_Line_len kV_Line_len dc_Line_len pm_Line_len cd_Line_len ct_Line_len oc_Line_remember kV_Line_remember dc_Line_remember pm_Line_remember cd_Line_remember ct_Line_remember : Value}
    {oc_Line_do kV_Line_do dc_Line_do pm_Line_do cd_Line_do ct_Line_do oc_Line_do_plan kV_Line_do_plan dc_Line_do_plan pm_Line_do_plan cd_Line_do_plan ct_Line_do_plan oc_Line_undo kV_Line_undo dc_Line_undo pm_Line_undo cd_Line_undo ct_Line_undo oc_Line_mark kV_Line_mark dc_Line_mark pm_Line_mark cd_Line_mark ct_Line_mark oc_Line_back_to kV_Line_back_to dc_Line_back_to pm_Line_back_to cd_Line_back_to ct_Line_back_to : Value}
    {oc_Line_things kV_Line_things dc_Line_things pm_Line_things cd_Line_things ct_Line_things oc_Line_at kV_Line_at dc_Line_at pm_Line_at cd_Line_at ct_Line_at oc_Plan_init kV_Plan_init dc_Plan_init pm_Plan_init cd_Plan_init ct_Plan_init oc_Plan_deeds kV_Plan_deeds dc_Plan_deeds pm_Plan_deeds cd_Plan_deeds ct_Plan_deeds oc_law_well kV_law_well dc_law_well pm_law_well cd_law_well ct_law_well : Value}
    {oc_law_draw kV_law_draw dc_law_draw pm_law_draw cd_law_draw ct_law_draw oc_law_pick kV_law_pick dc_law_pick pm_law_pick cd_law_pick ct_law_pick oc_law_things kV_law_things dc_law_things pm_law_things cd_law_things ct_law_things oc_law_plain kV_law_plain dc_law_plain pm_law_plain cd_law_plain ct_law_plain oc_law_deed kV_law_deed dc_law_deed pm_law_deed cd_law_deed ct_law_deed : Value}
    {oc_law_distance kV_law_distance dc_law_distance pm_law_distance cd_law_distance ct_law_distance oc_law_same kV_law_same dc_law_same pm_law_same cd_law_same ct_law_same oc_law_stand kV_law_stand dc_law_stand pm_law_stand cd_law_stand ct_law_stand oc_law_made kV_law_made dc_law_made pm_law_made cd_law_made ct_law_made oc_law_went kV_law_went dc_law_went pm_law_went cd_law_went ct_law_went : Value}
    {oc_law_new_line kV_law_new_line dc_law_new_line pm_law_new_line cd_law_new_line ct_law_new_line oc_law_kept kV_law_kept dc_law_kept pm_law_kept cd_law_kept ct_law_kept oc_law_alike kV_law_alike dc_law_alike pm_law_alike cd_law_alike ct_law_alike oc_law_turn kV_law_turn dc_law_turn pm_law_turn cd_law_turn ct_law_turn oc_law kV_law dc_law pm_law cd_law ct_law : Value}
    {ocD : Value}
    {od_NoMark_init an_NoMark_init od_is_whole an_is_whole od_is_thing an_is_thing od_is_window an_is_window od_is_distance an_is_distance od_is_length an_is_length od_is_plain_deed an_is_plain_deed od_is_deed an_is_deed od_LineWork_init an_LineWork_init od_LineWork_spot_at an_LineWork_spot_at od_LineWork_thing_at an_LineWork_thing_at od_LineWork_shift an_LineWork_shift od_LineWork_tell an_LineWork_tell od_LineWork_look an_LineWork_look od_LineWork_peg an_LineWork_peg : Option Addr}
    {od_LineWork_hang an_LineWork_hang od_LineWork_fetch an_LineWork_fetch od_LineWork_walk an_LineWork_walk od_LineWork_times_to an_LineWork_times_to od_Line_init an_Line_init od_Line_distance an_Line_distance od_Line_turn an_Line_turn od_Line_pulled an_Line_pulled od_Line_len an_Line_len od_Line_remember an_Line_remember od_Line_do an_Line_do od_Line_do_plan an_Line_do_plan od_Line_undo an_Line_undo od_Line_mark an_Line_mark od_Line_back_to an_Line_back_to : Option Addr}
    {od_Line_things an_Line_things od_Line_at an_Line_at od_Plan_init an_Plan_init od_Plan_deeds an_Plan_deeds od_law_well an_law_well od_law_draw an_law_draw od_law_pick an_law_pick od_law_things an_law_things od_law_plain an_law_plain od_law_deed an_law_deed od_law_distance an_law_distance od_law_same an_law_same od_law_stand an_law_stand od_law_made an_law_made od_law_went an_law_went : Option Addr}
    {od_law_new_line an_law_new_line od_law_kept an_law_kept od_law_alike an_law_alike od_law_turn an_law_turn od_law an_law odD odW ddM : Option Addr}
    {sl_NoMark_init sl_is_whole sl_is_thing sl_is_window sl_is_distance sl_is_length sl_is_plain_deed sl_is_deed sl_LineWork_init sl_LineWork_spot_at sl_LineWork_thing_at sl_LineWork_shift sl_LineWork_tell sl_LineWork_look sl_LineWork_peg sl_LineWork_hang sl_LineWork_fetch sl_LineWork_walk sl_LineWork_times_to sl_Line_init sl_Line_distance sl_Line_turn sl_Line_pulled sl_Line_len sl_Line_remember sl_Line_do sl_Line_do_plan sl_Line_undo sl_Line_mark sl_Line_back_to : Array (Option Value)}
    {sl_Line_things sl_Line_at sl_Plan_init sl_Plan_deeds sl_law_well sl_law_draw sl_law_pick sl_law_things sl_law_plain sl_law_deed sl_law_distance sl_law_same sl_law_stand sl_law_made sl_law_went sl_law_new_line sl_law_kept sl_law_alike sl_law_turn sl_law slD slW : Array (Option Value)}
    {rest_Line_distance rest_Line_turn rest_Line_pulled : List Value} {nD nW : Nat} {tL tW1 tW2 t_LONGEST_THING t_GREATEST_DISTANCE t_GREATEST_PULL t_GREATEST_STEP t_MOST_DEEDS : Tok} {nmM qM : Str} {bsM subM : List Value} {snM : List Str} {abM : Bool} {colM : Option Bool} {m0 m1 m2 m3 m5 : Option Value}
    (aC_LineWork : PySem.W.nsIn K mainGlobals "LineWork" = some (some (.ref cLineWork)))
    (aC_Line : PySem.W.nsIn K mainGlobals "Line" = some (some (.ref cLine)))
    (aC_Plan : PySem.W.nsIn K mainGlobals "Plan" = some (some (.ref cPlan)))
    (aC_NothingToUndo : PySem.W.nsIn K mainGlobals "NothingToUndo" = some (some (.ref cNothingToUndo)))
    (aC_NoMark : PySem.W.nsIn K mainGlobals "NoMark" = some (some (.ref cNoMark)))
    (a_NoMark_init : PySem.W.findIn K (.ref cNoMark) "__init__" = some (some (.ref x_NoMark_init)))
    (l_NoMark_init : K.lookup x_NoMark_init = some ⟨oc_NoMark_init, od_NoMark_init, .func (PySem.W.fnOf "__init__" "NoMark.__init__" (defArgs s_NoMark_init) (defBody s_NoMark_init) (defScope s_NoMark_init) .none kV_NoMark_init dc_NoMark_init pm_NoMark_init an_NoMark_init cd_NoMark_init ct_NoMark_init), sl_NoMark_init⟩)
    (c_NoMark_init : PySem.W.codeIn K cd_NoMark_init "NoMark.__init__" = true)
    (k_NoMark_init : PySem.W.keepIn K (.ref x_NoMark_init) = true)
    (a_is_whole : PySem.W.nsIn K mainGlobals "is_whole" = some (some (.ref x_is_whole)))
    (l_is_whole : K.lookup x_is_whole = some ⟨oc_is_whole, od_is_whole, .func (PySem.W.fnOf "is_whole" "is_whole" (defArgs s_is_whole) (defBody s_is_whole) (defScope s_is_whole) .none kV_is_whole dc_is_whole pm_is_whole an_is_whole cd_is_whole ct_is_whole), sl_is_whole⟩)
    (c_is_whole : PySem.W.codeIn K cd_is_whole "is_whole" = true)
    (k_is_whole : PySem.W.keepIn K (.ref x_is_whole) = true)
    (a_is_thing : PySem.W.nsIn K mainGlobals "is_thing" = some (some (.ref x_is_thing)))
    (l_is_thing : K.lookup x_is_thing = some ⟨oc_is_thing, od_is_thing, .func (PySem.W.fnOf "is_thing" "is_thing" (defArgs s_is_thing) (defBody s_is_thing) (defScope s_is_thing) .none kV_is_thing dc_is_thing pm_is_thing an_is_thing cd_is_thing ct_is_thing), sl_is_thing⟩)
    (c_is_thing : PySem.W.codeIn K cd_is_thing "is_thing" = true)
    (k_is_thing : PySem.W.keepIn K (.ref x_is_thing) = true)
    (a_is_window : PySem.W.nsIn K mainGlobals "is_window" = some (some (.ref x_is_window)))
    (l_is_window : K.lookup x_is_window = some ⟨oc_is_window, od_is_window, .func (PySem.W.fnOf "is_window" "is_window" (defArgs s_is_window) (defBody s_is_window) (defScope s_is_window) .none kV_is_window dc_is_window pm_is_window an_is_window cd_is_window ct_is_window), sl_is_window⟩)
    (c_is_window : PySem.W.codeIn K cd_is_window "is_window" = true)
    (k_is_window : PySem.W.keepIn K (.ref x_is_window) = true)
    (a_is_distance : PySem.W.nsIn K mainGlobals "is_distance" = some (some (.ref x_is_distance)))
    (l_is_distance : K.lookup x_is_distance = some ⟨oc_is_distance, od_is_distance, .func (PySem.W.fnOf "is_distance" "is_distance" (defArgs s_is_distance) (defBody s_is_distance) (defScope s_is_distance) .none kV_is_distance dc_is_distance pm_is_distance an_is_distance cd_is_distance ct_is_distance), sl_is_distance⟩)
    (c_is_distance : PySem.W.codeIn K cd_is_distance "is_distance" = true)
    (k_is_distance : PySem.W.keepIn K (.ref x_is_distance) = true)
    (a_is_length : PySem.W.nsIn K mainGlobals "is_length" = some (some (.ref x_is_length)))
    (l_is_length : K.lookup x_is_length = some ⟨oc_is_length, od_is_length, .func (PySem.W.fnOf "is_length" "is_length" (defArgs s_is_length) (defBody s_is_length) (defScope s_is_length) .none kV_is_length dc_is_length pm_is_length an_is_length cd_is_length ct_is_length), sl_is_length⟩)
    (c_is_length : PySem.W.codeIn K cd_is_length "is_length" = true)
    (k_is_length : PySem.W.keepIn K (.ref x_is_length) = true)
    (a_is_plain_deed : PySem.W.nsIn K mainGlobals "is_plain_deed" = some (some (.ref x_is_plain_deed)))
    (l_is_plain_deed : K.lookup x_is_plain_deed = some ⟨oc_is_plain_deed, od_is_plain_deed, .func (PySem.W.fnOf "is_plain_deed" "is_plain_deed" (defArgs s_is_plain_deed) (defBody s_is_plain_deed) (defScope s_is_plain_deed) .none kV_is_plain_deed dc_is_plain_deed pm_is_plain_deed an_is_plain_deed cd_is_plain_deed ct_is_plain_deed), sl_is_plain_deed⟩)
    (c_is_plain_deed : PySem.W.codeIn K cd_is_plain_deed "is_plain_deed" = true)
    (k_is_plain_deed : PySem.W.keepIn K (.ref x_is_plain_deed) = true)
    (a_is_deed : PySem.W.nsIn K mainGlobals "is_deed" = some (some (.ref x_is_deed)))
    (l_is_deed : K.lookup x_is_deed = some ⟨oc_is_deed, od_is_deed, .func (PySem.W.fnOf "is_deed" "is_deed" (defArgs s_is_deed) (defBody s_is_deed) (defScope s_is_deed) .none kV_is_deed dc_is_deed pm_is_deed an_is_deed cd_is_deed ct_is_deed), sl_is_deed⟩)
    (c_is_deed : PySem.W.codeIn K cd_is_deed "is_deed" = true)
    (k_is_deed : PySem.W.keepIn K (.ref x_is_deed) = true)
    (a_LineWork_init : PySem.W.findIn K (.ref cLineWork) "__init__" = some (some (.ref x_LineWork_init)))
    (i_LineWork_init : PySem.W.isFn K (.ref x_LineWork_init) = true)
    (l_LineWork_init : K.lookup x_LineWork_init = some ⟨oc_LineWork_init, od_LineWork_init, .func (PySem.W.fnOf "__init__" "LineWork.__init__" (defArgs s_LineWork_init) (defBody s_LineWork_init) (defScope s_LineWork_init) .none kV_LineWork_init dc_LineWork_init pm_LineWork_init an_LineWork_init cd_LineWork_init ct_LineWork_init), sl_LineWork_init⟩)
    (c_LineWork_init : PySem.W.codeIn K cd_LineWork_init "LineWork.__init__" = true)
    (k_LineWork_init : PySem.W.keepIn K (.ref x_LineWork_init) = true)
    (a_LineWork_spot_at : PySem.W.findIn K (.ref cLineWork) "spot_at" = some (some (.ref x_LineWork_spot_at)))
    (i_LineWork_spot_at : PySem.W.isFn K (.ref x_LineWork_spot_at) = true)
    (l_LineWork_spot_at : K.lookup x_LineWork_spot_at = some ⟨oc_LineWork_spot_at, od_LineWork_spot_at, .func (PySem.W.fnOf "spot_at" "LineWork.spot_at" (defArgs s_LineWork_spot_at) (defBody s_LineWork_spot_at) (defScope s_LineWork_spot_at) .none kV_LineWork_spot_at dc_LineWork_spot_at pm_LineWork_spot_at an_LineWork_spot_at cd_LineWork_spot_at ct_LineWork_spot_at), sl_LineWork_spot_at⟩)
    (c_LineWork_spot_at : PySem.W.codeIn K cd_LineWork_spot_at "LineWork.spot_at" = true)
    (k_LineWork_spot_at : PySem.W.keepIn K (.ref x_LineWork_spot_at) = true)
    (a_LineWork_thing_at : PySem.W.findIn K (.ref cLineWork) "thing_at" = some (some (.ref x_LineWork_thing_at)))
    (i_LineWork_thing_at : PySem.W.isFn K (.ref x_LineWork_thing_at) = true)
    (l_LineWork_thing_at : K.lookup x_LineWork_thing_at = some ⟨oc_LineWork_thing_at, od_LineWork_thing_at, .func (PySem.W.fnOf "thing_at" "LineWork.thing_at" (defArgs s_LineWork_thing_at) (defBody s_LineWork_thing_at) (defScope s_LineWork_thing_at) .none kV_LineWork_thing_at dc_LineWork_thing_at pm_LineWork_thing_at an_LineWork_thing_at cd_LineWork_thing_at ct_LineWork_thing_at), sl_LineWork_thing_at⟩)
    (c_LineWork_thing_at : PySem.W.codeIn K cd_LineWork_thing_at "LineWork.thing_at" = true)
    (k_LineWork_thing_at : PySem.W.keepIn K (.ref x_LineWork_thing_at) = true)
    (a_LineWork_shift : PySem.W.findIn K (.ref cLineWork) "shift" = some (some (.ref x_LineWork_shift)))
    (i_LineWork_shift : PySem.W.isFn K (.ref x_LineWork_shift) = true)
    (l_LineWork_shift : K.lookup x_LineWork_shift = some ⟨oc_LineWork_shift, od_LineWork_shift, .func (PySem.W.fnOf "shift" "LineWork.shift" (defArgs s_LineWork_shift) (defBody s_LineWork_shift) (defScope s_LineWork_shift) .none kV_LineWork_shift dc_LineWork_shift pm_LineWork_shift an_LineWork_shift cd_LineWork_shift ct_LineWork_shift), sl_LineWork_shift⟩)
    (c_LineWork_shift : PySem.W.codeIn K cd_LineWork_shift "LineWork.shift" = true)
    (k_LineWork_shift : PySem.W.keepIn K (.ref x_LineWork_shift) = true)
    (a_LineWork_tell : PySem.W.findIn K (.ref cLineWork) "tell" = some (some (.ref x_LineWork_tell)))
    (i_LineWork_tell : PySem.W.isFn K (.ref x_LineWork_tell) = true)
    (l_LineWork_tell : K.lookup x_LineWork_tell = some ⟨oc_LineWork_tell, od_LineWork_tell, .func (PySem.W.fnOf "tell" "LineWork.tell" (defArgs s_LineWork_tell) (defBody s_LineWork_tell) (defScope s_LineWork_tell) .none kV_LineWork_tell dc_LineWork_tell pm_LineWork_tell an_LineWork_tell cd_LineWork_tell ct_LineWork_tell), sl_LineWork_tell⟩)
    (c_LineWork_tell : PySem.W.codeIn K cd_LineWork_tell "LineWork.tell" = true)
    (k_LineWork_tell : PySem.W.keepIn K (.ref x_LineWork_tell) = true)
    (a_LineWork_look : PySem.W.findIn K (.ref cLineWork) "look" = some (some (.ref x_LineWork_look)))
    (i_LineWork_look : PySem.W.isFn K (.ref x_LineWork_look) = true)
    (l_LineWork_look : K.lookup x_LineWork_look = some ⟨oc_LineWork_look, od_LineWork_look, .func (PySem.W.fnOf "look" "LineWork.look" (defArgs s_LineWork_look) (defBody s_LineWork_look) (defScope s_LineWork_look) .none kV_LineWork_look dc_LineWork_look pm_LineWork_look an_LineWork_look cd_LineWork_look ct_LineWork_look), sl_LineWork_look⟩)
    (c_LineWork_look : PySem.W.codeIn K cd_LineWork_look "LineWork.look" = true)
    (k_LineWork_look : PySem.W.keepIn K (.ref x_LineWork_look) = true)
    (a_LineWork_peg : PySem.W.findIn K (.ref cLineWork) "peg" = some (some (.ref x_LineWork_peg)))
    (i_LineWork_peg : PySem.W.isFn K (.ref x_LineWork_peg) = true)
    (l_LineWork_peg : K.lookup x_LineWork_peg = some ⟨oc_LineWork_peg, od_LineWork_peg, .func (PySem.W.fnOf "peg" "LineWork.peg" (defArgs s_LineWork_peg) (defBody s_LineWork_peg) (defScope s_LineWork_peg) .none kV_LineWork_peg dc_LineWork_peg pm_LineWork_peg an_LineWork_peg cd_LineWork_peg ct_LineWork_peg), sl_LineWork_peg⟩)
    (c_LineWork_peg : PySem.W.codeIn K cd_LineWork_peg "LineWork.peg" = true)
    (k_LineWork_peg : PySem.W.keepIn K (.ref x_LineWork_peg) = true)
    (a_LineWork_hang : PySem.W.findIn K (.ref cLineWork) "hang" = some (some (.ref x_LineWork_hang)))
    (i_LineWork_hang : PySem.W.isFn K (.ref x_LineWork_hang) = true)
    (l_LineWork_hang : K.lookup x_LineWork_hang = some ⟨oc_LineWork_hang, od_LineWork_hang, .func (PySem.W.fnOf "hang" "LineWork.hang" (defArgs s_LineWork_hang) (defBody s_LineWork_hang) (defScope s_LineWork_hang) .none kV_LineWork_hang dc_LineWork_hang pm_LineWork_hang an_LineWork_hang cd_LineWork_hang ct_LineWork_hang), sl_LineWork_hang⟩)
    (c_LineWork_hang : PySem.W.codeIn K cd_LineWork_hang "LineWork.hang" = true)
    (k_LineWork_hang : PySem.W.keepIn K (.ref x_LineWork_hang) = true)
    (a_LineWork_fetch : PySem.W.findIn K (.ref cLineWork) "fetch" = some (some (.ref x_LineWork_fetch)))
    (i_LineWork_fetch : PySem.W.isFn K (.ref x_LineWork_fetch) = true)
    (l_LineWork_fetch : K.lookup x_LineWork_fetch = some ⟨oc_LineWork_fetch, od_LineWork_fetch, .func (PySem.W.fnOf "fetch" "LineWork.fetch" (defArgs s_LineWork_fetch) (defBody s_LineWork_fetch) (defScope s_LineWork_fetch) .none kV_LineWork_fetch dc_LineWork_fetch pm_LineWork_fetch an_LineWork_fetch cd_LineWork_fetch ct_LineWork_fetch), sl_LineWork_fetch⟩)
    (c_LineWork_fetch : PySem.W.codeIn K cd_LineWork_fetch "LineWork.fetch" = true)
    (k_LineWork_fetch : PySem.W.keepIn K (.ref x_LineWork_fetch) = true)
    (a_LineWork_walk : PySem.W.findIn K (.ref cLineWork) "walk" = some (some (.ref x_LineWork_walk)))
    (i_LineWork_walk : PySem.W.isFn K (.ref x_LineWork_walk) = true)
    (l_LineWork_walk : K.lookup x_LineWork_walk = some ⟨oc_LineWork_walk, od_LineWork_walk, .func (PySem.W.fnOf "walk" "LineWork.walk" (defArgs s_LineWork_walk) (defBody s_LineWork_walk) (defScope s_LineWork_walk) .none kV_LineWork_walk dc_LineWork_walk pm_LineWork_walk an_LineWork_walk cd_LineWork_walk ct_LineWork_walk), sl_LineWork_walk⟩)
    (c_LineWork_walk : PySem.W.codeIn K cd_LineWork_walk "LineWork.walk" = true)
    (k_LineWork_walk : PySem.W.keepIn K (.ref x_LineWork_walk) = true)
    (a_LineWork_times_to : PySem.W.findIn K (.ref cLineWork) "times_to" = some (some (.ref x_LineWork_times_to)))
    (i_LineWork_times_to : PySem.W.isFn K (.ref x_LineWork_times_to) = true)
    (l_LineWork_times_to : K.lookup x_LineWork_times_to = some ⟨oc_LineWork_times_to, od_LineWork_times_to, .func (PySem.W.fnOf "times_to" "LineWork.times_to" (defArgs s_LineWork_times_to) (defBody s_LineWork_times_to) (defScope s_LineWork_times_to) .none kV_LineWork_times_to dc_LineWork_times_to pm_LineWork_times_to an_LineWork_times_to cd_LineWork_times_to ct_LineWork_times_to), sl_LineWork_times_to⟩)
    (c_LineWork_times_to : PySem.W.codeIn K cd_LineWork_times_to "LineWork.times_to" = true)
    (k_LineWork_times_to : PySem.W.keepIn K (.ref x_LineWork_times_to) = true)
    (a_Line_init : PySem.W.findIn K (.ref cLine) "__init__" = some (some (.ref x_Line_init)))
    (i_Line_init : PySem.W.isFn K (.ref x_Line_init) = true)
    (l_Line_init : K.lookup x_Line_init = some ⟨oc_Line_init, od_Line_init, .func (PySem.W.fnOf "__init__" "Line.__init__" (defArgs s_Line_init) (defBody s_Line_init) (defScope s_Line_init) .none kV_Line_init dc_Line_init pm_Line_init an_Line_init cd_Line_init ct_Line_init), sl_Line_init⟩)
    (c_Line_init : PySem.W.codeIn K cd_Line_init "Line.__init__" = true)
    (k_Line_init : PySem.W.keepIn K (.ref x_Line_init) = true)
    (a_Line_distance : PySem.W.findIn K (.ref cLine) "distance" = some (some (.ref p_Line_distance)))
    (pg_Line_distance : PySem.W.specialIn K (.ref p_Line_distance) "__get__" = some (some (.builtin "property.__get__")))
    (pt_Line_distance : PySem.W.takesIn K (.ref p_Line_distance) = some true)
    (pr_Line_distance : PySem.W.recIn K p_Line_distance "property" = some (.ref x_Line_distance :: rest_Line_distance))
    (l_Line_distance : K.lookup x_Line_distance = some ⟨oc_Line_distance, od_Line_distance, .func (PySem.W.fnOf "distance" "Line.distance" (defArgs s_Line_distance) (defBody s_Line_distance) (defScope s_Line_distance) .none kV_Line_distance dc_Line_distance pm_Line_distance an_Line_distance cd_Line_distance ct_Line_distance), sl_Line_distance⟩)
    (c_Line_distance : PySem.W.codeIn K cd_Line_distance "Line.distance" = true)
    (k_Line_distance : PySem.W.keepIn K (.ref x_Line_distance) = true)
    (a_Line_turn : PySem.W.findIn K (.ref cLine) "turn" = some (some (.ref p_Line_turn)))
    (pg_Line_turn : PySem.W.specialIn K (.ref p_Line_turn) "__get__" = some (some (.builtin "property.__get__")))
    (pt_Line_turn : PySem.W.takesIn K (.ref p_Line_turn) = some true)
    (pr_Line_turn : PySem.W.recIn K p_Line_turn "property" = some (.ref x_Line_turn :: rest_Line_turn))
    (l_Line_turn : K.lookup x_Line_turn = some ⟨oc_Line_turn, od_Line_turn, .func (PySem.W.fnOf "turn" "Line.turn" (defArgs s_Line_turn) (defBody s_Line_turn) (defScope s_Line_turn) .none kV_Line_turn dc_Line_turn pm_Line_turn an_Line_turn cd_Line_turn ct_Line_turn), sl_Line_turn⟩)
    (c_Line_turn : PySem.W.codeIn K cd_Line_turn "Line.turn" = true)
    (k_Line_turn : PySem.W.keepIn K (.ref x_Line_turn) = true)
    (a_Line_pulled : PySem.W.findIn K (.ref cLine) "pulled" = some (some (.ref p_Line_pulled)))
    (pg_Line_pulled : PySem.W.specialIn K (.ref p_Line_pulled) "__get__" = some (some (.builtin "property.__get__")))
    (pt_Line_pulled : PySem.W.takesIn K (.ref p_Line_pulled) = some true)
    (pr_Line_pulled : PySem.W.recIn K p_Line_pulled "property" = some (.ref x_Line_pulled :: rest_Line_pulled))
    (l_Line_pulled : K.lookup x_Line_pulled = some ⟨oc_Line_pulled, od_Line_pulled, .func (PySem.W.fnOf "pulled" "Line.pulled" (defArgs s_Line_pulled) (defBody s_Line_pulled) (defScope s_Line_pulled) .none kV_Line_pulled dc_Line_pulled pm_Line_pulled an_Line_pulled cd_Line_pulled ct_Line_pulled), sl_Line_pulled⟩)
    (c_Line_pulled : PySem.W.codeIn K cd_Line_pulled "Line.pulled" = true)
    (k_Line_pulled : PySem.W.keepIn K (.ref x_Line_pulled) = true)
    (a_Line_len : PySem.W.findIn K (.ref cLine) "__len__" = some (some (.ref x_Line_len)))
    (i_Line_len : PySem.W.isFn K (.ref x_Line_len) = true)
    (l_Line_len : K.lookup x_Line_len = some ⟨oc_Line_len, od_Line_len, .func (PySem.W.fnOf "__len__" "Line.__len__" (defArgs s_Line_len) (defBody s_Line_len) (defScope s_Line_len) .none kV_Line_len dc_Line_len pm_Line_len an_Line_len cd_Line_len ct_Line_len), sl_Line_len⟩)
    (c_Line_len : PySem.W.codeIn K cd_Line_len "Line.__len__" = true)
    (k_Line_len : PySem.W.keepIn K (.ref x_Line_len) = true)
    (a_Line_remember : PySem.W.findIn K (.ref cLine) "remember" = some (some (.ref x_Line_remember)))
    (i_Line_remember : PySem.W.isFn K (.ref x_Line_remember) = true)
    (l_Line_remember : K.lookup x_Line_remember = some ⟨oc_Line_remember, od_Line_remember, .func (PySem.W.fnOf "remember" "Line.remember" (defArgs s_Line_remember) (defBody s_Line_remember) (defScope s_Line_remember) .none kV_Line_remember dc_Line_remember pm_Line_remember an_Line_remember cd_Line_remember ct_Line_remember), sl_Line_remember⟩)
    (c_Line_remember : PySem.W.codeIn K cd_Line_remember "Line.remember" = true)
    (k_Line_remember : PySem.W.keepIn K (.ref x_Line_remember) = true)
    (a_Line_do : PySem.W.findIn K (.ref cLine) "do" = some (some (.ref x_Line_do)))
    (i_Line_do : PySem.W.isFn K (.ref x_Line_do) = true)
    (l_Line_do : K.lookup x_Line_do = some ⟨oc_Line_do, od_Line_do, .func (PySem.W.fnOf "do" "Line.do" (defArgs s_Line_do) (defBody s_Line_do) (defScope s_Line_do) .none kV_Line_do dc_Line_do pm_Line_do an_Line_do cd_Line_do ct_Line_do), sl_Line_do⟩)
    (c_Line_do : PySem.W.codeIn K cd_Line_do "Line.do" = true)
    (k_Line_do : PySem.W.keepIn K (.ref x_Line_do) = true)
    (a_Line_do_plan : PySem.W.findIn K (.ref cLine) "do_plan" = some (some (.ref x_Line_do_plan)))
    (i_Line_do_plan : PySem.W.isFn K (.ref x_Line_do_plan) = true)
    (l_Line_do_plan : K.lookup x_Line_do_plan = some ⟨oc_Line_do_plan, od_Line_do_plan, .func (PySem.W.fnOf "do_plan" "Line.do_plan" (defArgs s_Line_do_plan) (defBody s_Line_do_plan) (defScope s_Line_do_plan) .none kV_Line_do_plan dc_Line_do_plan pm_Line_do_plan an_Line_do_plan cd_Line_do_plan ct_Line_do_plan), sl_Line_do_plan⟩)
    (c_Line_do_plan : PySem.W.codeIn K cd_Line_do_plan "Line.do_plan" = true)
    (k_Line_do_plan : PySem.W.keepIn K (.ref x_Line_do_plan) = true)
    (a_Line_undo : PySem.W.findIn K (.ref cLine) "undo" = some (some (.ref x_Line_undo)))
    (i_Line_undo : PySem.W.isFn K (.ref x_Line_undo) = true)
    (l_Line_undo : K.lookup x_Line_undo = some ⟨oc_Line_undo, od_Line_undo, .func (PySem.W.fnOf "undo" "Line.undo" (defArgs s_Line_undo) (defBody s_Line_undo) (defScope s_Line_undo) .none kV_Line_undo dc_Line_undo pm_Line_undo an_Line_undo cd_Line_undo ct_Line_undo), sl_Line_undo⟩)
    (c_Line_undo : PySem.W.codeIn K cd_Line_undo "Line.undo" = true)
    (k_Line_undo : PySem.W.keepIn K (.ref x_Line_undo) = true)
    (a_Line_mark : PySem.W.findIn K (.ref cLine) "mark" = some (some (.ref x_Line_mark)))
    (i_Line_mark : PySem.W.isFn K (.ref x_Line_mark) = true)
    (l_Line_mark : K.lookup x_Line_mark = some ⟨oc_Line_mark, od_Line_mark, .func (PySem.W.fnOf "mark" "Line.mark" (defArgs s_Line_mark) (defBody s_Line_mark) (defScope s_Line_mark) .none kV_Line_mark dc_Line_mark pm_Line_mark an_Line_mark cd_Line_mark ct_Line_mark), sl_Line_mark⟩)
    (c_Line_mark : PySem.W.codeIn K cd_Line_mark "Line.mark" = true)
    (k_Line_mark : PySem.W.keepIn K (.ref x_Line_mark) = true)
    (a_Line_back_to : PySem.W.findIn K (.ref cLine) "back_to" = some (some (.ref x_Line_back_to)))
    (i_Line_back_to : PySem.W.isFn K (.ref x_Line_back_to) = true)
    (l_Line_back_to : K.lookup x_Line_back_to = some ⟨oc_Line_back_to, od_Line_back_to, .func (PySem.W.fnOf "back_to" "Line.back_to" (defArgs s_Line_back_to) (defBody s_Line_back_to) (defScope s_Line_back_to) .none kV_Line_back_to dc_Line_back_to pm_Line_back_to an_Line_back_to cd_Line_back_to ct_Line_back_to), sl_Line_back_to⟩)
    (c_Line_back_to : PySem.W.codeIn K cd_Line_back_to "Line.back_to" = true)
    (k_Line_back_to : PySem.W.keepIn K (.ref x_Line_back_to) = true)
    (a_Line_things : PySem.W.findIn K (.ref cLine) "things" = some (some (.ref x_Line_things)))
    (i_Line_things : PySem.W.isFn K (.ref x_Line_things) = true)
    (l_Line_things : K.lookup x_Line_things = some ⟨oc_Line_things, od_Line_things, .func (PySem.W.fnOf "things" "Line.things" (defArgs s_Line_things) (defBody s_Line_things) (defScope s_Line_things) .none kV_Line_things dc_Line_things pm_Line_things an_Line_things cd_Line_things ct_Line_things), sl_Line_things⟩)
    (c_Line_things : PySem.W.codeIn K cd_Line_things "Line.things" = true)
    (k_Line_things : PySem.W.keepIn K (.ref x_Line_things) = true)
    (a_Line_at : PySem.W.findIn K (.ref cLine) "at" = some (some (.ref x_Line_at)))
    (i_Line_at : PySem.W.isFn K (.ref x_Line_at) = true)
    (l_Line_at : K.lookup x_Line_at = some ⟨oc_Line_at, od_Line_at, .func (PySem.W.fnOf "at" "Line.at" (defArgs s_Line_at) (defBody s_Line_at) (defScope s_Line_at) .none kV_Line_at dc_Line_at pm_Line_at an_Line_at cd_Line_at ct_Line_at), sl_Line_at⟩)
    (c_Line_at : PySem.W.codeIn K cd_Line_at "Line.at" = true)
    (k_Line_at : PySem.W.keepIn K (.ref x_Line_at) = true)
    (a_Plan_init : PySem.W.findIn K (.ref cPlan) "__init__" = some (some (.ref x_Plan_init)))
    (i_Plan_init : PySem.W.isFn K (.ref x_Plan_init) = true)
    (l_Plan_init : K.lookup x_Plan_init = some ⟨oc_Plan_init, od_Plan_init, .func (PySem.W.fnOf "__init__" "Plan.__init__" (defArgs s_Plan_init) (defBody s_Plan_init) (defScope s_Plan_init) (.ref tD) kV_Plan_init dc_Plan_init pm_Plan_init an_Plan_init cd_Plan_init ct_Plan_init), sl_Plan_init⟩)
    (c_Plan_init : PySem.W.codeIn K cd_Plan_init "Plan.__init__" = true)
    (k_Plan_init : PySem.W.keepIn K (.ref x_Plan_init) = true)
    (a_Plan_deeds : PySem.W.findIn K (.ref cPlan) "deeds" = some (some (.ref x_Plan_deeds)))
    (i_Plan_deeds : PySem.W.isFn K (.ref x_Plan_deeds) = true)
    (l_Plan_deeds : K.lookup x_Plan_deeds = some ⟨oc_Plan_deeds, od_Plan_deeds, .func (PySem.W.fnOf "deeds" "Plan.deeds" (defArgs s_Plan_deeds) (defBody s_Plan_deeds) (defScope s_Plan_deeds) .none kV_Plan_deeds dc_Plan_deeds pm_Plan_deeds an_Plan_deeds cd_Plan_deeds ct_Plan_deeds), sl_Plan_deeds⟩)
    (c_Plan_deeds : PySem.W.codeIn K cd_Plan_deeds "Plan.deeds" = true)
    (k_Plan_deeds : PySem.W.keepIn K (.ref x_Plan_deeds) = true)
    (a_law_well : PySem.W.nsIn K mainGlobals "_law_well" = some (some (.ref x_law_well)))
    (l_law_well : K.lookup x_law_well = some ⟨oc_law_well, od_law_well, .func (PySem.W.fnOf "_law_well" "_law_well" (defArgs s_law_well) (defBody s_law_well) (defScope s_law_well) .none kV_law_well dc_law_well pm_law_well an_law_well cd_law_well ct_law_well), sl_law_well⟩)
    (c_law_well : PySem.W.codeIn K cd_law_well "_law_well" = true)
    (k_law_well : PySem.W.keepIn K (.ref x_law_well) = true)
    (a_law_draw : PySem.W.nsIn K mainGlobals "_law_draw" = some (some (.ref x_law_draw)))
    (l_law_draw : K.lookup x_law_draw = some ⟨oc_law_draw, od_law_draw, .func (PySem.W.fnOf "_law_draw" "_law_draw" (defArgs s_law_draw) (defBody s_law_draw) (defScope s_law_draw) .none kV_law_draw dc_law_draw pm_law_draw an_law_draw cd_law_draw ct_law_draw), sl_law_draw⟩)
    (c_law_draw : PySem.W.codeIn K cd_law_draw "_law_draw" = true)
    (k_law_draw : PySem.W.keepIn K (.ref x_law_draw) = true)
    (a_law_pick : PySem.W.nsIn K mainGlobals "_law_pick" = some (some (.ref x_law_pick)))
    (l_law_pick : K.lookup x_law_pick = some ⟨oc_law_pick, od_law_pick, .func (PySem.W.fnOf "_law_pick" "_law_pick" (defArgs s_law_pick) (defBody s_law_pick) (defScope s_law_pick) .none kV_law_pick dc_law_pick pm_law_pick an_law_pick cd_law_pick ct_law_pick), sl_law_pick⟩)
    (c_law_pick : PySem.W.codeIn K cd_law_pick "_law_pick" = true)
    (k_law_pick : PySem.W.keepIn K (.ref x_law_pick) = true)
    (a_law_things : PySem.W.nsIn K mainGlobals "_law_things" = some (some (.ref x_law_things)))
    (l_law_things : K.lookup x_law_things = some ⟨oc_law_things, od_law_things, .func (PySem.W.fnOf "_law_things" "_law_things" (defArgs s_law_things) (defBody s_law_things) (defScope s_law_things) .none kV_law_things dc_law_things pm_law_things an_law_things cd_law_things ct_law_things), sl_law_things⟩)
    (c_law_things : PySem.W.codeIn K cd_law_things "_law_things" = true)
    (k_law_things : PySem.W.keepIn K (.ref x_law_things) = true)
    (a_law_plain : PySem.W.nsIn K mainGlobals "_law_plain" = some (some (.ref x_law_plain)))
    (l_law_plain : K.lookup x_law_plain = some ⟨oc_law_plain, od_law_plain, .func (PySem.W.fnOf "_law_plain" "_law_plain" (defArgs s_law_plain) (defBody s_law_plain) (defScope s_law_plain) .none kV_law_plain dc_law_plain pm_law_plain an_law_plain cd_law_plain ct_law_plain), sl_law_plain⟩)
    (c_law_plain : PySem.W.codeIn K cd_law_plain "_law_plain" = true)
    (k_law_plain : PySem.W.keepIn K (.ref x_law_plain) = true)
    (a_law_deed : PySem.W.nsIn K mainGlobals "_law_deed" = some (some (.ref x_law_deed)))
    (l_law_deed : K.lookup x_law_deed = some ⟨oc_law_deed, od_law_deed, .func (PySem.W.fnOf "_law_deed" "_law_deed" (defArgs s_law_deed) (defBody s_law_deed) (defScope s_law_deed) .none kV_law_deed dc_law_deed pm_law_deed an_law_deed cd_law_deed ct_law_deed), sl_law_deed⟩)
    (c_law_deed : PySem.W.codeIn K cd_law_deed "_law_deed" = true)
    (k_law_deed : PySem.W.keepIn K (.ref x_law_deed) = true)
    (a_law_distance : PySem.W.nsIn K mainGlobals "_law_distance" = some (some (.ref x_law_distance)))
    (l_law_distance : K.lookup x_law_distance = some ⟨oc_law_distance, od_law_distance, .func (PySem.W.fnOf "_law_distance" "_law_distance" (defArgs s_law_distance) (defBody s_law_distance) (defScope s_law_distance) .none kV_law_distance dc_law_distance pm_law_distance an_law_distance cd_law_distance ct_law_distance), sl_law_distance⟩)
    (c_law_distance : PySem.W.codeIn K cd_law_distance "_law_distance" = true)
    (k_law_distance : PySem.W.keepIn K (.ref x_law_distance) = true)
    (a_law_same : PySem.W.nsIn K mainGlobals "_law_same" = some (some (.ref x_law_same)))
    (l_law_same : K.lookup x_law_same = some ⟨oc_law_same, od_law_same, .func (PySem.W.fnOf "_law_same" "_law_same" (defArgs s_law_same) (defBody s_law_same) (defScope s_law_same) .none kV_law_same dc_law_same pm_law_same an_law_same cd_law_same ct_law_same), sl_law_same⟩)
    (c_law_same : PySem.W.codeIn K cd_law_same "_law_same" = true)
    (k_law_same : PySem.W.keepIn K (.ref x_law_same) = true)
    (a_law_stand : PySem.W.nsIn K mainGlobals "_law_stand" = some (some (.ref x_law_stand)))
    (l_law_stand : K.lookup x_law_stand = some ⟨oc_law_stand, od_law_stand, .func (PySem.W.fnOf "_law_stand" "_law_stand" (defArgs s_law_stand) (defBody s_law_stand) (defScope s_law_stand) .none kV_law_stand dc_law_stand pm_law_stand an_law_stand cd_law_stand ct_law_stand), sl_law_stand⟩)
    (c_law_stand : PySem.W.codeIn K cd_law_stand "_law_stand" = true)
    (k_law_stand : PySem.W.keepIn K (.ref x_law_stand) = true)
    (a_law_made : PySem.W.nsIn K mainGlobals "_law_made" = some (some (.ref x_law_made)))
    (l_law_made : K.lookup x_law_made = some ⟨oc_law_made, od_law_made, .func (PySem.W.fnOf "_law_made" "_law_made" (defArgs s_law_made) (defBody s_law_made) (defScope s_law_made) .none kV_law_made dc_law_made pm_law_made an_law_made cd_law_made ct_law_made), sl_law_made⟩)
    (c_law_made : PySem.W.codeIn K cd_law_made "_law_made" = true)
    (k_law_made : PySem.W.keepIn K (.ref x_law_made) = true)
    (a_law_went : PySem.W.nsIn K mainGlobals "_law_went" = some (some (.ref x_law_went)))
    (l_law_went : K.lookup x_law_went = some ⟨oc_law_went, od_law_went, .func (PySem.W.fnOf "_law_went" "_law_went" (defArgs s_law_went) (defBody s_law_went) (defScope s_law_went) .none kV_law_went dc_law_went pm_law_went an_law_went cd_law_went ct_law_went), sl_law_went⟩)
    (c_law_went : PySem.W.codeIn K cd_law_went "_law_went" = true)
    (k_law_went : PySem.W.keepIn K (.ref x_law_went) = true)
    (a_law_new_line : PySem.W.nsIn K mainGlobals "_law_new_line" = some (some (.ref x_law_new_line)))
    (l_law_new_line : K.lookup x_law_new_line = some ⟨oc_law_new_line, od_law_new_line, .func (PySem.W.fnOf "_law_new_line" "_law_new_line" (defArgs s_law_new_line) (defBody s_law_new_line) (defScope s_law_new_line) .none kV_law_new_line dc_law_new_line pm_law_new_line an_law_new_line cd_law_new_line ct_law_new_line), sl_law_new_line⟩)
    (c_law_new_line : PySem.W.codeIn K cd_law_new_line "_law_new_line" = true)
    (k_law_new_line : PySem.W.keepIn K (.ref x_law_new_line) = true)
    (a_law_kept : PySem.W.nsIn K mainGlobals "_law_kept" = some (some (.ref x_law_kept)))
    (l_law_kept : K.lookup x_law_kept = some ⟨oc_law_kept, od_law_kept, .func (PySem.W.fnOf "_law_kept" "_law_kept" (defArgs s_law_kept) (defBody s_law_kept) (defScope s_law_kept) .none kV_law_kept dc_law_kept pm_law_kept an_law_kept cd_law_kept ct_law_kept), sl_law_kept⟩)
    (c_law_kept : PySem.W.codeIn K cd_law_kept "_law_kept" = true)
    (k_law_kept : PySem.W.keepIn K (.ref x_law_kept) = true)
    (a_law_alike : PySem.W.nsIn K mainGlobals "_law_alike" = some (some (.ref x_law_alike)))
    (l_law_alike : K.lookup x_law_alike = some ⟨oc_law_alike, od_law_alike, .func (PySem.W.fnOf "_law_alike" "_law_alike" (defArgs s_law_alike) (defBody s_law_alike) (defScope s_law_alike) .none kV_law_alike dc_law_alike pm_law_alike an_law_alike cd_law_alike ct_law_alike), sl_law_alike⟩)
    (c_law_alike : PySem.W.codeIn K cd_law_alike "_law_alike" = true)
    (k_law_alike : PySem.W.keepIn K (.ref x_law_alike) = true)
    (a_law_turn : PySem.W.nsIn K mainGlobals "_law_turn" = some (some (.ref x_law_turn)))
    (l_law_turn : K.lookup x_law_turn = some ⟨oc_law_turn, od_law_turn, .func (PySem.W.fnOf "_law_turn" "_law_turn" (defArgs s_law_turn) (defBody s_law_turn) (defScope s_law_turn) .none kV_law_turn dc_law_turn pm_law_turn an_law_turn cd_law_turn ct_law_turn), sl_law_turn⟩)
    (c_law_turn : PySem.W.codeIn K cd_law_turn "_law_turn" = true)
    (k_law_turn : PySem.W.keepIn K (.ref x_law_turn) = true)
    (a_law : PySem.W.nsIn K mainGlobals "law" = some (some (.ref x_law)))
    (l_law : K.lookup x_law = some ⟨oc_law, od_law, .func (PySem.W.fnOf "law" "law" (defArgs s_law) (defBody s_law) (defScope s_law) .none kV_law dc_law pm_law an_law cd_law ct_law), sl_law⟩)
    (c_law : PySem.W.codeIn K cd_law "law" = true)
    (k_law : PySem.W.keepIn K (.ref x_law) = true)
    (l_tD : K.lookup tD = some ⟨ocD, odD, .seq #[.ref tE] nD, slD⟩)
    (pg_cLineWork : PySem.W.plainGet K cLineWork Str.empty = true)
    (hd_cLineWork : PySem.W.hasDictIn K cLineWork = true)
    (po_cLineWork : PySem.W.plainOver K cLineWork = true)
    (sa_cLineWork : PySem.W.findIn K (.ref cLineWork) "__setattr__" = some (some (.builtin "object.__setattr__")))
    (mk_cLineWork : PySem.W.makesIn K cLineWork = true)
    (kc_cLineWork : PySem.W.keepIn K (.ref cLineWork) = true)
    (n_LineWork_half : PySem.W.findIn K (.ref cLineWork) "half" = some none)
    (n_LineWork_stand : PySem.W.findIn K (.ref cLineWork) "stand" = some none)
    (n_LineWork_hung : PySem.W.findIn K (.ref cLineWork) "hung" = some none)
    (n_LineWork_lengths : PySem.W.findIn K (.ref cLineWork) "lengths" = some none)
    (pg_cLine : PySem.W.plainGet K cLine Str.empty = true)
    (hd_cLine : PySem.W.hasDictIn K cLine = true)
    (po_cLine : PySem.W.plainOver K cLine = true)
    (sa_cLine : PySem.W.findIn K (.ref cLine) "__setattr__" = some (some (.builtin "object.__setattr__")))
    (mk_cLine : PySem.W.makesIn K cLine = true)
    (kc_cLine : PySem.W.keepIn K (.ref cLine) = true)
    (n_Line_length : PySem.W.findIn K (.ref cLine) "length" = some none)
    (n_Line_work : PySem.W.findIn K (.ref cLine) "work" = some none)
    (n_Line_done : PySem.W.findIn K (.ref cLine) "done" = some none)
    (n_Line_earlier : PySem.W.findIn K (.ref cLine) "earlier" = some none)
    (n_Line_marks : PySem.W.findIn K (.ref cLine) "marks" = some none)
    (pg_cPlan : PySem.W.plainGet K cPlan Str.empty = true)
    (hd_cPlan : PySem.W.hasDictIn K cPlan = true)
    (po_cPlan : PySem.W.plainOver K cPlan = true)
    (sa_cPlan : PySem.W.findIn K (.ref cPlan) "__setattr__" = some (some (.builtin "object.__setattr__")))
    (mk_cPlan : PySem.W.makesIn K cPlan = true)
    (kc_cPlan : PySem.W.keepIn K (.ref cPlan) = true)
    (n_Plan_kept : PySem.W.findIn K (.ref cPlan) "kept" = some none)
    (q_LETTERS : PySem.W.nsIn K mainGlobals "LETTERS" = some (some (.str "abcdefghijklmnopqrstuvwxyz" tL)))
    (a_WINDOWS : PySem.W.nsIn K mainGlobals "WINDOWS" = some (some (.ref cWIN)))
    (l_WINDOWS : K.lookup cWIN = some ⟨.type "tuple", odW, .seq #[.str "near" tW1, .str "far" tW2] nW, slW⟩)
    (q_LONGEST_THING : PySem.W.nsIn K mainGlobals "LONGEST_THING" = some (some (.int 8 t_LONGEST_THING)))
    (q_GREATEST_DISTANCE : PySem.W.nsIn K mainGlobals "GREATEST_DISTANCE" = some (some (.int 100000000000000000000000000000000000000000000000000 t_GREATEST_DISTANCE)))
    (q_GREATEST_PULL : PySem.W.nsIn K mainGlobals "GREATEST_PULL" = some (some (.int 40 t_GREATEST_PULL)))
    (q_GREATEST_STEP : PySem.W.nsIn K mainGlobals "GREATEST_STEP" = some (some (.int 6 t_GREATEST_STEP)))
    (q_MOST_DEEDS : PySem.W.nsIn K mainGlobals "MOST_DEEDS" = some (some (.int 12 t_MOST_DEEDS)))
    (x_NTU : PySem.W.excIn K cNothingToUndo [.type "ValueError", .type "Exception", .type "BaseException", .type "object"] "ValueError.__new__" = true)
    (k_NTU : PySem.W.keepIn K (.ref cNothingToUndo) = true)
    (s_NTU : PySem.W.subIn K (.ref cNothingToUndo) (.type "BaseException") = some true)
    (t_NTU : PySem.W.typeIn K (.ref cNothingToUndo) = some (.type "type"))
    (z_NTU : PySem.W.isClsIn K cNothingToUndo = true)
    (ss_NTU : PySem.W.subIn K (.ref cNothingToUndo) (.ref cNothingToUndo) = some true)
    (lk_NM : K.lookup cNoMark = some (excClassObj nmM qM cNoMark nsM bsM [.ref cLE, .type "ValueError", .type "Exception", .type "BaseException", .type "object"] true snM subM abM colM ddM m0 m1 m2 m3 m5 "ValueError.__new__"))
    (sa_NM : PySem.W.findIn K (.ref cNoMark) "__setattr__" = some (some (.builtin "object.__setattr__")))
    (k_NM : PySem.W.keepIn K (.ref cNoMark) = true)
    (s_NM : PySem.W.subIn K (.ref cNoMark) (.type "BaseException") = some true)
    (t_NM : PySem.W.typeIn K (.ref cNoMark) = some (.type "type"))
    (z_NM : PySem.W.isClsIn K cNoMark = true)
    (ss_NM : PySem.W.subIn K (.ref cNoMark) (.ref cNoMark) = some true)
    (sn_NM : PySem.W.subIn K (.ref cNothingToUndo) (.ref cNoMark) = some false)
    (ti_NM : PySem.W.typeIn K (.ref x_NoMark_init) = some (.type "function"))
    (n_NM : PySem.W.findIn K (.ref cNoMark) "name" = some none)
    (b_isinstance : PySem.W.nsIn K mainGlobals "isinstance" = some none)
    (b_len : PySem.W.nsIn K mainGlobals "len" = some none)
    (b_all : PySem.W.nsIn K mainGlobals "all" = some none)
    (b_int : PySem.W.nsIn K mainGlobals "int" = some none)
    (b_str : PySem.W.nsIn K mainGlobals "str" = some none)
    (b_tuple : PySem.W.nsIn K mainGlobals "tuple" = some none)
    (b_list : PySem.W.nsIn K mainGlobals "list" = some none)
    (b_bool : PySem.W.nsIn K mainGlobals "bool" = some none)
    (b_abs : PySem.W.nsIn K mainGlobals "abs" = some none)
    (b_max : PySem.W.nsIn K mainGlobals "max" = some none)
    (b_min : PySem.W.nsIn K mainGlobals "min" = some none)
    (b_range : PySem.W.nsIn K mainGlobals "range" = some none)
    (b_dict : PySem.W.nsIn K mainGlobals "dict" = some none)
    (b_sorted : PySem.W.nsIn K mainGlobals "sorted" = some none)
    (b_enumerate : PySem.W.nsIn K mainGlobals "enumerate" = some none)
    : ∃ fd : FuncData, (∀ (s : Shared) (v : Value), BindsTo s fd ⟨[v], []⟩ [("_law_script", v)]) ∧ ∀ base : Heap, K.In base → base.Ns mainGlobals mg → FnOk l.prog w K mg base CX0 9 fa fd ["_law_script"] (spLaw K) := by
  have e := hfa.symm.trans (PySem.W.mg_of X G a_law)
  cases e
  have T : Txt K mg {cLineError := 0, cNoDistance := 0, cNoWindow := 0, cNothingToUndo := cNothingToUndo, cNoName := 0, cNoDeed := 0, cNoMark := cNoMark, cLineWork := cLineWork, cLine := cLine, cPlan := cPlan, NoMark_init := x_NoMark_init, is_whole := x_is_whole, is_thing := x_is_thing, is_window := x_is_window, is_distance := x_is_distance, is_length := x_is_length, is_plain_deed := x_is_plain_deed, is_deed := x_is_deed, LineWork_init := x_LineWork_init, LineWork_spot_at := x_LineWork_spot_at, LineWork_thing_at := x_LineWork_thing_at, LineWork_shift := x_LineWork_shift, LineWork_tell := x_LineWork_tell, LineWork_look := x_LineWork_look, LineWork_peg := x_LineWork_peg, LineWork_hang := x_LineWork_hang, LineWork_fetch := x_LineWork_fetch, LineWork_walk := x_LineWork_walk, LineWork_times_to := x_LineWork_times_to, Line_init := x_Line_init, Line_distance := x_Line_distance, Line_turn := x_Line_turn, Line_pulled := x_Line_pulled, Line_len := x_Line_len, Line_remember := x_Line_remember, Line_do := x_Line_do, Line_do_plan := x_Line_do_plan, Line_undo := x_Line_undo, Line_mark := x_Line_mark, Line_back_to := x_Line_back_to, Line_things := x_Line_things, Line_at := x_Line_at, Plan_init := x_Plan_init, Plan_deeds := x_Plan_deeds, law_well := x_law_well, law_draw := x_law_draw, law_pick := x_law_pick, law_things := x_law_things, law_plain := x_law_plain, law_deed := x_law_deed, law_distance := x_law_distance, law_same := x_law_same, law_stand := x_law_stand, law_made := x_law_made, law_went := x_law_went, law_new_line := x_law_new_line, law_kept := x_law_kept, law_alike := x_law_alike, law_turn := x_law_turn, law := fa, pLine_distance := p_Line_distance, pLine_turn := p_Line_turn, pLine_pulled := p_Line_pulled, WINDOWS := cWIN} := {f_NoMark_init := ⟨_, fun_mk (st := s_NoMark_init) l_NoMark_init c_NoMark_init k_NoMark_init⟩, f_is_whole := ⟨_, fun_mk (st := s_is_whole) l_is_whole c_is_whole k_is_whole⟩, g_is_whole := PySem.W.mg_of X G a_is_whole, f_is_thing := ⟨_, fun_mk (st := s_is_thing) l_is_thing c_is_thing k_is_thing⟩, g_is_thing := PySem.W.mg_of X G a_is_thing, f_is_window := ⟨_, fun_mk (st := s_is_window) l_is_window c_is_window k_is_window⟩, g_is_window := PySem.W.mg_of X G a_is_window, f_is_distance := ⟨_, fun_mk (st := s_is_distance) l_is_distance c_is_distance k_is_distance⟩, g_is_distance := PySem.W.mg_of X G a_is_distance, f_is_length := ⟨_, fun_mk (st := s_is_length) l_is_length c_is_length k_is_length⟩, g_is_length := PySem.W.mg_of X G a_is_length, f_is_plain_deed := ⟨_, fun_mk (st := s_is_plain_deed) l_is_plain_deed c_is_plain_deed k_is_plain_deed⟩, g_is_plain_deed := PySem.W.mg_of X G a_is_plain_deed, f_is_deed := ⟨_, fun_mk (st := s_is_deed) l_is_deed c_is_deed k_is_deed⟩, g_is_deed := PySem.W.mg_of X G a_is_deed, f_LineWork_init := ⟨_, fun_mk (st := s_LineWork_init) l_LineWork_init c_LineWork_init k_LineWork_init⟩, f_LineWork_spot_at := ⟨_, fun_mk (st := s_LineWork_spot_at) l_LineWork_spot_at c_LineWork_spot_at k_LineWork_spot_at⟩, m_LineWork_spot_at := ⟨a_LineWork_spot_at, i_LineWork_spot_at, k_LineWork_spot_at⟩, f_LineWork_thing_at := ⟨_, fun_mk (st := s_LineWork_thing_at) l_LineWork_thing_at c_LineWork_thing_at k_LineWork_thing_at⟩, m_LineWork_thing_at := ⟨a_LineWork_thing_at, i_LineWork_thing_at, k_LineWork_thing_at⟩, f_LineWork_shift := ⟨_, fun_mk (st := s_LineWork_shift) l_LineWork_shift c_LineWork_shift k_LineWork_shift⟩, m_LineWork_shift := ⟨a_LineWork_shift, i_LineWork_shift, k_LineWork_shift⟩, f_LineWork_tell := ⟨_, fun_mk (st := s_LineWork_tell) l_LineWork_tell c_LineWork_tell k_LineWork_tell⟩, m_LineWork_tell := ⟨a_LineWork_tell, i_LineWork_tell, k_LineWork_tell⟩, f_LineWork_look := ⟨_, fun_mk (st := s_LineWork_look) l_LineWork_look c_LineWork_look k_LineWork_look⟩, m_LineWork_look := ⟨a_LineWork_look, i_LineWork_look, k_LineWork_look⟩, f_LineWork_peg := ⟨_, fun_mk (st := s_LineWork_peg) l_LineWork_peg c_LineWork_peg k_LineWork_peg⟩, m_LineWork_peg := ⟨a_LineWork_peg, i_LineWork_peg, k_LineWork_peg⟩, f_LineWork_hang := ⟨_, fun_mk (st := s_LineWork_hang) l_LineWork_hang c_LineWork_hang k_LineWork_hang⟩, m_LineWork_hang := ⟨a_LineWork_hang, i_LineWork_hang, k_LineWork_hang⟩, f_LineWork_fetch := ⟨_, fun_mk (st := s_LineWork_fetch) l_LineWork_fetch c_LineWork_fetch k_LineWork_fetch⟩, m_LineWork_fetch := ⟨a_LineWork_fetch, i_LineWork_fetch, k_LineWork_fetch⟩, f_LineWork_walk := ⟨_, fun_mk (st := s_LineWork_walk) l_LineWork_walk c_LineWork_walk k_LineWork_walk⟩, m_LineWork_walk := ⟨a_LineWork_walk, i_LineWork_walk, k_LineWork_walk⟩, f_LineWork_times_to := ⟨_, fun_mk (st := s_LineWork_times_to) l_LineWork_times_to c_LineWork_times_to k_LineWork_times_to⟩, m_LineWork_times_to := ⟨a_LineWork_times_to, i_LineWork_times_to, k_LineWork_times_to⟩, f_Line_init := ⟨_, fun_mk (st := s_Line_init) l_Line_init c_Line_init k_Line_init⟩, f_Line_distance := ⟨_, fun_mk (st := s_Line_distance) l_Line_distance c_Line_distance k_Line_distance⟩, p_Line_distance := ⟨a_Line_distance, pg_Line_distance, pt_Line_distance, ⟨_, pr_Line_distance⟩⟩, f_Line_turn := ⟨_, fun_mk (st := s_Line_turn) l_Line_turn c_Line_turn k_Line_turn⟩, p_Line_turn := ⟨a_Line_turn, pg_Line_turn, pt_Line_turn, ⟨_, pr_Line_turn⟩⟩, f_Line_pulled := ⟨_, fun_mk (st := s_Line_pulled) l_Line_pulled c_Line_pulled k_Line_pulled⟩, p_Line_pulled := ⟨a_Line_pulled, pg_Line_pulled, pt_Line_pulled, ⟨_, pr_Line_pulled⟩⟩, f_Line_len := ⟨_, fun_mk (st := s_Line_len) l_Line_len c_Line_len k_Line_len⟩, m_Line_len := ⟨a_Line_len, i_Line_len, k_Line_len⟩, f_Line_remember := ⟨_, fun_mk (st := s_Line_remember) l_Line_remember c_Line_remember k_Line_remember⟩, m_Line_remember := ⟨a_Line_remember, i_Line_remember, k_Line_remember⟩, f_Line_do := ⟨_, fun_mk (st := s_Line_do) l_Line_do c_Line_do k_Line_do⟩, m_Line_do := ⟨a_Line_do, i_Line_do, k_Line_do⟩, f_Line_do_plan := ⟨_, fun_mk (st := s_Line_do_plan) l_Line_do_plan c_Line_do_plan k_Line_do_plan⟩, m_Line_do_plan := ⟨a_Line_do_plan, i_Line_do_plan, k_Line_do_plan⟩, f_Line_undo := ⟨_, fun_mk (st := s_Line_undo) l_Line_undo c_Line_undo k_Line_undo⟩, m_Line_undo := ⟨a_Line_undo, i_Line_undo, k_Line_undo⟩, f_Line_mark := ⟨_, fun_mk (st := s_Line_mark) l_Line_mark c_Line_mark k_Line_mark⟩, m_Line_mark := ⟨a_Line_mark, i_Line_mark, k_Line_mark⟩, f_Line_back_to := ⟨_, fun_mk (st := s_Line_back_to) l_Line_back_to c_Line_back_to k_Line_back_to⟩, m_Line_back_to := ⟨a_Line_back_to, i_Line_back_to, k_Line_back_to⟩, f_Line_things := ⟨_, fun_mk (st := s_Line_things) l_Line_things c_Line_things k_Line_things⟩, m_Line_things := ⟨a_Line_things, i_Line_things, k_Line_things⟩, f_Line_at := ⟨_, fun_mk (st := s_Line_at) l_Line_at c_Line_at k_Line_at⟩, m_Line_at := ⟨a_Line_at, i_Line_at, k_Line_at⟩, f_Plan_init := ⟨_, .ref tE, ⟨⟨_, _, _, _, _, _, _, _, _, _, rfl, l_Plan_init, c_Plan_init, .inr ⟨(fun z => nomatch z), tD, _, [.ref tE], nD, rfl, l_tD, rfl, .cons rfl .nil⟩, .inl rfl⟩, k_Plan_init⟩⟩, f_Plan_deeds := ⟨_, fun_mk (st := s_Plan_deeds) l_Plan_deeds c_Plan_deeds k_Plan_deeds⟩, m_Plan_deeds := ⟨a_Plan_deeds, i_Plan_deeds, k_Plan_deeds⟩, f_law_well := ⟨_, fun_mk (st := s_law_well) l_law_well c_law_well k_law_well⟩, g_law_well := PySem.W.mg_of X G a_law_well, f_law_draw := ⟨_, fun_mk (st := s_law_draw) l_law_draw c_law_draw k_law_draw⟩, g_law_draw := PySem.W.mg_of X G a_law_draw, f_law_pick := ⟨_, fun_mk (st := s_law_pick) l_law_pick c_law_pick k_law_pick⟩, g_law_pick := PySem.W.mg_of X G a_law_pick, f_law_things := ⟨_, fun_mk (st := s_law_things) l_law_things c_law_things k_law_things⟩, g_law_things := PySem.W.mg_of X G a_law_things, f_law_plain := ⟨_, fun_mk (st := s_law_plain) l_law_plain c_law_plain k_law_plain⟩, g_law_plain := PySem.W.mg_of X G a_law_plain, f_law_deed := ⟨_, fun_mk (st := s_law_deed) l_law_deed c_law_deed k_law_deed⟩, g_law_deed := PySem.W.mg_of X G a_law_deed, f_law_distance := ⟨_, fun_mk (st := s_law_distance) l_law_distance c_law_distance k_law_distance⟩, g_law_distance := PySem.W.mg_of X G a_law_distance, f_law_same := ⟨_, fun_mk (st := s_law_same) l_law_same c_law_same k_law_same⟩, g_law_same := PySem.W.mg_of X G a_law_same, f_law_stand := ⟨_, fun_mk (st := s_law_stand) l_law_stand c_law_stand k_law_stand⟩, g_law_stand := PySem.W.mg_of X G a_law_stand, f_law_made := ⟨_, fun_mk (st := s_law_made) l_law_made c_law_made k_law_made⟩, g_law_made := PySem.W.mg_of X G a_law_made, f_law_went := ⟨_, fun_mk (st := s_law_went) l_law_went c_law_went k_law_went⟩, g_law_went := PySem.W.mg_of X G a_law_went, f_law_new_line := ⟨_, fun_mk (st := s_law_new_line) l_law_new_line c_law_new_line k_law_new_line⟩, g_law_new_line := PySem.W.mg_of X G a_law_new_line, f_law_kept := ⟨_, fun_mk (st := s_law_kept) l_law_kept c_law_kept k_law_kept⟩, g_law_kept := PySem.W.mg_of X G a_law_kept, f_law_alike := ⟨_, fun_mk (st := s_law_alike) l_law_alike c_law_alike k_law_alike⟩, g_law_alike := PySem.W.mg_of X G a_law_alike, f_law_turn := ⟨_, fun_mk (st := s_law_turn) l_law_turn c_law_turn k_law_turn⟩, g_law_turn := PySem.W.mg_of X G a_law_turn, f_law := ⟨_, fun_mk (st := s_law) l_law c_law k_law⟩, g_law := PySem.W.mg_of X G a_law, c_LineWork := ⟨pg_cLineWork, hd_cLineWork, po_cLineWork, sa_cLineWork⟩, k_LineWork := ⟨mk_cLineWork, a_LineWork_init, i_LineWork_init, kc_cLineWork⟩, g_LineWork := PySem.W.mg_of X G aC_LineWork, n_LineWork_half := n_LineWork_half, n_LineWork_stand := n_LineWork_stand, n_LineWork_hung := n_LineWork_hung, n_LineWork_lengths := n_LineWork_lengths, c_Line := ⟨pg_cLine, hd_cLine, po_cLine, sa_cLine⟩, k_Line := ⟨mk_cLine, a_Line_init, i_Line_init, kc_cLine⟩, g_Line := PySem.W.mg_of X G aC_Line, n_Line_length := n_Line_length, n_Line_work := n_Line_work, n_Line_done := n_Line_done, n_Line_earlier := n_Line_earlier, n_Line_marks := n_Line_marks, c_Plan := ⟨pg_cPlan, hd_cPlan, po_cPlan, sa_cPlan⟩, k_Plan := ⟨mk_cPlan, a_Plan_init, i_Plan_init, kc_cPlan⟩, g_Plan := PySem.W.mg_of X G aC_Plan, n_Plan_kept := n_Plan_kept, LETTERS := ⟨_, PySem.W.mg_of X G q_LETTERS⟩, WINDOWS := PySem.W.mg_of X G a_WINDOWS, windows := fun _ => .inr ⟨_, _, _, l_WINDOWS, rfl, rfl, (by rw [sizeLine_eq]; show 2 ≤ 16777216; decide), .cons ⟨_, rfl⟩ (.cons ⟨_, rfl⟩ .nil)⟩, LONGEST_THING := ⟨_, PySem.W.mg_of X G q_LONGEST_THING⟩, GREATEST_DISTANCE := ⟨_, PySem.W.mg_of X G q_GREATEST_DISTANCE⟩, GREATEST_PULL := ⟨_, PySem.W.mg_of X G q_GREATEST_PULL⟩, GREATEST_STEP := ⟨_, PySem.W.mg_of X G q_GREATEST_STEP⟩, MOST_DEEDS := ⟨_, PySem.W.mg_of X G q_MOST_DEEDS⟩, g_NTU := PySem.W.mg_of X G aC_NothingToUndo, x_NTU := x_NTU, k_NTU := k_NTU, s_NTU := s_NTU, t_NTU := t_NTU, g_NM := PySem.W.mg_of X G aC_NoMark, o_NM := ⟨⟨nmM, qM, nsM, bsM, _, snM, subM, abM, colM, ddM, m0, m1, m2, m3, m5, lk_NM, rfl⟩, sa_NM, s_NM, t_NM, k_NM⟩, i_NM := a_NoMark_init, ti_NM := ti_NM, n_NM := n_NM, e_1 := exm_mk s_NM z_NM t_NM ss_NM, e_2 := exm_mk s_NM z_NM t_NM sn_NM, e_3 := exm_mk s_NTU z_NTU t_NTU ss_NTU, b_isinstance := PySem.W.mg_none_of X G b_isinstance, b_len := PySem.W.mg_none_of X G b_len, b_all := PySem.W.mg_none_of X G b_all, b_int := PySem.W.mg_none_of X G b_int, b_str := PySem.W.mg_none_of X G b_str, b_tuple := PySem.W.mg_none_of X G b_tuple, b_list := PySem.W.mg_none_of X G b_list, b_bool := PySem.W.mg_none_of X G b_bool, b_abs := PySem.W.mg_none_of X G b_abs, b_max := PySem.W.mg_none_of X G b_max, b_min := PySem.W.mg_none_of X G b_min, b_range := PySem.W.mg_none_of X G b_range, b_dict := PySem.W.mg_none_of X G b_dict, b_sorted := PySem.W.mg_none_of X G b_sorted, b_enumerate := PySem.W.mg_none_of X G b_enumerate }
  exact ⟨PySem.W.fnOf "law" "law" (defArgs s_law) (defBody s_law) (defScope s_law) .none kV_law dc_law pm_law an_law cd_law ct_law, fun s v => .of_eq rfl, fun base _ _ => ok_lawF T (fun_mk (st := s_law) l_law c_law k_law)⟩
theorem walk {l : PySem.W.OpenLaw} {q : Program} {loose : List Str} {XP : (Str → Option Value) → Heap → Prop} {YP : World → Heap → Prop} {d : DefRec} {K : Params → PySem.W.Frag} (hn : l.most = some 63) (hdf : d.params.defaults = [])
    (hY : ∀ (w : World) (h : Heap), YP w h → (K w.params).In h)
    (F : ∀ (w : World) (mg : Str → Option Value) (fa : Addr) (h : Heap), (K w.params).In h → h.Ns mainGlobals mg → mg d.name = some (.ref fa) →
      ∃ fd : FuncData, (∀ (s : Shared) (u : Value), BindsTo s fd ⟨[u], []⟩ [("_law_script", u)]) ∧ ∀ base : Heap, (K w.params).In base → base.Ns mainGlobals mg → FnOk l.prog w (K w.params) mg base CX0 9 fa fd ["_law_script"] (spLaw (K w.params))) :
    PySem.W.WalkO q loose XP YP l.row.toRowW d [] (fun f vs => PySem.call f vs) :=
  L2.walk_of (n := 63) (k := 9) (x := "_law_script") (CX := fun _ => CX0) (sp := fun w => spLaw (K w.params)) hn (by decide) hdf ⟨rfl, by decide, by decide⟩ hY F (fun _ _ a ns hl _ hS => ⟨a, ns, rfl, hS, hl, fun _ => rfl⟩) fun _ _ _ _ _ z => z
end
end K76
open PySem PySem.W PyProof.Rows
set_option maxRecDepth 100000 in
set_option maxHeartbeats 0 in
theorem PySem.Challenge.cw_roundline_k76_whole_calls_that_stand_holds : PySem.Challenge.rw_roundline_k76_whole_calls_that_stand.Holds := by
  w_on; o_law; k_head; (case hw => w_witness2)
  k_fill
  refine K76.walk (l := PySem.Challenge.rw_roundline_k76_whole_calls_that_stand) rfl rfl (fun w h Y => PySem.W.kIn_of Y) ?F
  case F =>
    intro w mg fa h KX G hmg
    refine' K76.all_mk KX G hmg ?aC_LineWork ?aC_Line ?aC_Plan ?aC_NothingToUndo ?aC_NoMark ?a_NoMark_init ?l_NoMark_init ?c_NoMark_init ?k_NoMark_init ?a_is_whole ?l_is_whole ?c_is_whole ?k_is_whole ?a_is_thing ?l_is_thing ?c_is_thing ?k_is_thing ?a_is_window ?l_is_window ?c_is_window ?k_is_window ?a_is_distance ?l_is_distance ?c_is_distance ?k_is_distance ?a_is_length ?l_is_length ?c_is_length ?k_is_length ?a_is_plain_deed ?l_is_plain_deed ?c_is_plain_deed ?k_is_plain_deed ?a_is_deed ?l_is_deed ?c_is_deed ?k_is_deed ?a_LineWork_init ?i_LineWork_init ?l_LineWork_init ?c_LineWork_init ?k_LineWork_init ?a_LineWork_spot_at ?i_LineWork_spot_at ?l_LineWork_spot_at ?c_LineWork_spot_at ?k_LineWork_spot_at ?a_LineWork_thing_at ?i_LineWork_thing_at ?l_LineWork_thing_at ?c_LineWork_thing_at ?k_LineWork_thing_at ?a_LineWork_shift ?i_LineWork_shift ?l_LineWork_shift ?c_LineWork_shift ?k_LineWork_shift ?a_LineWork_tell ?i_LineWork_tell ?l_LineWork_tell ?c_LineWork_tell ?k_LineWork_tell ?a_LineWork_look ?i_LineWork_look ?l_LineWork_look ?c_LineWork_look ?k_LineWork_look ?a_LineWork_peg ?i_LineWork_peg ?l_LineWork_peg ?c_LineWork_peg ?k_LineWork_peg ?a_LineWork_hang ?i_LineWork_hang ?l_LineWork_hang ?c_LineWork_hang ?k_LineWork_hang ?a_LineWork_fetch ?i_LineWork_fetch ?l_LineWork_fetch ?c_LineWork_fetch ?k_LineWork_fetch ?a_LineWork_walk ?i_LineWork_walk ?l_LineWork_walk ?c_LineWork_walk ?k_LineWork_walk ?a_LineWork_times_to ?i_LineWork_times_to ?l_LineWork_times_to ?c_LineWork_times_to ?k_LineWork_times_to ?a_Line_init ?i_Line_init ?l_Line_init ?c_Line_init ?k_Line_init ?a_Line_distance ?pg_Line_distance ?pt_Line_distance ?pr_Line_distance ?l_Line_distance ?c_Line_distance ?k_Line_distance ?a_Line_turn ?pg_Line_turn ?pt_Line_turn ?pr_Line_turn ?l_Line_turn ?c_Line_turn ?k_Line_turn ?a_Line_pulled ?pg_Line_pulled ?pt_Line_pulled ?pr_Line_pulled ?l_Line_pulled ?c_Line_pulled ?k_Line_pulled ?a_Line_len ?i_Line_len ?l_Line_len ?c_Line_len ?k_Line_len ?a_Line_remember ?i_Line_remember ?l_Line_remember ?c_Line_remember ?k_Line_remember ?a_Line_do ?i_Line_do ?l_Line_do ?c_Line_do ?k_Line_do ?a_Line_do_plan ?i_Line_do_plan ?l_Line_do_plan ?c_Line_do_plan ?k_Line_do_plan ?a_Line_undo ?i_Line_undo ?l_Line_undo ?c_Line_undo ?k_Line_undo ?a_Line_mark ?i_Line_mark ?l_Line_mark ?c_Line_mark ?k_Line_mark ?a_Line_back_to ?i_Line_back_to ?l_Line_back_to ?c_Line_back_to ?k_Line_back_to ?a_Line_things ?i_Line_things ?l_Line_things ?c_Line_things ?k_Line_things ?a_Line_at ?i_Line_at ?l_Line_at ?c_Line_at ?k_Line_at ?a_Plan_init ?i_Plan_init ?l_Plan_init ?c_Plan_init ?k_Plan_init ?a_Plan_deeds ?i_Plan_deeds ?l_Plan_deeds ?c_Plan_deeds ?k_Plan_deeds ?a_law_well ?l_law_well ?c_law_well ?k_law_well ?a_law_draw ?l_law_draw ?c_law_draw ?k_law_draw ?a_law_pick ?l_law_pick ?c_law_pick ?k_law_pick ?a_law_things ?l_law_things ?c_law_things ?k_law_things ?a_law_plain ?l_law_plain ?c_law_plain ?k_law_plain ?a_law_deed ?l_law_deed ?c_law_deed ?k_law_deed ?a_law_distance ?l_law_distance ?c_law_distance ?k_law_distance ?a_law_same ?l_law_same ?c_law_same ?k_law_same ?a_law_stand ?l_law_stand ?c_law_stand ?k_law_stand ?a_law_made ?l_law_made ?c_law_made ?k_law_made ?a_law_went ?l_law_went ?c_law_went ?k_law_went ?a_law_new_line ?l_law_new_line ?c_law_new_line ?k_law_new_line ?a_law_kept ?l_law_kept ?c_law_kept ?k_law_kept ?a_law_alike ?l_law_alike ?c_law_alike ?k_law_alike ?a_law_turn ?l_law_turn ?c_law_turn ?k_law_turn ?a_law ?l_law ?c_law ?k_law ?l_tD ?pg_cLineWork ?hd_cLineWork ?po_cLineWork ?sa_cLineWork ?mk_cLineWork ?kc_cLineWork ?n_LineWork_half ?n_LineWork_stand ?n_LineWork_hung ?n_LineWork_lengths ?pg_cLine ?hd_cLine ?po_cLine ?sa_cLine ?mk_cLine ?kc_cLine ?n_Line_length ?n_Line_work ?n_Line_done ?n_Line_earlier ?n_Line_marks ?pg_cPlan ?hd_cPlan ?po_cPlan ?sa_cPlan ?mk_cPlan ?kc_cPlan ?n_Plan_kept ?q_LETTERS ?a_WINDOWS ?l_WINDOWS ?q_LONGEST_THING ?q_GREATEST_DISTANCE ?q_GREATEST_PULL ?q_GREATEST_STEP ?q_MOST_DEEDS ?x_NTU ?k_NTU ?s_NTU ?t_NTU ?z_NTU ?ss_NTU ?lk_NM ?sa_NM ?k_NM ?s_NM ?t_NM ?z_NM ?ss_NM ?sn_NM ?ti_NM ?n_NM ?b_isinstance ?b_len ?b_all ?b_int ?b_str ?b_tuple ?b_list ?b_bool ?b_abs ?b_max ?b_min ?b_range ?b_dict ?b_sorted ?b_enumerate
    (case aC_LineWork => k_is)
    (case aC_Line => k_is)
    (case aC_Plan => k_is)
    (case aC_NothingToUndo => k_is)
    (case aC_NoMark => k_is)
    (case a_NoMark_init => k_is)
    (case l_NoMark_init => k_is)
    (case c_NoMark_init => k_is)
    (case k_NoMark_init => k_is)
    (case a_is_whole => k_is)
    (case l_is_whole => k_is)
    (case c_is_whole => k_is)
    (case k_is_whole => k_is)
    (case a_is_thing => k_is)
    (case l_is_thing => k_is)
    (case c_is_thing => k_is)
    (case k_is_thing => k_is)
    (case a_is_window => k_is)
    (case l_is_window => k_is)
    (case c_is_window => k_is)
    (case k_is_window => k_is)
    (case a_is_distance => k_is)
    (case l_is_distance => k_is)
    (case c_is_distance => k_is)
    (case k_is_distance => k_is)
    (case a_is_length => k_is)
    (case l_is_length => k_is)
    (case c_is_length => k_is)
    (case k_is_length => k_is)
    (case a_is_plain_deed => k_is)
    (case l_is_plain_deed => k_is)
    (case c_is_plain_deed => k_is)
    (case k_is_plain_deed => k_is)
    (case a_is_deed => k_is)
    (case l_is_deed => k_is)
    (case c_is_deed => k_is)
    (case k_is_deed => k_is)
    (case a_LineWork_init => k_is)
    (case i_LineWork_init => k_is)
    (case l_LineWork_init => k_is)
    (case c_LineWork_init => k_is)
    (case k_LineWork_init => k_is)
    (case a_LineWork_spot_at => k_is)
    (case i_LineWork_spot_at => k_is)
    (case l_LineWork_spot_at => k_is)
    (case c_LineWork_spot_at => k_is)
    (case k_LineWork_spot_at => k_is)
    (case a_LineWork_thing_at => k_is)
    (case i_LineWork_thing_at => k_is)
    (case l_LineWork_thing_at => k_is)
    (case c_LineWork_thing_at => k_is)
    (case k_LineWork_thing_at => k_is)
    (case a_LineWork_shift => k_is)
    (case i_LineWork_shift => k_is)
    (case l_LineWork_shift => k_is)
    (case c_LineWork_shift => k_is)
    (case k_LineWork_shift => k_is)
    (case a_LineWork_tell => k_is)
    (case i_LineWork_tell => k_is)
    (case l_LineWork_tell => k_is)
    (case c_LineWork_tell => k_is)
    (case k_LineWork_tell => k_is)
    (case a_LineWork_look => k_is)
    (case i_LineWork_look => k_is)
    (case l_LineWork_look => k_is)
    (case c_LineWork_look => k_is)
    (case k_LineWork_look => k_is)
    (case a_LineWork_peg => k_is)
    (case i_LineWork_peg => k_is)
    (case l_LineWork_peg => k_is)
    (case c_LineWork_peg => k_is)
    (case k_LineWork_peg => k_is)
    (case a_LineWork_hang => k_is)
    (case i_LineWork_hang => k_is)
    (case l_LineWork_hang => k_is)
    (case c_LineWork_hang => k_is)
    (case k_LineWork_hang => k_is)
    (case a_LineWork_fetch => k_is)
    (case i_LineWork_fetch => k_is)
    (case l_LineWork_fetch => k_is)
    (case c_LineWork_fetch => k_is)
    (case k_LineWork_fetch => k_is)
    (case a_LineWork_walk => k_is)
    (case i_LineWork_walk => k_is)
    (case l_LineWork_walk => k_is)
    (case c_LineWork_walk => k_is)
    (case k_LineWork_walk => k_is)
    (case a_LineWork_times_to => k_is)
    (case i_LineWork_times_to => k_is)
    (case l_LineWork_times_to => k_is)
    (case c_LineWork_times_to => k_is)
    (case k_LineWork_times_to => k_is)
    (case a_Line_init => k_is)
    (case i_Line_init => k_is)
    (case l_Line_init => k_is)
    (case c_Line_init => k_is)
    (case k_Line_init => k_is)
    (case a_Line_distance => k_is)
    (case pg_Line_distance => k_is)
    (case pt_Line_distance => k_is)
    (case pr_Line_distance => k_is)
    (case l_Line_distance => k_is)
    (case c_Line_distance => k_is)
    (case k_Line_distance => k_is)
    (case a_Line_turn => k_is)
    (case pg_Line_turn => k_is)
    (case pt_Line_turn => k_is)
    (case pr_Line_turn => k_is)
    (case l_Line_turn => k_is)
    (case c_Line_turn => k_is)
    (case k_Line_turn => k_is)
    (case a_Line_pulled => k_is)
    (case pg_Line_pulled => k_is)
    (case pt_Line_pulled => k_is)
    (case pr_Line_pulled => k_is)
    (case l_Line_pulled => k_is)
    (case c_Line_pulled => k_is)
    (case k_Line_pulled => k_is)
    (case a_Line_len => k_is)
    (case i_Line_len => k_is)
    (case l_Line_len => k_is)
    (case c_Line_len => k_is)
    (case k_Line_len => k_is)
    (case a_Line_remember => k_is)
    (case i_Line_remember => k_is)
    (case l_Line_remember => k_is)
    (case c_Line_remember => k_is)
    (case k_Line_remember => k_is)
    (case a_Line_do => k_is)
    (case i_Line_do => k_is)
    (case l_Line_do => k_is)
    (case c_Line_do => k_is)
    (case k_Line_do => k_is)
    (case a_Line_do_plan => k_is)
    (case i_Line_do_plan => k_is)
    (case l_Line_do_plan => k_is)
    (case c_Line_do_plan => k_is)
    (case k_Line_do_plan => k_is)
    (case a_Line_undo => k_is)
    (case i_Line_undo => k_is)
    (case l_Line_undo => k_is)
    (case c_Line_undo => k_is)
    (case k_Line_undo => k_is)
    (case a_Line_mark => k_is)
    (case i_Line_mark => k_is)
    (case l_Line_mark => k_is)
    (case c_Line_mark => k_is)
    (case k_Line_mark => k_is)
    (case a_Line_back_to => k_is)
    (case i_Line_back_to => k_is)
    (case l_Line_back_to => k_is)
    (case c_Line_back_to => k_is)
    (case k_Line_back_to => k_is)
    (case a_Line_things => k_is)
    (case i_Line_things => k_is)
    (case l_Line_things => k_is)
    (case c_Line_things => k_is)
    (case k_Line_things => k_is)
    (case a_Line_at => k_is)
    (case i_Line_at => k_is)
    (case l_Line_at => k_is)
    (case c_Line_at => k_is)
    (case k_Line_at => k_is)
    (case a_Plan_init => k_is)
    (case i_Plan_init => k_is)
    (case l_Plan_init => k_is)
    (case c_Plan_init => k_is)
    (case k_Plan_init => k_is)
    (case a_Plan_deeds => k_is)
    (case i_Plan_deeds => k_is)
    (case l_Plan_deeds => k_is)
    (case c_Plan_deeds => k_is)
    (case k_Plan_deeds => k_is)
    (case a_law_well => k_is)
    (case l_law_well => k_is)
    (case c_law_well => k_is)
    (case k_law_well => k_is)
    (case a_law_draw => k_is)
    (case l_law_draw => k_is)
    (case c_law_draw => k_is)
    (case k_law_draw => k_is)
    (case a_law_pick => k_is)
    (case l_law_pick => k_is)
    (case c_law_pick => k_is)
    (case k_law_pick => k_is)
    (case a_law_things => k_is)
    (case l_law_things => k_is)
    (case c_law_things => k_is)
    (case k_law_things => k_is)
    (case a_law_plain => k_is)
    (case l_law_plain => k_is)
    (case c_law_plain => k_is)
    (case k_law_plain => k_is)
    (case a_law_deed => k_is)
    (case l_law_deed => k_is)
    (case c_law_deed => k_is)
    (case k_law_deed => k_is)
    (case a_law_distance => k_is)
    (case l_law_distance => k_is)
    (case c_law_distance => k_is)
    (case k_law_distance => k_is)
    (case a_law_same => k_is)
    (case l_law_same => k_is)
    (case c_law_same => k_is)
    (case k_law_same => k_is)
    (case a_law_stand => k_is)
    (case l_law_stand => k_is)
    (case c_law_stand => k_is)
    (case k_law_stand => k_is)
    (case a_law_made => k_is)
    (case l_law_made => k_is)
    (case c_law_made => k_is)
    (case k_law_made => k_is)
    (case a_law_went => k_is)
    (case l_law_went => k_is)
    (case c_law_went => k_is)
    (case k_law_went => k_is)
    (case a_law_new_line => k_is)
    (case l_law_new_line => k_is)
    (case c_law_new_line => k_is)
    (case k_law_new_line => k_is)
    (case a_law_kept => k_is)
    (case l_law_kept => k_is)
    (case c_law_kept => k_is)
    (case k_law_kept => k_is)
    (case a_law_alike => k_is)
    (case l_law_alike => k_is)
    (case c_law_alike => k_is)
    (case k_law_alike => k_is)
    (case a_law_turn => k_is)
    (case l_law_turn => k_is)
    (case c_law_turn => k_is)
    (case k_law_turn => k_is)
    (case a_law => k_is)
    (case l_law => k_is)
    (case c_law => k_is)
    (case k_law => k_is)
    (case l_tD => k_is)
    (case pg_cLineWork => k_is)
    (case hd_cLineWork => k_is)
    (case po_cLineWork => k_is)
    (case sa_cLineWork => k_is)
    (case mk_cLineWork => k_is)
    (case kc_cLineWork => k_is)
    (case n_LineWork_half => k_is)
    (case n_LineWork_stand => k_is)
    (case n_LineWork_hung => k_is)
    (case n_LineWork_lengths => k_is)
    (case pg_cLine => k_is)
    (case hd_cLine => k_is)
    (case po_cLine => k_is)
    (case sa_cLine => k_is)
    (case mk_cLine => k_is)
    (case kc_cLine => k_is)
    (case n_Line_length => k_is)
    (case n_Line_work => k_is)
    (case n_Line_done => k_is)
    (case n_Line_earlier => k_is)
    (case n_Line_marks => k_is)
    (case pg_cPlan => k_is)
    (case hd_cPlan => k_is)
    (case po_cPlan => k_is)
    (case sa_cPlan => k_is)
    (case mk_cPlan => k_is)
    (case kc_cPlan => k_is)
    (case n_Plan_kept => k_is)
    (case q_LETTERS => k_is)
    (case a_WINDOWS => k_is)
    (case l_WINDOWS => k_is)
    (case q_LONGEST_THING => k_is)
    (case q_GREATEST_DISTANCE => k_is)
    (case q_GREATEST_PULL => k_is)
    (case q_GREATEST_STEP => k_is)
    (case q_MOST_DEEDS => k_is)
    (case x_NTU => first | k_exc | k_is)
    (case k_NTU => k_is)
    (case s_NTU => k_is)
    (case t_NTU => k_is)
    (case z_NTU => k_is)
    (case ss_NTU => first | rfl | k_is)
    (case lk_NM => k_is)
    (case sa_NM => k_is)
    (case k_NM => k_is)
    (case s_NM => k_is)
    (case t_NM => k_is)
    (case z_NM => k_is)
    (case ss_NM => first | rfl | k_is)
    (case sn_NM => first | rfl | k_is)
    (case ti_NM => k_is)
    (case n_NM => k_is)
    (case b_isinstance => k_is)
    (case b_len => k_is)
    (case b_all => k_is)
    (case b_int => k_is)
    (case b_str => k_is)
    (case b_tuple => k_is)
    (case b_list => k_is)
    (case b_bool => k_is)
    (case b_abs => k_is)
    (case b_max => k_is)
    (case b_min => k_is)
    (case b_range => k_is)
    (case b_dict => k_is)
    (case b_sorted => k_is)
    (case b_enumerate => k_is)
