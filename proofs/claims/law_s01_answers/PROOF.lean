import PyProof.Rows.All
import PyKh430
import Wide.All
import OpenK.AllK
import Wide.FinOn
import Open.SpecLaws
import KE.OsGo
import HandS.ForSpec
import HandS.ForMost
import HandS.TryMany
import HandS.ExcSuper
import HandS.ExcInit
import HandS.ExcField
import HandS.Evl
import HandS.Walk
import HandS.SortKw
import HandS.WideBits
import KE.KMinKey
import PySem.Challenge.RW_coldhall_s01_answers
set_option Elab.async false
set_option linter.all false
set_option maxRecDepth 100000
set_option maxHeartbeats 4000000
/-! Plain law: what the loops of the program compute, against the specification's functions. -/
namespace Cold
open Kh430

/-! ### searching in a range -/
theorem find_hit {p : Nat → Bool} {n i : Nat} (hi : i < n) (hp : p i = true) (hb : ∀ j, j < i → p j = false) : (List.range n).find? p = some i := by
  induction n with
  | zero => omega
  | succ n ih =>
    rw [List.range_succ, List.find?_append]
    by_cases h : i < n
    · rw [ih h]; rfl
    · have e : i = n := by omega
      subst e
      have : (List.range i).find? p = none := by
        rw [List.find?_eq_none]
        intro x hx
        rw [hb x (List.mem_range.mp hx)]
        exact Bool.false_ne_true
      rw [this]
      simp [hp]
theorem find_miss {p : Nat → Bool} {n : Nat} (hb : ∀ j, j < n → p j = false) : (List.range n).find? p = none := by
  rw [List.find?_eq_none]
  intro x hx
  rw [hb x (List.mem_range.mp hx)]
  exact Bool.false_ne_true
theorem some_hit {α : Type} {P : Nat → Bool} {f : Nat → Option α} {r : α} {n i : Nat} (hi : i < n) (hp : P i = true) (hr : f i = some r) (hb : ∀ j, j < i → P j = true → f j = none) :
    ((List.range n).filter P).findSome? f = some r := by
  induction n with
  | zero => omega
  | succ n ih =>
    rw [List.range_succ, List.filter_append, List.findSome?_append]
    by_cases h : i < n
    · rw [ih h]; rfl
    · have e : i = n := by omega
      subst e
      have : ((List.range i).filter P).findSome? f = none := by
        rw [List.findSome?_eq_none_iff]
        intro x hx
        obtain ⟨h1, h2⟩ := List.mem_filter.mp hx
        exact hb x (List.mem_range.mp h1) h2
      rw [this]
      simp [hp, hr]
theorem some_miss {α : Type} {P : Nat → Bool} {f : Nat → Option α} {n : Nat} (hb : ∀ j, j < n → P j = true → f j = none) :
    ((List.range n).filter P).findSome? f = none := by
  rw [List.findSome?_eq_none_iff]
  intro x hx
  obtain ⟨h1, h2⟩ := List.mem_filter.mp hx
  exact hb x (List.mem_range.mp h1) h2
theorem filter_more {p : Nat → Bool} {a : Nat} : ∀ k, (∀ i, a ≤ i → p i = false) → (List.range (a + k)).filter p = (List.range a).filter p
  | 0, _ => rfl
  | k + 1, h => by
    rw [← Nat.add_assoc, List.range_succ, List.filter_append, filter_more k h]
    simp [h (a + k) (by omega)]

/-! ### masks -/
def bl (m : Nat) : Nat := if m = 0 then 0 else m.log2 + 1
def membersOf (m : Nat) : List Nat := (List.range (bl m)).filter (isMember m)
theorem lt_bl (m : Nat) : m < 2 ^ bl m := by
  unfold bl
  by_cases h : m = 0
  · simp [h]
  · rw [if_neg h]
    exact Nat.lt_log2_self
theorem bl_le {m n : Nat} (h : m < 2 ^ n) : bl m ≤ n := by
  unfold bl
  by_cases h0 : m = 0
  · simp [h0]
  · rw [if_neg h0]
    exact (Nat.log2_lt h0).mpr h
theorem not_member {m i : Nat} (h : m < 2 ^ i) : isMember m i = false := by
  unfold isMember
  rw [Nat.div_eq_of_lt h]
  rfl
theorem members_eq {m n : Nat} (h : m < 2 ^ n) : membersOf m = members n m := by
  obtain ⟨k, hk⟩ := Nat.exists_eq_add_of_le (bl_le h)
  unfold membersOf members
  rw [hk]
  exact (filter_more k fun i hi => not_member (Nat.lt_of_lt_of_le (lt_bl m) (Nat.pow_le_pow_right (by decide) hi))).symm
theorem mem_members {m n i : Nat} : i ∈ members n m ↔ i < n ∧ isMember m i = true := by
  unfold members
  rw [List.mem_filter, List.mem_range]
theorem members_zero (n : Nat) : members n 0 = [] := by
  unfold members
  rw [List.filter_eq_nil_iff]
  intro i _
  rw [not_member (Nat.two_pow_pos i)]
  exact Bool.false_ne_true
theorem isMember_zero (i : Nat) : isMember 0 i = false := not_member (Nat.two_pow_pos i)
theorem members_len (n m : Nat) : (members n m).length ≤ n := by
  have h := List.length_filter_le (isMember m) (List.range n)
  rw [List.length_range] at h
  exact h
theorem member_digit (m i : Nat) : (if isMember m i = true then 1 else 0) = m / 2 ^ i % 2 := by
  unfold isMember
  have h : m / 2 ^ i % 2 < 2 := Nat.mod_lt _ (by decide)
  by_cases e : m / 2 ^ i % 2 = 1
  · rw [e]; rfl
  · have e0 : m / 2 ^ i % 2 = 0 := by omega
    rw [e0]; rfl
theorem all_lots_member {n i : Nat} (h : i < n) : isMember (2 ^ n - 1) i = true := by
  have := Nat.testBit_two_pow_sub_one n i
  unfold isMember
  rw [Nat.testBit_eq_decide_div_mod_eq] at this
  simp [h] at this
  simp [this]

/-! ### the store's shape -/
structure Ok (s : Store) : Prop where
  c1 : 1 ≤ s.coldLoss
  cw : s.coldLoss < s.warmLoss
  w20 : s.warmLoss ≤ 20
  cap : s.capacity ≤ 4
  n4 : s.lots.length ≤ 4
  hrs : ∀ x ∈ s.lots, 1 ≤ x.hours ∧ x.hours ≤ 6
  life : ∀ x ∈ s.lots, x.life ≤ 99
theorem lotAt_get {s : Store} {i : Nat} {x : Lot} (h : s.lots[i]? = some x) : lotAt s i = x := by
  unfold lotAt
  rw [List.getD_eq_getElem?_getD, h]
  rfl
theorem get_lotAt {s : Store} {i : Nat} (h : i < s.lots.length) : s.lots[i]? = some (lotAt s i) := by
  rw [List.getElem?_eq_getElem h]
  unfold lotAt
  rw [List.getD_eq_getElem?_getD, List.getElem?_eq_getElem h]
  rfl
theorem lotAt_mem {s : Store} {i : Nat} (h : i < s.lots.length) : lotAt s i ∈ s.lots := List.mem_of_getElem? (get_lotAt h)

/-! ### greatest hours -/
theorem foldl_max_ge : ∀ (l : List Nat) (a : Nat), a ≤ l.foldl max a
  | [], _ => Nat.le_refl _
  | x :: r, a => Nat.le_trans (Nat.le_max_left a x) (foldl_max_ge r (max a x))
theorem foldl_max_mem : ∀ (l : List Nat) (a x : Nat), x ∈ l → x ≤ l.foldl max a
  | [], _, _, h => by cases h
  | y :: r, a, x, h => by
    rcases List.mem_cons.mp h with rfl | h
    · exact Nat.le_trans (Nat.le_max_right a x) (foldl_max_ge r (max a x))
    · exact foldl_max_mem r (max a y) x h
theorem foldl_max_is : ∀ (l : List Nat) (a : Nat), l.foldl max a = a ∨ l.foldl max a ∈ l
  | [], _ => .inl rfl
  | y :: r, a => by
    show r.foldl max (max a y) = a ∨ r.foldl max (max a y) ∈ y :: r
    rcases foldl_max_is r (max a y) with h | h
    · rw [h]
      rcases Nat.le_total a y with q | q
      · rw [Nat.max_eq_right q]; exact .inr List.mem_cons_self
      · rw [Nat.max_eq_left q]; exact .inl rfl
    · exact .inr (List.mem_cons_of_mem _ h)
theorem horizon_ge {s : Store} {i : Nat} (h : i < s.lots.length) : (lotAt s i).hours ≤ horizon s := by
  unfold horizon
  exact foldl_max_mem _ 0 _ (List.mem_map.mpr ⟨_, lotAt_mem h, rfl⟩)
theorem horizon_le {s : Store} {k : Nat} (h : ∀ x ∈ s.lots, x.hours ≤ k) : horizon s ≤ k := by
  unfold horizon
  rcases foldl_max_is (s.lots.map Lot.hours) 0 with e | e
  · rw [e]; exact Nat.zero_le _
  · obtain ⟨x, hx, ex⟩ := List.mem_map.mp e
    rw [← ex]
    exact h x hx
theorem horizon_six {s : Store} (k : Ok s) : horizon s ≤ 6 := horizon_le fun x hx => (k.hrs x hx).2
theorem horizon_pos {s : Store} (k : Ok s) (h : s.lots ≠ []) : 1 ≤ horizon s := by
  cases e : s.lots with
  | nil => exact absurd e h
  | cons x r =>
    have hl : 0 < s.lots.length := by rw [e]; exact Nat.succ_pos _
    exact Nat.le_trans (k.hrs _ (lotAt_mem hl)).1 (horizon_ge hl)
/-- what max(.., default=0) gives is the horizon -/
theorem horizon_is {s : Store} {M : Int} (h0 : s.lots = [] → M = 0) (h1 : s.lots ≠ [] → M ∈ s.lots.map (fun x => (x.hours : Int)) ∧ ∀ a ∈ s.lots.map (fun x => (x.hours : Int)), a ≤ M) : M = (horizon s : Int) := by
  by_cases e : s.lots = []
  · rw [h0 e]
    unfold horizon
    rw [e]; rfl
  · obtain ⟨a, b⟩ := h1 e
    obtain ⟨x, hx, ex⟩ := List.mem_map.mp a
    have g1 : horizon s ≤ x.hours := horizon_le fun y hy => by
      have := b _ (List.mem_map.mpr ⟨y, hy, rfl⟩)
      omega
    have g2 : x.hours ≤ horizon s := foldl_max_mem _ 0 _ (List.mem_map.mpr ⟨x, hx, rfl⟩)
    omega

/-! ### cold hours needed -/
def fits (s : Store) (x : Lot) (k : Nat) : Bool := decide (k * s.coldLoss + (x.hours - k) * s.warmLoss ≤ x.life)
theorem chn (s : Store) (x : Lot) : coldHoursNeeded s x = (List.range (x.hours + 1)).find? (fits s x) := rfl
def needI (s : Store) (x : Lot) : Int := match coldHoursNeeded s x with
  | none => -1
  | some k => (k : Int)
theorem need_hit {s : Store} {x : Lot} {i : Nat} (hi : i < x.hours + 1) (hp : fits s x i = true) (hb : ∀ j, j < i → fits s x j = false) : needI s x = (i : Int) := by
  unfold needI
  rw [chn, find_hit (p := fits s x) hi hp hb]
theorem need_miss {s : Store} {x : Lot} (hb : ∀ j, j < x.hours + 1 → fits s x j = false) : needI s x = -1 := by
  unfold needI
  rw [chn, find_miss (p := fits s x) hb]
theorem fits_int {s : Store} {x : Lot} {k : Nat} (h : k ≤ x.hours) : decide ((k : Int) * (s.coldLoss : Int) + ((x.hours : Int) - (k : Int)) * (s.warmLoss : Int) ≤ (x.life : Int)) = fits s x k := by
  unfold fits
  have e : ((x.hours : Int) - (k : Int)) = ((x.hours - k : Nat) : Int) := by omega
  rw [e, ← Int.natCast_mul, ← Int.natCast_mul, ← Int.natCast_add]
  exact decide_eq_decide.mpr Int.ofNat_le
theorem need_le {s : Store} {x : Lot} {k : Nat} (h : coldHoursNeeded s x = some k) : k ≤ x.hours := by
  have := List.mem_of_find?_eq_some h
  have := List.mem_range.mp this
  omega
theorem needI_ge (s : Store) (x : Lot) : -1 ≤ needI s x := by
  unfold needI
  split <;> omega
theorem needI_le (s : Store) (x : Lot) : needI s x ≤ x.hours := by
  unfold needI
  split
  · omega
  · rename_i k h
    have := need_le h
    omega
theorem needI_neg {s : Store} {x : Lot} : needI s x < 0 ↔ coldHoursNeeded s x = none := by
  unfold needI
  split
  · rename_i h; simp [h]
  · rename_i k h; simp [h]
end Cold

namespace Cold
open Kh430

/-! ### plans -/
def wantI (s : Store) (m i : Nat) : Int := if isMember m i = true then needI s (lotAt s i) else 0
def wantO (s : Store) (m i : Nat) : Option Nat := if isMember m i = true then coldHoursNeeded s (lotAt s i) else some 0
def wants (s : Store) (m : Nat) : List Nat := (List.range s.lots.length).map fun i => (wantO s m i).getD 0
theorem wants_length (s : Store) (m : Nat) : (wants s m).length = s.lots.length := by simp [wants]
theorem want_neg {s : Store} {m i : Nat} : wantI s m i < 0 ↔ wantO s m i = none := by
  unfold wantI wantO
  split
  · exact needI_neg
  · simp
theorem want_pos {s : Store} {m i : Nat} (h : ¬ wantI s m i < 0) : wantI s m i = (((wantO s m i).getD 0 : Nat) : Int) := by
  unfold wantI wantO at *
  split
  · rename_i e
    rw [if_pos e] at h
    unfold needI at *
    split
    · rename_i q; rw [q] at h; simp at h
    · rename_i k q; rw [q]; rfl
  · rfl
theorem planFor_eq (s : Store) (m : Nat) : planFor s m = if ((List.range s.lots.length).map (wantO s m)).any Option.isNone = true then none else searchPlan s (horizon s) 0 (wants s m) := by
  show (if ((List.range s.lots.length).map (wantO s m)).any Option.isNone = true then none else searchPlan s (horizon s) 0 (((List.range s.lots.length).map (wantO s m)).map fun x => x.getD 0)) = _
  rw [List.map_map]
  rfl
theorem planFor_bad {s : Store} {m i : Nat} (hi : i < s.lots.length) (h : wantI s m i < 0) : planFor s m = none := by
  rw [planFor_eq, if_pos]
  rw [List.any_eq_true]
  exact ⟨_, List.mem_map.mpr ⟨i, List.mem_range.mpr hi, rfl⟩, by rw [want_neg.mp h]; rfl⟩
theorem planFor_good {s : Store} {m : Nat} (h : ∀ i, i < s.lots.length → ¬ wantI s m i < 0) : planFor s m = searchPlan s (horizon s) 0 (wants s m) := by
  rw [planFor_eq, if_neg]
  rw [List.any_eq_true]
  rintro ⟨x, hx, e⟩
  obtain ⟨i, hi, rfl⟩ := List.mem_map.mp hx
  refine h i (List.mem_range.mp hi) (want_neg.mpr ?_)
  cases q : wantO s m i with
  | none => rfl
  | some k => rw [q] at e; cases e
/-- min(needs, default=0) -/
theorem min_bad {s : Store} {m : Nat} {M : Int} (h0 : s.lots.length = 0 → M = 0) (h1 : s.lots.length ≠ 0 → (∃ i, i < s.lots.length ∧ M = wantI s m i) ∧ ∀ i, i < s.lots.length → M ≤ wantI s m i) :
    (M < 0 → planFor s m = none) ∧ (¬ M < 0 → planFor s m = searchPlan s (horizon s) 0 (wants s m) ∧ ∀ i, i < s.lots.length → wantI s m i = (((wantO s m i).getD 0 : Nat) : Int)) := by
  constructor
  · intro h
    by_cases e : s.lots.length = 0
    · rw [h0 e] at h; omega
    · obtain ⟨⟨i, hi, rfl⟩, _⟩ := h1 e
      exact planFor_bad hi h
  · intro h
    have q : ∀ i, i < s.lots.length → ¬ wantI s m i < 0 := fun i hi hz => by
      have := (h1 (by omega)).2 i hi
      omega
    exact ⟨planFor_good q, fun i hi => want_pos (q i hi)⟩

def over (s : Store) (t : Nat) (nd : List Nat) (i : Nat) : Bool := decide ((lotAt s i).hours - t < nd.getD i 0)
def cands (s : Store) (t : Nat) (nd : List Nat) : List Nat := (List.range nd.length).filter fun i => decide (1 ≤ nd.getD i 0) && decide (t < (lotAt s i).hours)
def step1 (nd : List Nat) (mask : Nat) : List Nat := (List.range nd.length).map fun i => nd.getD i 0 - if isMember mask i = true then 1 else 0
def pick (s : Store) (t : Nat) (nd : List Nat) (mask : Nat) : Bool := (members nd.length mask).all (cands s t nd).contains && (members nd.length mask).length == min s.capacity (cands s t nd).length
theorem step1_length (nd : List Nat) (mask : Nat) : (step1 nd mask).length = nd.length := by simp [step1]
theorem search_zero (s : Store) (t : Nat) (nd : List Nat) : searchPlan s 0 t nd = if nd.all (· == 0) = true then some [] else none := rfl
theorem search_succ (s : Store) (f t : Nat) (nd : List Nat) : searchPlan s (f + 1) t nd = if (List.range nd.length).any (over s t nd) = true then none else
    ((List.range (2 ^ nd.length)).filter (pick s t nd)).findSome? fun mask => (searchPlan s f (t + 1) (step1 nd mask)).map fun rest => mask :: rest := rfl
theorem getD_of {nd : List Nat} {i k : Nat} (h : nd[i]? = some k) : nd.getD i 0 = k := by
  rw [List.getD_eq_getElem?_getD, h]; rfl
theorem get_of_lt {nd : List Nat} {i : Nat} (h : i < nd.length) : nd[i]? = some (nd.getD i 0) := by
  rw [List.getElem?_eq_getElem h, List.getD_eq_getElem?_getD, List.getElem?_eq_getElem h]; rfl
/-- some lot still needs more hours than it has: no plan, whatever hours are left -/
theorem search_over {s : Store} {f t i k : Nat} {nd : List Nat} (hn : nd.length = s.lots.length) (hf : f + t = horizon s) (hi : nd[i]? = some k) (h : (lotAt s i).hours - t < k) : searchPlan s f t nd = none := by
  have hl : i < nd.length := by
    rcases Nat.lt_or_ge i nd.length with q | q
    · exact q
    · rw [List.getElem?_eq_none q] at hi; cases hi
  cases f with
  | zero =>
    rw [search_zero, if_neg]
    intro q
    rw [List.all_eq_true] at q
    have := q k (List.mem_of_getElem? hi)
    have := horizon_ge (s := s) (i := i) (by omega)
    have : k = 0 := by simpa using q k (List.mem_of_getElem? hi)
    omega
  | succ f =>
    rw [search_succ, if_pos]
    rw [List.any_eq_true]
    exact ⟨i, List.mem_range.mpr hl, decide_eq_true (by rw [getD_of hi]; exact h)⟩
/-- at the last hour nothing is needed any more -/
theorem search_end {s : Store} {t : Nat} {nd : List Nat} (hn : nd.length = s.lots.length) (ht : t = horizon s) (h : ∀ i k, nd[i]? = some k → ¬ (lotAt s i).hours - t < k) : searchPlan s 0 t nd = some [] := by
  rw [search_zero, if_pos]
  rw [List.all_eq_true]
  intro k hk
  obtain ⟨i, hi⟩ := List.mem_iff_getElem?.mp hk
  have h1 := h i k hi
  have hl : i < nd.length := by
    rcases Nat.lt_or_ge i nd.length with q | q
    · exact q
    · rw [List.getElem?_eq_none q] at hi; cases hi
  have := horizon_ge (s := s) (i := i) (by omega)
  have : k = 0 := by omega
  simp [this]
theorem search_go {s : Store} {f t : Nat} {nd : List Nat} (h : ∀ i k, nd[i]? = some k → ¬ (lotAt s i).hours - t < k) :
    searchPlan s (f + 1) t nd = ((List.range (2 ^ nd.length)).filter (pick s t nd)).findSome? fun mask => (searchPlan s f (t + 1) (step1 nd mask)).map fun rest => mask :: rest := by
  rw [search_succ, if_neg]
  rw [List.any_eq_true]
  rintro ⟨i, hi, e⟩
  have hl := List.mem_range.mp hi
  exact h i _ (get_of_lt hl) (of_decide_eq_true e)
/-- the program's own test of a mask -/
def cand2 (nd : List Nat) : List Nat := (List.range nd.length).filter fun i => decide (0 < nd.getD i 0)
theorem cands_eq {s : Store} {t : Nat} {nd : List Nat} (h : ∀ i k, nd[i]? = some k → ¬ (lotAt s i).hours - t < k) : cands s t nd = cand2 nd := by
  unfold cands cand2
  apply List.filter_congr
  intro i hi
  have hl := List.mem_range.mp hi
  have := h i _ (get_of_lt hl)
  by_cases q : 0 < nd.getD i 0
  · have a : 1 ≤ nd.getD i 0 := q
    have b : t < (lotAt s i).hours := by omega
    rw [decide_eq_true a, decide_eq_true b, decide_eq_true q]; rfl
  · have a : ¬ 1 ≤ nd.getD i 0 := by omega
    rw [decide_eq_false a, decide_eq_false q]; rfl
theorem pick_eq {s : Store} {t mask : Nat} {nd : List Nat} (h : ∀ i k, nd[i]? = some k → ¬ (lotAt s i).hours - t < k) (hm : mask < 2 ^ nd.length) :
    pick s t nd mask = (decide ((membersOf mask).length = min s.capacity (cand2 nd).length) && (membersOf mask).all fun i => decide (0 < nd.getD i 0)) := by
  unfold pick
  rw [cands_eq h, members_eq hm, Bool.and_comm]
  congr 1
  rw [Bool.eq_iff_iff, List.all_eq_true, List.all_eq_true]
  constructor
  · intro q i hi
    have a := q i hi
    rw [List.contains_iff_mem] at a
    exact (List.mem_filter.mp a).2
  · intro q i hi
    rw [List.contains_iff_mem]
    exact List.mem_filter.mpr ⟨List.mem_range.mpr (mem_members.mp hi).1, q i hi⟩
theorem step1_int {nd : List Nat} {mask i k : Nat} (hi : nd[i]? = some k) (hm : mask < 2 ^ nd.length) (hp : ((membersOf mask).all fun i => decide (0 < nd.getD i 0)) = true) :
    (step1 nd mask)[i]? = some (k - mask / 2 ^ i % 2) ∧ (k : Int) - ((mask / 2 ^ i % 2 : Nat) : Int) = ((k - mask / 2 ^ i % 2 : Nat) : Int) := by
  have hl : i < nd.length := by
    rcases Nat.lt_or_ge i nd.length with q | q
    · exact q
    · rw [List.getElem?_eq_none q] at hi; cases hi
  constructor
  · unfold step1
    rw [List.getElem?_map, List.getElem?_range hl]
    simp only [Option.map_some]
    rw [getD_of hi, member_digit]
  · have : mask / 2 ^ i % 2 ≤ k := by
      rw [← member_digit]
      by_cases e : isMember mask i = true
      · rw [if_pos e]
        rw [List.all_eq_true] at hp
        have := of_decide_eq_true (hp i (by rw [members_eq hm]; exact mem_members.mpr ⟨hl, e⟩))
        rw [getD_of hi] at this
        exact this
      · rw [if_neg e]; exact Nat.zero_le _
    omega

/-! ### the empty set has a plan; how long a plan is -/
theorem search_len {s : Store} : ∀ (f t : Nat) (nd p : List Nat), searchPlan s f t nd = some p → p.length = f
  | 0, t, nd, p, h => by
    rw [search_zero] at h
    split at h
    · cases h; rfl
    · cases h
  | f + 1, t, nd, p, h => by
    rw [search_succ] at h
    split at h
    · cases h
    · obtain ⟨m, _, e⟩ := List.exists_of_findSome?_eq_some h
      cases q : searchPlan s f (t + 1) (step1 nd m) with
      | none => rw [q] at e; cases e
      | some r =>
        rw [q] at e
        have e' : m :: r = p := Option.some.inj e
        rw [← e', List.length_cons, search_len f _ _ _ q]
theorem planFor_len {s : Store} {m : Nat} {p : List Nat} (h : planFor s m = some p) : p.length = horizon s := by
  rw [planFor_eq] at h
  split at h
  · cases h
  · exact search_len _ _ _ _ h
theorem search_nil {s : Store} : ∀ (f t n : Nat), ∃ p, searchPlan s f t (List.replicate n 0) = some p
  | 0, t, n => ⟨[], by rw [search_zero, if_pos]; simp⟩
  | f + 1, t, n => by
    have z : ∀ i k, (List.replicate n 0)[i]? = some k → ¬ (lotAt s i).hours - t < k := fun i k h => by
      rw [List.getElem?_replicate] at h
      split at h
      · cases h; omega
      · cases h
    rw [search_go z]
    obtain ⟨r, hr⟩ := search_nil (s := s) f (t + 1) n
    refine ⟨0 :: r, some_hit (i := 0) (Nat.two_pow_pos _) ?_ ?_ (fun j hj => absurd hj (Nat.not_lt_zero _))⟩
    · have hz : cand2 (List.replicate n 0) = [] := by
        unfold cand2
        rw [List.filter_eq_nil_iff]
        intro i hi
        have hl := List.mem_range.mp hi
        rw [List.length_replicate] at hl
        rw [List.getD_eq_getElem?_getD, List.getElem?_replicate, if_pos hl]
        simp
      have hm : membersOf 0 = [] := rfl
      rw [pick_eq z (Nat.two_pow_pos _), hz, hm]
      simp
    · have e : step1 (List.replicate n 0) 0 = List.replicate n 0 := by
        apply List.ext_getElem?
        intro i
        unfold step1
        rw [List.getElem?_map, List.getElem?_replicate, List.length_replicate]
        by_cases hl : i < n
        · rw [List.getElem?_range hl, if_pos hl]
          simp [hl]
        · rw [if_neg hl, List.getElem?_eq_none (by rw [List.length_range]; omega)]
          rfl
      rw [e, hr]
      rfl
theorem planFor_zero (s : Store) : ∃ p, planFor s 0 = some p := by
  have h : ∀ i, i < s.lots.length → ¬ wantI s 0 i < 0 := fun i _ => by
    unfold wantI
    rw [if_neg (by rw [isMember_zero]; exact Bool.false_ne_true)]
    omega
  have e : wants s 0 = List.replicate s.lots.length 0 := by
    apply List.ext_getElem?
    intro i
    unfold wants wantO
    rw [List.getElem?_map, List.getElem?_replicate]
    by_cases hl : i < s.lots.length
    · rw [List.getElem?_range hl, if_pos hl]
      simp [isMember_zero]
    · rw [if_neg hl, List.getElem?_eq_none (by rw [List.length_range]; omega)]
      rfl
  rw [planFor_good h, e]
  exact search_nil _ _ _
theorem canLast_zero (s : Store) : canLast s 0 = true := by
  obtain ⟨p, h⟩ := planFor_zero s
  unfold canLast
  rw [h]; rfl

/-! ### the largest lasting set -/
def siz (s : Store) (m : Nat) : Nat := (members s.lots.length m).length
/-- what the program keeps behind the masks below i -/
def best (s : Store) : Nat → Nat
  | 0 => 0
  | i + 1 => if (decide (siz s (best s i) < siz s i) && canLast s i) = true then i else best s i
structure BestAt (s : Store) (i b : Nat) : Prop where
  lasts : canLast s b = true
  lt : b = 0 ∨ b < i
  top : ∀ j, j < i → canLast s j = true → siz s j ≤ siz s b
  first : ∀ j, j < b → canLast s j = true → siz s j < siz s b
theorem best_at (s : Store) : ∀ i, BestAt s i (best s i)
  | 0 => ⟨canLast_zero s, .inl rfl, fun j hj => absurd hj (Nat.not_lt_zero _), fun j hj => absurd hj (Nat.not_lt_zero _)⟩
  | i + 1 => by
    have ih := best_at s i
    show BestAt s (i + 1) (if (decide (siz s (best s i) < siz s i) && canLast s i) = true then i else best s i)
    by_cases h : (decide (siz s (best s i) < siz s i) && canLast s i) = true
    · rw [if_pos h]
      rw [Bool.and_eq_true] at h
      have h1 := of_decide_eq_true h.1
      refine ⟨h.2, .inr (Nat.lt_succ_self _), fun j hj q => ?_, fun j hj q => ?_⟩
      · by_cases e : j = i
        · rw [e]; exact Nat.le_refl _
        · exact Nat.le_trans (ih.top j (by omega) q) (Nat.le_of_lt h1)
      · exact Nat.lt_of_le_of_lt (ih.top j hj q) h1
    · rw [if_neg h]
      refine ⟨ih.lasts, ?_, fun j hj q => ?_, ih.first⟩
      · rcases ih.lt with e | e
        · exact .inl e
        · exact .inr (Nat.lt_succ_of_lt e)
      · by_cases e : j = i
        · subst e
          rw [q, Bool.and_true] at h
          exact Nat.le_of_not_lt fun z => h (decide_eq_true z)
        · exact ih.top j (by omega) q
theorem best_lt (s : Store) : best s (2 ^ s.lots.length) < 2 ^ s.lots.length := by
  rcases (best_at s (2 ^ s.lots.length)).lt with h | h
  · rw [h]; exact Nat.two_pow_pos _
  · exact h
theorem best_le (s : Store) (i : Nat) (hi : i ≤ 2 ^ s.lots.length) : best s i < 2 ^ s.lots.length := by
  rcases (best_at s i).lt with h | h
  · rw [h]; exact Nat.two_pow_pos _
  · exact Nat.lt_of_lt_of_le h hi
theorem foldl_size (s : Store) : ∀ (l : List Nat) (a : Nat), l.foldl (fun most mask => max most (siz s mask)) a = (l.map (siz s)).foldl max a
  | [], _ => rfl
  | x :: r, a => foldl_size s r (max a (siz s x))
theorem best_is (s : Store) : largestLastingSet s = best s (2 ^ s.lots.length) := by
  have B := best_at s (2 ^ s.lots.length)
  have L := best_lt s
  generalize best s (2 ^ s.lots.length) = b at B L
  have e : ((List.range (2 ^ s.lots.length)).filter (canLast s)).foldl (fun most mask => max most (siz s mask)) 0 = siz s b := by
    rw [foldl_size]
    apply Nat.le_antisymm
    · rcases foldl_max_is (((List.range (2 ^ s.lots.length)).filter (canLast s)).map (siz s)) 0 with q | q
      · rw [q]; exact Nat.zero_le _
      · obtain ⟨j, hj, ej⟩ := List.mem_map.mp q
        rw [← ej]
        obtain ⟨h1, h2⟩ := List.mem_filter.mp hj
        exact B.top j (List.mem_range.mp h1) h2
    · exact foldl_max_mem _ 0 _ (List.mem_map.mpr ⟨b, List.mem_filter.mpr ⟨List.mem_range.mpr L, B.lasts⟩, rfl⟩)
  show ((((List.range (2 ^ s.lots.length)).filter (canLast s)).find? fun mask => siz s mask == ((List.range (2 ^ s.lots.length)).filter (canLast s)).foldl (fun most mask => max most (siz s mask)) 0).getD 0) = b
  rw [e, List.find?_filter, find_hit (p := fun mask => decide (canLast s mask = true ∧ (siz s mask == siz s b) = true)) L (by simp [B.lasts]) (fun j hj => ?_)]
  · rfl
  · cases q : canLast s j with
    | false => rfl
    | true =>
      have := B.first j hj q
      have ne : siz s j ≠ siz s b := by omega
      simp [ne]
theorem largest_lt (s : Store) : largestLastingSet s < 2 ^ s.lots.length := by
  rw [best_is]; exact best_lt s
theorem largest_lasts (s : Store) : canLast s (largestLastingSet s) = true := by
  rw [best_is]; exact (best_at s _).lasts
theorem largest_plan (s : Store) : ∃ p, planFor s (largestLastingSet s) = some p := by
  have h := largest_lasts s
  unfold canLast at h
  cases q : planFor s (largestLastingSet s) with
  | none => rw [q] at h; cases h
  | some p => exact ⟨p, rfl⟩
end Cold

namespace Cold
open Kh430

/-! ### one hour -/
def lossOf (s : Store) (m i : Nat) : Nat := if isMember m i = true then s.coldLoss else s.warmLoss
def out (s : Store) (m i : Nat) : Bool × Lot := (decide (lossOf s m i ≤ (lotAt s i).life), ⟨(lotAt s i).life - lossOf s m i, (lotAt s i).hours - 1⟩)
def outTo (s : Store) (m i : Nat) : List (Bool × Lot) := (List.range i).map (out s m)
def keptTo (s : Store) (m i : Nat) : List Lot := ((outTo s m i).filter fun o => o.1 && decide (1 ≤ o.2.hours)).map fun o => o.2
def leftTo (s : Store) (m i : Nat) : Nat := ((outTo s m i).filter fun o => o.1 && decide (o.2.hours = 0)).length
def spoiledTo (s : Store) (m i : Nat) : Nat := ((outTo s m i).filter fun o => !o.1).length
theorem after_eq (s : Store) (m : Nat) : afterHour s m = { s with lots := keptTo s m s.lots.length, clock := s.clock + 1, leftFresh := s.leftFresh + leftTo s m s.lots.length, spoiled := s.spoiled + spoiledTo s m s.lots.length } := rfl
theorem outTo_succ (s : Store) (m i : Nat) : outTo s m (i + 1) = outTo s m i ++ [out s m i] := by
  unfold outTo
  rw [List.range_succ, List.map_append]
  rfl
theorem keptTo_zero (s : Store) (m : Nat) : keptTo s m 0 = [] := rfl
theorem leftTo_zero (s : Store) (m : Nat) : leftTo s m 0 = 0 := rfl
theorem spoiledTo_zero (s : Store) (m : Nat) : spoiledTo s m 0 = 0 := rfl
/-- it spoils -/
theorem hour_spoils {s : Store} {m i : Nat} (h : (lotAt s i).life < lossOf s m i) : keptTo s m (i + 1) = keptTo s m i ∧ leftTo s m (i + 1) = leftTo s m i ∧ spoiledTo s m (i + 1) = spoiledTo s m i + 1 := by
  have e : (out s m i).1 = false := decide_eq_false (by omega)
  unfold keptTo leftTo spoiledTo
  rw [outTo_succ, List.filter_append, List.filter_append, List.filter_append]
  simp [e]
/-- it leaves -/
theorem hour_leaves {s : Store} {m i : Nat} (h : ¬ (lotAt s i).life < lossOf s m i) (h1 : (lotAt s i).hours = 1) : keptTo s m (i + 1) = keptTo s m i ∧ leftTo s m (i + 1) = leftTo s m i + 1 ∧ spoiledTo s m (i + 1) = spoiledTo s m i := by
  have e : (out s m i).1 = true := decide_eq_true (by omega)
  have e2 : (out s m i).2.hours = 0 := by show (lotAt s i).hours - 1 = 0; omega
  unfold keptTo leftTo spoiledTo
  rw [outTo_succ, List.filter_append, List.filter_append, List.filter_append]
  simp [e, e2]
/-- it stays -/
theorem hour_stays {s : Store} {m i : Nat} (h : ¬ (lotAt s i).life < lossOf s m i) (h1 : (lotAt s i).hours ≠ 1) (h2 : 1 ≤ (lotAt s i).hours) :
    keptTo s m (i + 1) = keptTo s m i ++ [⟨(lotAt s i).life - lossOf s m i, (lotAt s i).hours - 1⟩] ∧ leftTo s m (i + 1) = leftTo s m i ∧ spoiledTo s m (i + 1) = spoiledTo s m i := by
  have e : (out s m i).1 = true := decide_eq_true (by omega)
  have e2 : 1 ≤ (out s m i).2.hours := by show 1 ≤ (lotAt s i).hours - 1; omega
  have e3 : ¬ (out s m i).2.hours = 0 := by omega
  unfold keptTo leftTo spoiledTo
  rw [outTo_succ, List.filter_append, List.filter_append, List.filter_append]
  simp [e, e2, e3]
  rfl
theorem keptTo_mem {s : Store} {m i : Nat} {x : Lot} (h : x ∈ keptTo s m i) : ∃ j, j < i ∧ 1 ≤ x.hours ∧ x.hours = (lotAt s j).hours - 1 ∧ x.life ≤ (lotAt s j).life := by
  obtain ⟨o, ho, rfl⟩ := List.mem_map.mp h
  obtain ⟨h1, h2⟩ := List.mem_filter.mp ho
  obtain ⟨j, hj, rfl⟩ := List.mem_map.mp h1
  rw [Bool.and_eq_true] at h2
  exact ⟨j, List.mem_range.mp hj, of_decide_eq_true h2.2, rfl, Nat.sub_le _ _⟩
theorem keptTo_len (s : Store) (m i : Nat) : (keptTo s m i).length ≤ i := by
  unfold keptTo
  rw [List.length_map]
  have := List.length_filter_le (fun o : Bool × Lot => o.1 && decide (1 ≤ o.2.hours)) (outTo s m i)
  have e : (outTo s m i).length = i := by simp [outTo]
  omega
theorem ok_after {s : Store} (k : Ok s) (m : Nat) : Ok (afterHour s m) := by
  rw [after_eq]
  refine ⟨k.c1, k.cw, k.w20, k.cap, Nat.le_trans (keptTo_len _ _ _) k.n4, fun x hx => ?_, fun x hx => ?_⟩
  · obtain ⟨j, hj, h1, h2, _⟩ := keptTo_mem hx
    have := (k.hrs _ (lotAt_mem hj)).2
    omega
  · obtain ⟨j, hj, _, _, h3⟩ := keptTo_mem hx
    have := k.life _ (lotAt_mem hj)
    omega
theorem horizon_after (s : Store) (m : Nat) : horizon (afterHour s m) ≤ horizon s - 1 := by
  rw [after_eq]
  refine horizon_le fun x hx => ?_
  obtain ⟨j, hj, _, h2, _⟩ := keptTo_mem hx
  have := horizon_ge hj
  omega

/-! ### run_best -/
theorem runBest_done {k : Nat} {s : Store} (h : s.lots = []) : Kh430.runBest k s = s := by
  cases k with
  | zero => rfl
  | succ k => show (if s.lots = [] then s else _) = s; rw [if_pos h]
theorem runBest_step {k : Nat} {s : Store} {p : List Nat} (h : s.lots ≠ []) (hp : planFor s (largestLastingSet s) = some p) : Kh430.runBest (k + 1) s = Kh430.runBest k (afterHour s (p.getD 0 0)) := by
  show (if s.lots = [] then s else match planFor s (largestLastingSet s) with
    | none => s
    | some plan => Kh430.runBest k (afterHour s (plan.getD 0 0))) = _
  rw [if_neg h, hp]
/-- how the loop of run_best stands: the store now, what has left and spoiled since -/
structure Run (s c : Store) (l p : Nat) : Prop where
  ok : Ok c
  fuel : ∃ k, horizon c ≤ k ∧ Kh430.runBest k c = Kh430.runBest 6 s
  left : c.leftFresh = s.leftFresh + l
  spoiled : c.spoiled = s.spoiled + p
theorem run_start {s : Store} (k : Ok s) : Run s s 0 0 := ⟨k, ⟨6, horizon_six k, rfl⟩, rfl, rfl⟩
theorem run_turn {s c : Store} {l q : Nat} {p : List Nat} (R : Run s c l q) (h : c.lots ≠ []) (hp : planFor c (largestLastingSet c) = some p) :
    Run s (afterHour c (p.getD 0 0)) (l + leftTo c (p.getD 0 0) c.lots.length) (q + spoiledTo c (p.getD 0 0) c.lots.length) := by
  obtain ⟨k, h1, h2⟩ := R.fuel
  have hz := horizon_pos R.ok h
  obtain ⟨j, rfl⟩ : ∃ j, k = j + 1 := ⟨k - 1, by omega⟩
  refine ⟨ok_after R.ok _, ⟨j, ?_, ?_⟩, ?_, ?_⟩
  · have := horizon_after c (p.getD 0 0); omega
  · rw [← h2, runBest_step h hp]
  · rw [after_eq]; show c.leftFresh + _ = _; rw [R.left]; omega
  · rw [after_eq]; show c.spoiled + _ = _; rw [R.spoiled]; omega
theorem run_end {s c : Store} {l q : Nat} (R : Run s c l q) (h : c.lots = []) : c = Kh430.runBest 6 s ∧ l = (Kh430.runBest 6 s).leftFresh - s.leftFresh ∧ q = (Kh430.runBest 6 s).spoiled - s.spoiled := by
  obtain ⟨k, h1, h2⟩ := R.fuel
  rw [runBest_done h] at h2
  rw [← h2]
  refine ⟨rfl, ?_, ?_⟩
  · rw [R.left]; omega
  · rw [R.spoiled]; omega
theorem ok_run {s : Store} : ∀ (k : Nat) (c : Store), Ok c → Ok (Kh430.runBest k c)
  | 0, c, h => h
  | k + 1, c, h => by
    by_cases e : c.lots = []
    · rw [runBest_done e]; exact h
    · obtain ⟨p, hp⟩ := largest_plan c
      rw [runBest_step e hp]
      exact ok_run (s := s) k _ (ok_after h _)
/-- the plan of run_best has a first hour -/
theorem plan_first {s : Store} {m : Nat} {p : List Nat} (k : Ok s) (h : s.lots ≠ []) (hp : planFor s m = some p) : p[0]? = some (p.getD 0 0) := by
  apply get_of_lt
  rw [planFor_len hp]
  exact horizon_pos k h

/-! ### losses under a plan -/
def coldOf (plan : List Nat) (i : Nat) : Nat := (plan.filter fun m => isMember m i).length
theorem coldOf_take (plan : List Nat) (i h : Nat) : coldOf (plan.take (h + 1)) i = coldOf (plan.take h) i + (if isMember (plan.getD h 0) i = true then 1 else 0) := by
  unfold coldOf
  by_cases hl : h < plan.length
  · rw [List.take_add_one, List.filter_append, List.length_append, List.getElem?_eq_getElem hl, List.getD_eq_getElem?_getD, List.getElem?_eq_getElem hl]
    by_cases e : isMember plan[h] i = true
    · simp [e]
    · simp [e]
  · have e1 : plan.take (h + 1) = plan.take h := by rw [List.take_of_length_le (by omega), List.take_of_length_le (by omega)]
    have e2 : plan.getD h 0 = 0 := by rw [List.getD_eq_getElem?_getD, List.getElem?_eq_none (by omega)]; rfl
    rw [e1, e2, isMember_zero]
    rfl
theorem coldOf_le (plan : List Nat) (i h : Nat) : coldOf (plan.take h) i ≤ h := by
  unfold coldOf
  have := List.length_filter_le (fun m => isMember m i) (plan.take h)
  have := List.length_take_le h plan
  omega
theorem loss_sum (s : Store) (plan : List Nat) (i : Nat) : ∀ h, ((List.range h).map fun t => if isMember (plan.getD t 0) i = true then s.coldLoss else s.warmLoss).sum = coldOf (plan.take h) i * s.coldLoss + (h - coldOf (plan.take h) i) * s.warmLoss
  | 0 => by simp [coldOf]
  | h + 1 => by
    have ih := loss_sum s plan i h
    have le := coldOf_le plan i h
    rw [List.range_succ, List.map_append, List.sum_append, ih, coldOf_take]
    by_cases e : isMember (plan.getD h 0) i = true
    · have q : h + 1 - (coldOf (plan.take h) i + 1) = h - coldOf (plan.take h) i := by omega
      simp only [List.map_cons, List.map_nil, List.sum_cons, List.sum_nil, e, if_true]
      rw [q, Nat.add_mul]
      omega
    · have q : h + 1 - (coldOf (plan.take h) i + 0) = (h - coldOf (plan.take h) i) + 1 := by omega
      simp only [List.map_cons, List.map_nil, List.sum_cons, List.sum_nil, e, if_false, Bool.false_eq_true]
      rw [q, Nat.add_mul _ 1]
      simp only [Nat.add_zero]
      omega
theorem loss_eq (s : Store) (plan : List Nat) (i : Nat) : lossUnderPlan s i plan = coldOf (plan.take (lotAt s i).hours) i * s.coldLoss + ((lotAt s i).hours - coldOf (plan.take (lotAt s i).hours) i) * s.warmLoss := loss_sum s plan i _
theorem loss_int (s : Store) (plan : List Nat) (i : Nat) : (lossUnderPlan s i plan : Int) = (coldOf (plan.take (lotAt s i).hours) i : Int) * (s.coldLoss : Int) + (((lotAt s i).hours : Int) - (coldOf (plan.take (lotAt s i).hours) i : Int)) * (s.warmLoss : Int) := by
  have le := coldOf_le plan i (lotAt s i).hours
  rw [loss_eq]
  have e : (((lotAt s i).hours : Int) - (coldOf (plan.take (lotAt s i).hours) i : Int)) = (((lotAt s i).hours - coldOf (plan.take (lotAt s i).hours) i : Nat) : Int) := by omega
  rw [e, Int.natCast_add, Int.natCast_mul, Int.natCast_mul]
theorem fits_mono {s : Store} {x : Lot} (cw : s.coldLoss ≤ s.warmLoss) {k : Nat} : ∀ d, k + d ≤ x.hours → fits s x k = true → fits s x (k + d) = true
  | 0, _, h => h
  | d + 1, hd, h => by
    have ih := fits_mono cw d (by omega) h
    unfold fits at ih ⊢
    have ih' := of_decide_eq_true ih
    apply decide_eq_true
    have e : x.hours - (k + d) = (x.hours - (k + (d + 1))) + 1 := by omega
    rw [e, Nat.add_mul _ 1] at ih'
    have e2 : k + (d + 1) = (k + d) + 1 := by omega
    rw [e2, Nat.add_mul _ 1]
    have e3 : x.hours - (k + d + 1) = x.hours - (k + (d + 1)) := by omega
    rw [e3]
    omega
theorem fits_need {s : Store} {x : Lot} (cw : s.coldLoss ≤ s.warmLoss) {c : Nat} (hc : c ≤ x.hours) : fits s x c = true ↔ ¬ needI s x < 0 ∧ needI s x ≤ (c : Int) := by
  constructor
  · intro h
    cases q : coldHoursNeeded s x with
    | none =>
      rw [chn, List.find?_eq_none] at q
      exact absurd h (q c (List.mem_range.mpr (by omega)))
    | some k =>
      have e : needI s x = (k : Int) := by unfold needI; rw [q]
      rw [e]
      refine ⟨by omega, ?_⟩
      rcases Nat.lt_or_ge c k with z | z
      · have q1 := q
        rw [chn, List.find?_range_eq_some] at q1
        have := q1.2.2 c z
        rw [h] at this
        simp at this
      · omega
  · rintro ⟨h1, h2⟩
    cases q : coldHoursNeeded s x with
    | none => exact absurd (needI_neg.mpr q) h1
    | some k =>
      have e : needI s x = (k : Int) := by unfold needI; rw [q]
      rw [e] at h2
      rw [chn] at q
      have hk : fits s x k = true := List.find?_some q
      obtain ⟨d, rfl⟩ : ∃ d, c = k + d := ⟨c - k, by omega⟩
      exact fits_mono cw d hc hk
theorem fits_loss (s : Store) (plan : List Nat) (i : Nat) : decide (lossUnderPlan s i plan ≤ (lotAt s i).life) = fits s (lotAt s i) (coldOf (plan.take (lotAt s i).hours) i) := by
  unfold fits
  rw [loss_eq]

/-! ### check_plan -/
def badHour (s : Store) (h m : Nat) : Bool := decide (s.capacity < (membersOf m).length) || (membersOf m).any fun l => decide ((lotAt s l).hours ≤ h)
theorem bad_at {s : Store} {h m : Nat} (hm : m < 2 ^ s.lots.length) :
    (decide ((members s.lots.length m).length ≤ s.capacity) && (decide (m < 2 ^ s.lots.length) && (members s.lots.length m).all fun i => decide (h < (lotAt s i).hours))) = !badHour s h m := by
  unfold badHour
  rw [members_eq hm, decide_eq_true hm, Bool.true_and, Bool.not_or]
  congr 1
  · rw [← decide_not]
    exact decide_eq_decide.mpr (by omega)
  · rw [List.not_any_eq_all_not]
    congr 1
    funext l
    rw [← decide_not]
    exact decide_eq_decide.mpr (by omega)
theorem plan_bad {s : Store} {mask h m : Nat} {plan : List Nat} (hp : ∀ m ∈ plan, m < 2 ^ s.lots.length) (hi : plan[h]? = some m) (hb : badHour s h m = true) : isPlanFor s mask plan = false := by
  unfold isPlanFor
  rw [Bool.and_eq_false_iff]
  left
  rw [List.all_eq_false]
  refine ⟨(m, h), ?_, ?_⟩
  · exact List.mem_zipIdx_iff_getElem?.mpr hi
  · show ¬ (decide ((members s.lots.length m).length ≤ s.capacity) && (decide (m < 2 ^ s.lots.length) && (members s.lots.length m).all fun i => decide (h < (lotAt s i).hours))) = true
    rw [bad_at (hp m (List.mem_of_getElem? hi)), hb]
    exact Bool.false_ne_true
theorem plan_rest {s : Store} {mask : Nat} {plan : List Nat} (hp : ∀ m ∈ plan, m < 2 ^ s.lots.length) (hb : ∀ h m, plan[h]? = some m → badHour s h m = false) :
    isPlanFor s mask plan = (members s.lots.length mask).all fun i => decide (lossUnderPlan s i plan ≤ (lotAt s i).life) := by
  unfold isPlanFor
  have e : (plan.zipIdx.all fun x => decide ((members s.lots.length x.1).length ≤ s.capacity) && (decide (x.1 < 2 ^ s.lots.length) && (members s.lots.length x.1).all fun i => decide (x.2 < (lotAt s i).hours))) = true := by
    rw [List.all_eq_true]
    rintro ⟨m, h⟩ hx
    have hi : plan[h]? = some m := List.mem_zipIdx_iff_getElem?.mp hx
    show (decide ((members s.lots.length m).length ≤ s.capacity) && (decide (m < 2 ^ s.lots.length) && (members s.lots.length m).all fun i => decide (h < (lotAt s i).hours))) = true
    rw [bad_at (hp m (List.mem_of_getElem? hi)), hb h m hi]
    rfl
  rw [e, Bool.true_and]
theorem cold_all {s : Store} {plan : List Nat} {i : Nat} (hp : ∀ m ∈ plan, m < 2 ^ s.lots.length) (hi : i < s.lots.length) (hb : ∀ h m, plan[h]? = some m → badHour s h m = false) : coldOf (plan.take (lotAt s i).hours) i = coldOf plan i := by
  unfold coldOf
  conv => rhs; rw [← List.take_append_drop (lotAt s i).hours plan, List.filter_append, List.length_append]
  have e : ((plan.drop (lotAt s i).hours).filter fun m => isMember m i) = [] := by
    rw [List.filter_eq_nil_iff]
    intro m hm
    obtain ⟨j, hj⟩ := List.mem_iff_getElem?.mp hm
    rw [List.getElem?_drop] at hj
    have hz := hb _ m hj
    intro hq
    have hmem : m ∈ plan := List.mem_of_getElem? hj
    have : badHour s ((lotAt s i).hours + j) m = true := by
      unfold badHour
      rw [Bool.or_eq_true]
      right
      rw [List.any_eq_true]
      exact ⟨i, by rw [members_eq (hp m hmem)]; exact mem_members.mpr ⟨hi, hq⟩, decide_eq_true (by omega)⟩
    rw [this] at hz
    cases hz
  rw [e]
  rfl
theorem lot_test {s : Store} {plan : List Nat} {i : Nat} (k : Ok s) (hp : ∀ m ∈ plan, m < 2 ^ s.lots.length) (hi : i < s.lots.length) (hb : ∀ h m, plan[h]? = some m → badHour s h m = false) :
    decide (lossUnderPlan s i plan ≤ (lotAt s i).life) = !(decide (needI s (lotAt s i) < 0) || decide ((coldOf plan i : Int) < needI s (lotAt s i))) := by
  rw [fits_loss]
  have le := coldOf_le plan i (lotAt s i).hours
  have ce := cold_all hp hi hb
  rw [Bool.eq_iff_iff, fits_need (Nat.le_of_lt k.cw) le, ce]
  simp only [Bool.not_eq_true', Bool.or_eq_false_iff, decide_eq_false_iff_not]
  omega
theorem check_bad {s : Store} {mask j i : Nat} {plan : List Nat} (k : Ok s) (hm : mask < 2 ^ s.lots.length) (hp : ∀ m ∈ plan, m < 2 ^ s.lots.length) (hb : ∀ h m, plan[h]? = some m → badHour s h m = false)
    (hj : (membersOf mask)[j]? = some i) (ht : (decide (needI s (lotAt s i) < 0) || decide ((coldOf plan i : Int) < needI s (lotAt s i))) = true) : isPlanFor s mask plan = false := by
  rw [plan_rest hp hb, List.all_eq_false]
  have hmem := List.mem_of_getElem? hj
  rw [members_eq hm] at hmem
  refine ⟨i, hmem, ?_⟩
  rw [lot_test k hp (mem_members.mp hmem).1 hb, ht]
  exact Bool.false_ne_true
theorem check_good {s : Store} {mask : Nat} {plan : List Nat} (k : Ok s) (hm : mask < 2 ^ s.lots.length) (hp : ∀ m ∈ plan, m < 2 ^ s.lots.length) (hb : ∀ h m, plan[h]? = some m → badHour s h m = false)
    (ht : ∀ (j i : Nat), (membersOf mask)[j]? = some i → (decide (needI s (lotAt s i) < 0) || decide ((coldOf plan i : Int) < needI s (lotAt s i))) = false) : isPlanFor s mask plan = true := by
  rw [plan_rest hp hb, List.all_eq_true]
  intro i hi
  rw [lot_test k hp (mem_members.mp hi).1 hb]
  rw [← members_eq hm] at hi
  obtain ⟨j, hj⟩ := List.mem_iff_getElem?.mp hi
  rw [ht j i hj]
  rfl

/-! ### the balance -/
theorem balance_need (s : Store) : ∀ l : List Lot, (l.map fun x => if needI s x > 0 then needI s x else 0).sum = (((l.map fun x => (Kh430.coldHoursNeeded s x).getD 0).sum : Nat) : Int)
  | [] => rfl
  | x :: r => by
    rw [List.map_cons, List.sum_cons, balance_need s r, List.map_cons, List.sum_cons, Int.natCast_add]
    congr 1
    unfold needI
    cases q : coldHoursNeeded s x with
    | none => rfl
    | some k =>
      show (if (k : Int) > 0 then (k : Int) else 0) = (k : Int)
      split <;> omega
def coldAt (s : Store) (t : Nat) : Nat := min s.capacity (s.lots.filter fun x => decide (t < x.hours)).length
theorem coldAt_none {s : Store} {t : Nat} (h : horizon s ≤ t) : coldAt s t = 0 := by
  unfold coldAt
  have e : (s.lots.filter fun x => decide (t < x.hours)) = [] := by
    rw [List.filter_eq_nil_iff]
    intro x hx
    have : x.hours ≤ horizon s := foldl_max_mem _ 0 _ (List.mem_map.mpr ⟨x, hx, rfl⟩)
    simp; omega
  rw [e]
  exact Nat.min_zero _
theorem balance_more (s : Store) : ∀ k, ((List.range (horizon s + k)).map (coldAt s)).sum = ((List.range (horizon s)).map (coldAt s)).sum
  | 0 => rfl
  | k + 1 => by
    rw [← Nat.add_assoc, List.range_succ, List.map_append, List.sum_append, balance_more s k]
    simp [coldAt_none (s := s) (t := horizon s + k) (by omega)]
theorem balance_six {s : Store} (k : Ok s) : ((List.range 6).map (coldAt s)).sum = ((List.range (horizon s)).map (coldAt s)).sum := by
  have h := horizon_six k
  obtain ⟨d, hd⟩ := Nat.exists_eq_add_of_le h
  rw [hd]
  exact balance_more s d
end Cold

namespace Cold
open Kh430

/-! ### calls as the program reads them -/
def sizeOf : Nat → Nat
  | 0 => 3 | 1 => 2 | 2 => 1 | 3 => 1 | 4 => 1 | 5 => 2 | 9 => 1 | 10 => 1 | 12 => 1 | 13 => 1 | 14 => 1 | 16 => 1 | 17 => 1
  | _ => 0
def rowQ (w : Nat) : Bool := w == 12 || w == 13
def I (l : List Nat) : List Int := l.map Int.ofNat
def enc (w : Nat) (n row : List Nat) : List (List Int) := if rowQ w then [I (w :: n), I row] else [I (w :: n)]
def callOf (w : Nat) (n row : List Nat) : Kh430.Call := match w with
  | 0 => .create (n.getD 0 0) (n.getD 1 0) (n.getD 2 0)
  | 1 => .addLot (n.getD 0 0) (n.getD 1 0)
  | 2 => .removeLot (n.getD 0 0)
  | 3 => .setCapacity (n.getD 0 0)
  | 4 => .runHour (n.getD 0 0)
  | 5 => .setLosses (n.getD 0 0) (n.getD 1 0)
  | 6 => .runBest
  | 7 => .coldHoursNeeded
  | 8 => .planForAll
  | 9 => .canLast (n.getD 0 0)
  | 10 => .planFor (n.getD 0 0)
  | 11 => .largestLastingSet
  | 12 => .checkPlan (n.getD 0 0) row
  | 13 => .lossUnderPlan (n.getD 0 0) row
  | 14 => .largestSetIfCapacity (n.getD 0 0)
  | 15 => .minCapacity
  | 16 => .lastingCountIfWarmLoss (n.getD 0 0)
  | 17 => .coldHoursNeededBy (n.getD 0 0)
  | 18 => .coldHourBalance
  | 19 => .listLots
  | 20 => .totals
  | _ => .status
theorem whole_self (c : List (List Int)) : PyKh430.whole c = c := by
  unfold PyKh430.whole
  split <;> rfl
theorem I_toNat (l : List Nat) : (I l).map Int.toNat = l := by
  unfold I
  rw [List.map_map]
  have : (Int.toNat ∘ Int.ofNat) = id := by funext k; rfl
  rw [this, List.map_id]
theorem I_getD (l : List Nat) (k : Nat) : ((I l).getD k 0).toNat = l.getD k 0 := by
  unfold I
  rw [List.getD_eq_getElem?_getD, List.getD_eq_getElem?_getD, List.getElem?_map]
  cases l[k]? <;> rfl
theorem decode_enc {w : Nat} (h : w ≤ 21) (n row : List Nat) : Kh430Neutral.decodeCall (enc w n row) = callOf w n row := by
  have e0 : ((enc w n row).getD 0 []) = I (w :: n) := by unfold enc; split <;> rfl
  have p : ∀ k, (((enc w n row).getD 0 []).getD k 0).toNat = (w :: n).getD k 0 := fun k => by rw [e0, I_getD]
  have e1 : rowQ w = true → ((enc w n row).getD 1 []).map Int.toNat = row := fun q => by
    unfold enc
    rw [if_pos q]
    exact I_toNat row
  unfold Kh430Neutral.decodeCall
  simp only [p]
  have hw : w = 0 ∨ w = 1 ∨ w = 2 ∨ w = 3 ∨ w = 4 ∨ w = 5 ∨ w = 6 ∨ w = 7 ∨ w = 8 ∨ w = 9 ∨ w = 10 ∨ w = 11 ∨ w = 12 ∨ w = 13 ∨ w = 14 ∨ w = 15 ∨ w = 16 ∨ w = 17 ∨ w = 18 ∨ w = 19 ∨ w = 20 ∨ w = 21 := by omega
  rcases hw with h | h | h | h | h | h | h | h | h | h | h | h | h | h | h | h | h | h | h | h | h | h <;> subst h <;> first
    | rfl
    | (rw [e1 rfl]; rfl)
def res (r : Result) : List Int := r.status :: r.values
theorem step_enc {w : Nat} (h : w ≤ 21) (n row : List Nat) (o : Option Store) : Kh430Neutral.step o (enc w n row) = ((execute o (callOf w n row)).1, res (execute o (callOf w n row)).2) := by
  show ((execute o (Kh430Neutral.decodeCall (enc w n row))).1, (execute o (Kh430Neutral.decodeCall (enc w n row))).2.status :: (execute o (Kh430Neutral.decodeCall (enc w n row))).2.values) = _
  rw [decode_enc h]
  rfl
theorem shape_of {p : Nat} {n k : Nat} (h : PyKh430.shape (Int.ofNat p) = some (n, k)) : p ≤ 21 ∧ n = sizeOf p ∧ k = if rowQ p then 1 else 0 := by
  have hp : p ≤ 21 := by
    rcases Nat.lt_or_ge 21 p with q | q
    · unfold PyKh430.shape at h
      have z : ∀ j : Int, j ≤ 21 → Int.ofNat p ≠ j := fun j hj e => by
        have e' : (p : Int) = j := e
        omega
      rw [if_neg (z 0 (by omega)), if_neg (z 1 (by omega)), if_neg (z 2 (by omega)), if_neg (z 3 (by omega)), if_neg (z 4 (by omega)), if_neg (z 5 (by omega)), if_neg (z 6 (by omega)), if_neg (z 7 (by omega)), if_neg (z 8 (by omega)), if_neg (z 9 (by omega)), if_neg (z 10 (by omega)), if_neg (z 11 (by omega)), if_neg (z 12 (by omega)), if_neg (z 13 (by omega)), if_neg (z 14 (by omega)), if_neg (z 15 (by omega)), if_neg (z 16 (by omega)), if_neg (z 17 (by omega)), if_neg (z 18 (by omega)), if_neg (z 19 (by omega)), if_neg (z 20 (by omega)), if_neg (z 21 (by omega))] at h
      cases h
    · exact q
  refine ⟨hp, ?_⟩
  have hw : p = 0 ∨ p = 1 ∨ p = 2 ∨ p = 3 ∨ p = 4 ∨ p = 5 ∨ p = 6 ∨ p = 7 ∨ p = 8 ∨ p = 9 ∨ p = 10 ∨ p = 11 ∨ p = 12 ∨ p = 13 ∨ p = 14 ∨ p = 15 ∨ p = 16 ∨ p = 17 ∨ p = 18 ∨ p = 19 ∨ p = 20 ∨ p = 21 := by omega
  rcases hw with e | e | e | e | e | e | e | e | e | e | e | e | e | e | e | e | e | e | e | e | e | e <;> subst e <;>
    (have q := Option.some.inj h; obtain ⟨rfl, rfl⟩ := Prod.mk.inj q; exact ⟨rfl, rfl⟩)
/-- one call off the front: its numbers, its row, what stands behind -/
theorem parse_one {f : Nat} {p : Nat} {r : List Nat} {cs : List (List (List Int))} (h : PyFlat.calls PyKh430.shape f (I (p :: r)) = some cs) :
    p ≤ 21 ∧ sizeOf p ≤ r.length ∧ ∃ (row rest : List Nat) (f' : Nat) (cs' : List (List (List Int))), cs = enc p (r.take (sizeOf p)) row :: cs' ∧ PyFlat.calls PyKh430.shape f' (I rest) = some cs' ∧
      ((rowQ p = false ∧ row = [] ∧ rest = r.drop (sizeOf p)) ∨ (rowQ p = true ∧ ∃ (m : Nat) (r2 : List Nat), r.drop (sizeOf p) = m :: r2 ∧ m ≤ r2.length ∧ row = r2.take m ∧ rest = r2.drop m)) := by
  cases f with
  | zero => cases h
  | succ f =>
    have h1 : (match PyFlat.call PyKh430.shape (I (p :: r)) with
      | none => none
      | some (c, t) => match PyFlat.calls PyKh430.shape f t with
        | none => none
        | some cs => some (c :: cs)) = some cs := h
    have h2 : PyFlat.call PyKh430.shape (I (p :: r)) = (match PyKh430.shape (Int.ofNat p) with
      | none => none
      | some (n, k) => if (I r).length < n then none else match PyFlat.rows k ((I r).drop n) with
        | none => none
        | some (xs, t) => some ((Int.ofNat p :: (I r).take n) :: xs, t)) := rfl
    rw [h2] at h1
    cases hs : PyKh430.shape (Int.ofNat p) with
    | none => rw [hs] at h1; cases h1
    | some nk =>
      obtain ⟨n, k⟩ := nk
      rw [hs] at h1
      obtain ⟨hp, rfl, rfl⟩ := shape_of hs
      dsimp only at h1
      by_cases hl : (I r).length < sizeOf p
      · rw [if_pos hl] at h1; cases h1
      · rw [if_neg hl] at h1
        have hl' : sizeOf p ≤ r.length := by
          have : (I r).length = r.length := by simp [I]
          omega
        refine ⟨hp, hl', ?_⟩
        have ed : (I r).drop (sizeOf p) = I (r.drop (sizeOf p)) := by unfold I; rw [List.map_drop]
        have et : (I r).take (sizeOf p) = I (r.take (sizeOf p)) := by unfold I; rw [List.map_take]
        rw [ed, et] at h1
        cases hq : rowQ p with
        | false =>
          rw [hq] at h1
          simp only [Bool.false_eq_true, if_false, PyFlat.rows] at h1
          cases hc : PyFlat.calls PyKh430.shape f (I (r.drop (sizeOf p))) with
          | none => rw [hc] at h1; cases h1
          | some cs' =>
            rw [hc] at h1
            refine ⟨[], _, f, cs', ?_, hc, .inl ⟨rfl, rfl, rfl⟩⟩
            rw [← Option.some.inj h1]
            unfold enc
            rw [if_neg (by rw [hq]; exact Bool.false_ne_true)]
            rfl
        | true =>
          rw [hq] at h1
          simp only [if_true, PyFlat.rows] at h1
          cases hd : r.drop (sizeOf p) with
          | nil =>
            rw [hd] at h1
            cases h1
          | cons m r2 =>
            rw [hd] at h1
            have e3 : PyFlat.row (I (m :: r2)) = if 0 ≤ Int.ofNat m ∧ (Int.ofNat m).toNat ≤ (I r2).length then some ((I r2).take (Int.ofNat m).toNat, (I r2).drop (Int.ofNat m).toNat) else none := rfl
            rw [e3] at h1
            by_cases hm : 0 ≤ Int.ofNat m ∧ (Int.ofNat m).toNat ≤ (I r2).length
            · rw [if_pos hm] at h1
              have hm2 : m ≤ r2.length := by
                have : (I r2).length = r2.length := by simp [I]
                have h5 : m ≤ (I r2).length := hm.2
                omega
              have e4 : (I r2).drop (Int.ofNat m).toNat = I (r2.drop m) := by unfold I; rw [List.map_drop]; rfl
              have e5 : (I r2).take (Int.ofNat m).toNat = I (r2.take m) := by unfold I; rw [List.map_take]; rfl
              rw [e4, e5] at h1
              dsimp only at h1
              cases hc : PyFlat.calls PyKh430.shape f (I (r2.drop m)) with
              | none => rw [hc] at h1; cases h1
              | some cs' =>
                rw [hc] at h1
                refine ⟨_, _, f, cs', ?_, hc, .inr ⟨rfl, m, r2, rfl, hm2, rfl, rfl⟩⟩
                rw [← Option.some.inj h1]
                unfold enc
                rw [if_pos hq]
                rfl
            · rw [if_neg hm] at h1; cases h1
theorem parse_nil {f : Nat} {cs : List (List (List Int))} (h : PyFlat.calls PyKh430.shape f (I []) = some cs) : cs = [] := by
  cases f with
  | zero => exact (Option.some.inj h).symm
  | succ f => exact (Option.some.inj h).symm
/-- what is told of calls that are still to come -/
def later (o : Option Store) (cs : List (List (List Int))) : List Int := PyFlat.told (PyFlat.played Kh430Neutral.step o cs)
theorem later_cons {w : Nat} (h : w ≤ 21) (n row : List Nat) (o : Option Store) (cs : List (List (List Int))) :
    later o (enc w n row :: cs) = ((res (execute o (callOf w n row)).2).length : Int) :: (res (execute o (callOf w n row)).2 ++ later (execute o (callOf w n row)).1 cs) := by
  unfold later PyFlat.told
  show List.flatMap _ ((Kh430Neutral.step o (enc w n row)).2 :: PyFlat.played Kh430Neutral.step (Kh430Neutral.step o (enc w n row)).1 cs) = _
  rw [step_enc h, List.flatMap_cons]
  rfl
theorem later_nil (o : Option Store) : later o [] = [] := rfl
theorem answers_start {ns : List Nat} (h : PyKh430.answers_asked (I ns) = true) : ∃ cs, PyFlat.calls PyKh430.shape ns.length (I ns) = some cs ∧ PyKh430.answers (I ns) = later none cs ∧ (PyKh430.answers (I ns)).length ≤ 10000000 := by
  have el : (I ns).length = ns.length := by simp [I]
  unfold PyKh430.answers_asked at h
  rw [el] at h
  cases hc : PyFlat.calls PyKh430.shape ns.length (I ns) with
  | none => rw [hc] at h; cases h
  | some cs =>
    rw [hc] at h
    simp only [Bool.and_eq_true] at h
    refine ⟨cs, rfl, ?_, of_decide_eq_true h.2⟩
    unfold PyKh430.answers PyKh430.calls
    rw [el, hc]
    have e : cs.map PyKh430.whole = cs := by
      conv => rhs; rw [← List.map_id cs]
      exact List.map_congr_left fun c _ => whole_self c
    dsimp only
    rw [e]
    rfl

/-! ### the store stays in shape -/
def OkO (o : Option Store) : Prop := ∀ s, o = some s → Ok s
theorem losses_ok {w c : Nat} : areValidLosses w c = true ↔ 1 ≤ c ∧ c < w ∧ w ≤ 20 := by
  unfold areValidLosses
  rw [Bool.and_eq_true, Bool.and_eq_true, decide_eq_true_eq, decide_eq_true_eq, decide_eq_true_eq]
theorem losses_no {w c : Nat} : areValidLosses w c = false ↔ ¬ (1 ≤ c ∧ c < w ∧ w ≤ 20) := by
  rw [← Bool.not_eq_true, losses_ok]
theorem ok_new {w c k : Nat} (h : areValidLosses w c = true) (hk : k ≤ 4) : Ok (⟨w, c, k, [], 0, 0, 0⟩ : Store) := by
  obtain ⟨h1, h2, h3⟩ := losses_ok.mp h
  refine ⟨h1, h2, h3, hk, Nat.zero_le _, ?_, ?_⟩ <;> (intro x hx; cases hx)
theorem ok_losses {s : Store} (k : Ok s) {w c : Nat} (h : areValidLosses w c = true) : Ok { s with warmLoss := w, coldLoss := c } := by
  obtain ⟨h1, h2, h3⟩ := losses_ok.mp h
  exact ⟨h1, h2, h3, k.cap, k.n4, k.hrs, k.life⟩
theorem ok_cap {s : Store} (k : Ok s) {c : Nat} (h : c ≤ 4) : Ok { s with capacity := c } := ⟨k.c1, k.cw, k.w20, h, k.n4, k.hrs, k.life⟩
theorem ok_add {s : Store} (k : Ok s) {l h : Nat} (h1 : ¬ (l < 1 ∨ 99 < l ∨ h < 1 ∨ maxHours < h)) (h2 : ¬ maxLots ≤ s.lots.length) : Ok { s with lots := s.lots ++ [⟨l, h⟩] } := by
  have e1 : maxHours = 6 := rfl
  have e2 : maxLots = 4 := rfl
  refine ⟨k.c1, k.cw, k.w20, k.cap, ?_, fun x hx => ?_, fun x hx => ?_⟩
  · show (s.lots ++ [(⟨l, h⟩ : Lot)]).length ≤ 4
    rw [List.length_append]
    show s.lots.length + 1 ≤ 4
    omega
  · rcases List.mem_append.mp hx with q | q
    · exact k.hrs x q
    · rw [List.mem_singleton.mp q]
      show 1 ≤ h ∧ h ≤ 6
      omega
  · rcases List.mem_append.mp hx with q | q
    · exact k.life x q
    · rw [List.mem_singleton.mp q]
      show l ≤ 99
      omega
theorem ok_erase {s : Store} (k : Ok s) (i : Nat) : Ok { s with lots := s.lots.eraseIdx i } := by
  refine ⟨k.c1, k.cw, k.w20, k.cap, ?_, fun x hx => k.hrs x (List.mem_of_mem_eraseIdx hx), fun x hx => k.life x (List.mem_of_mem_eraseIdx hx)⟩
  show (s.lots.eraseIdx i).length ≤ 4
  have := List.length_eraseIdx_le s.lots i
  have := k.n4
  omega
end Cold

namespace Cold
open Kh430
theorem exec_err (o : Option Store) (c : Kh430.Call) (h : (execute o c).2.status < 0) : (execute o c).1 = o ∧ (execute o c).2 = single (execute o c).2.status := by
  cases o with
  | none =>
    cases c
    case create a b d =>
      have e : execute none (.create a b d) = if areValidLosses a b = false ∨ maxLots < d then (none, single (-22)) else (some ⟨a, b, d, [], 0, 0, 0⟩, single 0) := rfl
      rw [e] at h ⊢
      split at h
      · rename_i q
        rw [if_pos q]
        exact ⟨rfl, rfl⟩
      · exact absurd (show (0 : Int) < 0 from h) (by decide)
    all_goals exact ⟨rfl, rfl⟩
  | some s =>
    have nn : ∀ (n : Nat) (l : List Nat), ¬ (withValues n l).status < 0 := fun n l => by show ¬ ((n : Nat) : Int) < 0; omega
    have nb : ∀ b : Bool, ¬ (ofBool b).status < 0 := fun b => by cases b <;> decide
    have ns : ∀ n : Nat, ¬ (single (n : Int)).status < 0 := fun n => by show ¬ ((n : Nat) : Int) < 0; omega
    cases c with
    | create a b d =>
      have e : execute (some s) (.create a b d) = if areValidLosses a b = false ∨ maxLots < d then (some s, single (-22)) else (some ⟨a, b, d, [], 0, 0, 0⟩, single 0) := rfl
      rw [e] at h ⊢
      split at h
      · rename_i q
        rw [if_pos q]
        exact ⟨rfl, rfl⟩
      · exact absurd (show (0 : Int) < 0 from h) (by decide)
    | addLot a b =>
      have e : apply s (.addLot a b) = if a < 1 ∨ 99 < a ∨ b < 1 ∨ maxHours < b then (s, single (-22)) else if maxLots ≤ s.lots.length then (s, single (-28)) else ({ s with lots := s.lots ++ [⟨a, b⟩] }, single s.lots.length) := rfl
      show (some (apply s (.addLot a b)).1 = some s ∧ (apply s (.addLot a b)).2 = single (apply s (.addLot a b)).2.status)
      have h' : (apply s (.addLot a b)).2.status < 0 := h
      rw [e] at h' ⊢
      split at h'
      · rename_i q; rw [if_pos q]; exact ⟨rfl, rfl⟩
      · rename_i q
        rw [if_neg q]
        split at h'
        · rename_i q2; rw [if_pos q2]; exact ⟨rfl, rfl⟩
        · exact absurd h' (ns _)
    | removeLot i =>
      have e : apply s (.removeLot i) = if isLot s i = false then (s, single (-2)) else ({ s with lots := s.lots.eraseIdx i }, single (s.lots.length - 1 : Nat)) := rfl
      show (some (apply s (.removeLot i)).1 = some s ∧ (apply s (.removeLot i)).2 = single (apply s (.removeLot i)).2.status)
      have h' : (apply s (.removeLot i)).2.status < 0 := h
      rw [e] at h' ⊢
      split at h'
      · rename_i q; rw [if_pos q]; exact ⟨rfl, rfl⟩
      · exact absurd h' (ns _)
    | setCapacity i =>
      have e : apply s (.setCapacity i) = if maxLots < i then (s, single (-22)) else ({ s with capacity := i }, single s.capacity) := rfl
      show (some (apply s (.setCapacity i)).1 = some s ∧ (apply s (.setCapacity i)).2 = single (apply s (.setCapacity i)).2.status)
      have h' : (apply s (.setCapacity i)).2.status < 0 := h
      rw [e] at h' ⊢
      split at h'
      · rename_i q; rw [if_pos q]; exact ⟨rfl, rfl⟩
      · exact absurd h' (ns _)
    | runHour m =>
      have e : apply s (.runHour m) = if isSet s m = false then (s, single (-22)) else if s.capacity < (members s.lots.length m).length then (s, single (-28)) else if s.lots = [] then (s, single (-6)) else (afterHour s m, withValues (afterHour s m).lots.length [(afterHour s m).leftFresh - s.leftFresh, (afterHour s m).spoiled - s.spoiled]) := rfl
      show (some (apply s (.runHour m)).1 = some s ∧ (apply s (.runHour m)).2 = single (apply s (.runHour m)).2.status)
      have h' : (apply s (.runHour m)).2.status < 0 := h
      rw [e] at h' ⊢
      split at h'
      · rename_i q; rw [if_pos q]; exact ⟨rfl, rfl⟩
      · rename_i q
        rw [if_neg q]
        split at h'
        · rename_i q2; rw [if_pos q2]; exact ⟨rfl, rfl⟩
        · rename_i q2
          rw [if_neg q2]
          split at h'
          · rename_i q3; rw [if_pos q3]; exact ⟨rfl, rfl⟩
          · exact absurd h' (nn _ _)
    | setLosses a b =>
      have e : apply s (.setLosses a b) = if areValidLosses a b = false then (s, single (-22)) else ({ s with warmLoss := a, coldLoss := b }, single s.warmLoss) := rfl
      show (some (apply s (.setLosses a b)).1 = some s ∧ (apply s (.setLosses a b)).2 = single (apply s (.setLosses a b)).2.status)
      have h' : (apply s (.setLosses a b)).2.status < 0 := h
      rw [e] at h' ⊢
      split at h'
      · rename_i q; rw [if_pos q]; exact ⟨rfl, rfl⟩
      · exact absurd h' (ns _)
    | runBest =>
      have e : apply s .runBest = if s.lots = [] then (s, single (-6)) else (Kh430.runBest maxHours s, withValues ((Kh430.runBest maxHours s).leftFresh - s.leftFresh) [(Kh430.runBest maxHours s).spoiled - s.spoiled]) := rfl
      show (some (apply s .runBest).1 = some s ∧ (apply s .runBest).2 = single (apply s .runBest).2.status)
      have h' : (apply s .runBest).2.status < 0 := h
      rw [e] at h' ⊢
      split at h'
      · rename_i q; rw [if_pos q]; exact ⟨rfl, rfl⟩
      · exact absurd h' (nn _ _)
    | coldHoursNeeded => exact absurd (show ((s.lots.length : Nat) : Int) < 0 from h) (by omega)
    | planForAll =>
      refine ⟨rfl, ?_⟩
      have h' : (planResult (Kh430.planFor s (allLots s))).status < 0 := h
      show planResult (Kh430.planFor s (allLots s)) = single (planResult (Kh430.planFor s (allLots s))).status
      cases q : Kh430.planFor s (allLots s) with
      | none => rfl
      | some p => rw [q] at h'; exact absurd h' (nn _ _)
    | canLast m =>
      refine ⟨rfl, ?_⟩
      have h' : (if isSet s m = false then single (-22) else ofBool (Kh430.canLast s m)).status < 0 := h
      show (if isSet s m = false then single (-22) else ofBool (Kh430.canLast s m)) = single (if isSet s m = false then single (-22) else ofBool (Kh430.canLast s m)).status
      split at h'
      · rename_i q; rw [if_pos q]; rfl
      · exact absurd h' (nb _)
    | planFor m =>
      refine ⟨rfl, ?_⟩
      have h' : (if isSet s m = false then single (-22) else planResult (Kh430.planFor s m)).status < 0 := h
      show (if isSet s m = false then single (-22) else planResult (Kh430.planFor s m)) = single (if isSet s m = false then single (-22) else planResult (Kh430.planFor s m)).status
      split at h'
      · rename_i q; rw [if_pos q]; rfl
      · rename_i q
        rw [if_neg q]
        cases q : Kh430.planFor s m with
        | none => rfl
        | some p => rw [q] at h'; exact absurd h' (nn _ _)
    | largestLastingSet => exact absurd h (nn _ _)
    | checkPlan m plan =>
      refine ⟨rfl, ?_⟩
      have h' : (if isSet s m = false ∨ isPlan s plan = false then single (-22) else ofBool (isPlanFor s m plan)).status < 0 := h
      show (if isSet s m = false ∨ isPlan s plan = false then single (-22) else ofBool (isPlanFor s m plan)) = single (if isSet s m = false ∨ isPlan s plan = false then single (-22) else ofBool (isPlanFor s m plan)).status
      split at h'
      · rename_i q; rw [if_pos q]; rfl
      · exact absurd h' (nb _)
    | lossUnderPlan i plan =>
      refine ⟨rfl, ?_⟩
      have h' : (if isLot s i = false then single (-2) else if isPlan s plan = false then single (-22) else withValues (Kh430.lossUnderPlan s i plan) [if Kh430.lossUnderPlan s i plan ≤ (lotAt s i).life then 1 else 0]).status < 0 := h
      show (if isLot s i = false then single (-2) else if isPlan s plan = false then single (-22) else withValues (Kh430.lossUnderPlan s i plan) [if Kh430.lossUnderPlan s i plan ≤ (lotAt s i).life then 1 else 0]) = single (if isLot s i = false then single (-2) else if isPlan s plan = false then single (-22) else withValues (Kh430.lossUnderPlan s i plan) [if Kh430.lossUnderPlan s i plan ≤ (lotAt s i).life then 1 else 0]).status
      split at h'
      · rename_i q; rw [if_pos q]; rfl
      · rename_i q
        rw [if_neg q]
        split at h'
        · rename_i q2; rw [if_pos q2]; rfl
        · exact absurd h' (nn _ _)
    | largestSetIfCapacity c =>
      refine ⟨rfl, ?_⟩
      have h' : (if maxLots < c then single (-22) else withValues (members s.lots.length (Kh430.largestLastingSet { s with capacity := c })).length [Kh430.largestLastingSet { s with capacity := c }]).status < 0 := h
      show (if maxLots < c then single (-22) else withValues (members s.lots.length (Kh430.largestLastingSet { s with capacity := c })).length [Kh430.largestLastingSet { s with capacity := c }]) = single (if maxLots < c then single (-22) else withValues (members s.lots.length (Kh430.largestLastingSet { s with capacity := c })).length [Kh430.largestLastingSet { s with capacity := c }]).status
      split at h'
      · rename_i q; rw [if_pos q]; rfl
      · exact absurd h' (nn _ _)
    | minCapacity =>
      refine ⟨rfl, ?_⟩
      have key : ∀ o : Option Nat, (match o with | none => single (-33) | some capacity => single (capacity : Nat)).status < 0 → (match o with | none => single (-33) | some capacity => single (capacity : Nat)) = single (match o with | none => single (-33) | some capacity => single (capacity : Nat)).status := fun o q => by
        cases o with
        | none => rfl
        | some c => rfl
      exact key _ h
    | lastingCountIfWarmLoss w =>
      refine ⟨rfl, ?_⟩
      have h' : (if areValidLosses w s.coldLoss = false then single (-22) else single (members s.lots.length (Kh430.largestLastingSet { s with warmLoss := w })).length).status < 0 := h
      show (if areValidLosses w s.coldLoss = false then single (-22) else single (members s.lots.length (Kh430.largestLastingSet { s with warmLoss := w })).length) = single (if areValidLosses w s.coldLoss = false then single (-22) else single (members s.lots.length (Kh430.largestLastingSet { s with warmLoss := w })).length).status
      split at h'
      · rename_i q; rw [if_pos q]; rfl
      · exact absurd h' (ns _)
    | coldHoursNeededBy i =>
      refine ⟨rfl, ?_⟩
      have key : ∀ o : Option Nat, (if isLot s i = false then single (-2) else match o with | none => single (-33) | some k => single (k : Nat)) = single (if isLot s i = false then single (-2) else match o with | none => single (-33) | some k => single (k : Nat)).status := fun o => by
        split
        · rfl
        · cases o <;> rfl
      exact key _
    | coldHourBalance => exact absurd h (nn _ _)
    | listLots => exact absurd h (nn _ _)
    | totals => exact absurd h (nn _ _)
    | status => exact absurd h (nn _ _)
/-- the shape is kept -/
theorem ok_exec {o : Option Store} (k : OkO o) (c : Kh430.Call) : OkO (execute o c).1 := by
  intro s' hs'
  cases o with
  | none =>
    cases c
    case create a b d =>
      have e : execute none (.create a b d) = if areValidLosses a b = false ∨ maxLots < d then (none, single (-22)) else (some ⟨a, b, d, [], 0, 0, 0⟩, single 0) := rfl
      rw [e] at hs'
      split at hs'
      · cases hs'
      · rename_i q
        have : (⟨a, b, d, [], 0, 0, 0⟩ : Store) = s' := Option.some.inj hs'
        rw [← this]
        have m4 : maxLots = 4 := rfl
        refine ok_new ?_ (by omega)
        cases z : areValidLosses a b with
        | true => rfl
        | false => exact absurd (.inl z) q
    all_goals cases hs'
  | some s =>
    have ks := k s rfl
    have m4 : maxLots = 4 := rfl
    cases c with
    | create a b d =>
      have e : execute (some s) (.create a b d) = if areValidLosses a b = false ∨ maxLots < d then (some s, single (-22)) else (some ⟨a, b, d, [], 0, 0, 0⟩, single 0) := rfl
      rw [e] at hs'
      split at hs'
      · have : s = s' := Option.some.inj hs'
        rw [← this]; exact ks
      · rename_i q
        have : (⟨a, b, d, [], 0, 0, 0⟩ : Store) = s' := Option.some.inj hs'
        rw [← this]
        refine ok_new ?_ (by omega)
        cases z : areValidLosses a b with
        | true => rfl
        | false => exact absurd (.inl z) q
    | addLot a b =>
      have e : apply s (.addLot a b) = if a < 1 ∨ 99 < a ∨ b < 1 ∨ maxHours < b then (s, single (-22)) else if maxLots ≤ s.lots.length then (s, single (-28)) else ({ s with lots := s.lots ++ [⟨a, b⟩] }, single s.lots.length) := rfl
      have h' : (apply s (.addLot a b)).1 = s' := Option.some.inj hs'
      rw [← h', e]
      split
      · exact ks
      · rename_i q
        split
        · exact ks
        · rename_i q2; exact ok_add ks q q2
    | removeLot i =>
      have e : apply s (.removeLot i) = if isLot s i = false then (s, single (-2)) else ({ s with lots := s.lots.eraseIdx i }, single (s.lots.length - 1 : Nat)) := rfl
      have h' : (apply s (.removeLot i)).1 = s' := Option.some.inj hs'
      rw [← h', e]
      split
      · exact ks
      · exact ok_erase ks i
    | setCapacity i =>
      have e : apply s (.setCapacity i) = if maxLots < i then (s, single (-22)) else ({ s with capacity := i }, single s.capacity) := rfl
      have h' : (apply s (.setCapacity i)).1 = s' := Option.some.inj hs'
      rw [← h', e]
      split
      · exact ks
      · exact ok_cap ks (by omega)
    | runHour m =>
      have e : apply s (.runHour m) = if isSet s m = false then (s, single (-22)) else if s.capacity < (members s.lots.length m).length then (s, single (-28)) else if s.lots = [] then (s, single (-6)) else (afterHour s m, withValues (afterHour s m).lots.length [(afterHour s m).leftFresh - s.leftFresh, (afterHour s m).spoiled - s.spoiled]) := rfl
      have h' : (apply s (.runHour m)).1 = s' := Option.some.inj hs'
      rw [← h', e]
      split
      · exact ks
      · split
        · exact ks
        · split
          · exact ks
          · exact ok_after ks m
    | setLosses a b =>
      have e : apply s (.setLosses a b) = if areValidLosses a b = false then (s, single (-22)) else ({ s with warmLoss := a, coldLoss := b }, single s.warmLoss) := rfl
      have h' : (apply s (.setLosses a b)).1 = s' := Option.some.inj hs'
      rw [← h', e]
      split
      · exact ks
      · rename_i q
        refine ok_losses ks ?_
        cases z : areValidLosses a b with
        | true => rfl
        | false => exact absurd z q
    | runBest =>
      have e : apply s .runBest = if s.lots = [] then (s, single (-6)) else (Kh430.runBest maxHours s, withValues ((Kh430.runBest maxHours s).leftFresh - s.leftFresh) [(Kh430.runBest maxHours s).spoiled - s.spoiled]) := rfl
      have h' : (apply s .runBest).1 = s' := Option.some.inj hs'
      rw [← h', e]
      split
      · exact ks
      · exact ok_run (s := s) _ _ ks
    | _ =>
      have : s = s' := Option.some.inj hs'
      rw [← this]; exact ks
theorem size_get {p : Nat} (h : p ≤ 21) : ([3, 2, 1, 1, 1, 2, 0, 0, 0, 1, 1, 0, 1, 1, 1, 0, 1, 1, 0, 0, 0, 0] : List Int)[p]? = some (sizeOf p : Int) := by
  have hw : p = 0 ∨ p = 1 ∨ p = 2 ∨ p = 3 ∨ p = 4 ∨ p = 5 ∨ p = 6 ∨ p = 7 ∨ p = 8 ∨ p = 9 ∨ p = 10 ∨ p = 11 ∨ p = 12 ∨ p = 13 ∨ p = 14 ∨ p = 15 ∨ p = 16 ∨ p = 17 ∨ p = 18 ∨ p = 19 ∨ p = 20 ∨ p = 21 := by omega
  rcases hw with e | e | e | e | e | e | e | e | e | e | e | e | e | e | e | e | e | e | e | e | e | e <;> subst e <;> rfl
end Cold

namespace Cold
open Kh430
/-! ### one turn, by places in the request -/
theorem drop_cons {α : Type} {l : List α} {i : Nat} {x : α} {r : List α} (h : l.drop i = x :: r) : l[i]? = some x ∧ l.drop (i + 1) = r ∧ i < l.length := by
  have hi : i < l.length := by
    rcases Nat.lt_or_ge i l.length with z | z
    · exact z
    · rw [List.drop_eq_nil_of_le z] at h; cases h
  rw [List.drop_eq_getElem_cons hi] at h
  injection h with h1 h2
  exact ⟨by rw [List.getElem?_eq_getElem hi, h1], h2, hi⟩
theorem drop_at {α : Type} {l : List α} {i : Nat} (h : i < l.length) : ∃ x, l[i]? = some x ∧ l.drop i = x :: l.drop (i + 1) := ⟨l[i], List.getElem?_eq_getElem h, List.drop_eq_getElem_cons h⟩
/-- one call off the front, told by places -/
theorem turn_at {ns : List Nat} {i p f : Nat} {cs : List (List (List Int))} (hp : ns[i]? = some p) (h : PyFlat.calls PyKh430.shape f (I (ns.drop i)) = some cs) :
    p ≤ 21 ∧ i + 1 + sizeOf p ≤ ns.length ∧ ∃ (row : List Nat) (j f' : Nat) (cs' : List (List (List Int))), cs = enc p ((ns.drop (i + 1)).take (sizeOf p)) row :: cs' ∧ PyFlat.calls PyKh430.shape f' (I (ns.drop j)) = some cs' ∧ i < j ∧ j ≤ ns.length ∧
      ((rowQ p = false ∧ row = [] ∧ j = i + 1 + sizeOf p) ∨ (rowQ p = true ∧ ∃ m : Nat, ns[i + 1 + sizeOf p]? = some m ∧ j = i + 1 + sizeOf p + 1 + m ∧ row = (ns.drop (i + 1 + sizeOf p + 1)).take m)) := by
  have hi : i < ns.length := by
    rcases Nat.lt_or_ge i ns.length with z | z
    · exact z
    · rw [List.getElem?_eq_none z] at hp; cases hp
  obtain ⟨p', hp', hd⟩ := drop_at hi
  rw [hp] at hp'
  cases hp'
  rw [hd] at h
  obtain ⟨h21, hl, row, rest, f', cs', e1, e2, e3⟩ := parse_one h
  have hlen : (ns.drop (i + 1)).length = ns.length - (i + 1) := List.length_drop
  rw [hlen] at hl
  refine ⟨h21, by omega, row, ?_⟩
  rcases e3 with ⟨q, r1, r2⟩ | ⟨q, m, r2, d2, hm, r3, r4⟩
  · refine ⟨i + 1 + sizeOf p, f', cs', e1, ?_, by omega, by omega, .inl ⟨q, r1, rfl⟩⟩
    rw [r2, List.drop_drop] at e2
    exact e2
  · rw [List.drop_drop] at d2
    obtain ⟨g1, g2, g3⟩ := drop_cons d2
    have g4 : r2.length = ns.length - (i + 1 + sizeOf p + 1) := by rw [← g2, List.length_drop]
    refine ⟨i + 1 + sizeOf p + 1 + m, f', cs', e1, ?_, by omega, by omega, .inr ⟨q, m, g1, rfl, by rw [r3, g2]⟩⟩
    rw [r4, ← g2, List.drop_drop] at e2
    exact e2
end Cold

/-! An own exception over Exception: __init__(self, code) says Exception.__init__(self, 'refused') and stores one field. -/
namespace Cold
open PySem PySem.Spec PyProof.Rows L2
/-- what the written part says of such a class -/
structure RfC (K : PySem.W.Frag) (C : Addr) : Prop where
  cls : ∃ nm q N bs sn sub ab col dd k0 k1 k2 k3 k5, K.lookup C = some (excClassObj nm q C N bs PySem.ESX.exTail true sn sub ab col dd k0 k1 k2 k3 k5 "Exception.__new__")
  sa : PySem.W.findIn K (.ref C) "__setattr__" = some (some (.builtin "object.__setattr__"))
  exC : PySem.W.subIn K (.ref C) (.type "BaseException") = some true
  tyC : PySem.W.typeIn K (.ref C) = some (.type "type")
  kC : PySem.W.keepIn K (.ref C) = true
section
variable {X : Cx} {pins : List (Addr × Obj)} {σ : L2.St} {H : Hp} {s : Shared} {a C : Addr} {f : Str} {y : V} {u : Value} {E : Value → Shared → Prop} {A : Around}
/-- the one store -/
theorem rf_store {Q : Unit → Shared → Prop} (T : RfC X.K C) (I : Inv X pins σ H s) (e : H a = some (exo a C none)) (hno : PySem.W.findIn X.K (.ref C) f = some none) (ry : RelV y u)
    (h : ∀ dx s', H dx = none → dx ≠ a → Inv X pins σ (upd (upd H dx (exd dx [(f, y)])) a (exo a C (some dx))) s' → Q () s') : wpAny (model X.prog X.w) A (setAttr (.ref a) f u) Q E s := by
  obtain ⟨nm, qn, N, bs, sn, sub, ab, col, dd, k0, k1, k2, k3, k5, hC⟩ := T.cls
  have hcl : PySem.W.clsIn X.K C = some { name := nm, bases := bs, mro := .ref C :: PySem.ESX.exTail, ns := N, qualname := qn, hasDict := true, slotNames := sn, subclasses := sub, abstract := ab, collection := col, hasDel := false } := by
    unfold PySem.W.clsIn
    rw [hC] <;> rfl
  obtain ⟨t1, ho⟩ := exo_at I.hok e
  obtain ⟨hp, gs, dr, tk, os⟩ := s
  refine PySem.W.set_plain I.kIn (ox := { cls := .ref C, dict := none, data := .fields #[.ref t1, .none, .none, .none, .bool false, .none] }) (od := none) ⟨ho, rfl, rfl, trivial⟩ T.sa ?_
  refine PySem.ESX.osa_new I.kIn ho hcl rfl rfl hno (fun h' tk' dx keep fresh dne hx hn => ?_)
  have hnd : H dx = none := I.hok.fresh fresh
  have notdx : ∀ {b : Addr} {o : Obj}, hp.get? b = some o → b ≠ dx := fun {b o} g => Nat.ne_of_lt (Nat.lt_of_lt_of_le (Heap.lt_size g) fresh)
  have nota : ∀ {b : Addr}, H b = none → b ≠ a := fun {b} n z => by rw [z, e] at n; cases n
  have U : Un X.fs [] H (upd (upd H dx (exd dx [(f, y)])) a (exo a C (some dx))) hp h' :=
    { keep := fun b o g n _ _ => keep b o (nota n) g
      slot := fun b o g n _ _ => ⟨o.slots, keep b o (nota n) g⟩
      free := fun b o g n _ => by rw [upd_ne (nota n), upd_ne (notdx g), n]
      there := fun b o g _ => by
        by_cases hb : b = a
        · subst hb; exact ⟨_, hx⟩
        · exact ⟨o, keep b o hb g⟩
      tups := fun b xs g => by rw [upd_ne (at_ne e g exo_tup), upd_ne (ne_of_none g hnd), g]
      frzs := fun b o v g => by rw [upd_ne (at_ne e g exo_frz), upd_ne (ne_of_none g hnd), g]
      tbls := fun b ps g => ⟨#[], by rw [upd_ne (at_ne e g exo_tbl), upd_ne (ne_of_none g hnd), g]; simp⟩ }
  refine h dx _ hnd dne (I.un (t' := tk') U fun b o g => ?_)
  by_cases hb : b = a
  · subst hb
    rw [upd_same] at g
    cases g
    exact exo_ok hx
  rw [upd_ne hb] at g
  by_cases hd : b = dx
  · subst hd
    rw [upd_same] at g
    cases g
    exact exd_ok hn (relO_put (fs := []) ry fun _ => True.intro)
  rw [upd_ne hd] at g
  refine (I.hok b o g).stay (fun c v hc z => keep c v ?_ z) (fun c hc => ?_) (fun c xs hc => ?_)
  · rcases hc with hc | hc
    · rw [hc]; exact hb
    · exact at_ne e hc exo_own
  · rw [upd_ne (at_ne e hc exo_own), upd_ne (ne_of_none hc hnd), hc]
  · rw [upd_ne (at_ne e hc exo_tup), upd_ne (ne_of_none hc hnd), hc]
/-- Exception.__init__(self, ..): nothing of it is told -/
theorem rf_base {us : List Value} {Q : Value → Shared → Prop} (T : RfC X.K C) (I : Inv X pins σ H s) (e : H a = some (exo a C none)) (hl : us.length ≤ sizeLine) (h : ∀ s', Inv X pins σ H s' → Q .none s') :
    wpAny (model X.prog X.w) A (call (.builtin "Exception.__init__") (.ref a :: us)) Q E s := by
  obtain ⟨nm, qn, N, bs, sn, sub, ab, col, dd, k0, k1, k2, k3, k5, hC⟩ := T.cls
  obtain ⟨t1, ho⟩ := exo_at I.hok e
  obtain ⟨hp, gs, dr, tk, os⟩ := s
  refine wpAny_call (PySem.HandSPX.init_base F.excBase_Exception (fun _ => rfl) (I.kIn _ _ hC) ho hl fun h' t2 keep hx => ?_)
  have J := I.write (t' := tk) (x := a) (e := a) (o := exo a C none) (by rw [e]; exact True.intro) (.inl rfl) keep ⟨_, hx⟩ (exo_ok hx)
  have eu : upd H a (exo a C none) = H := by
    funext b
    by_cases hb : b = a
    · rw [hb, upd_same, e]
    · rw [upd_ne hb]
  rw [eu] at J
  exact h _ J
end
theorem typ_Ex : typeOf (.type "Exception") = pure (.type "type") := by kernel_rfl
/-- Exception.__init__(self, ..), as it is read -/
def tExI (K : PySem.W.Frag) (ta : TA) : TE := fun σ H Q => ta σ H fun vs H1 => ∃ (a C : Addr) (ws : List V), vs = .ref a :: ws ∧ ws.length ≤ 1000 ∧ RfC K C ∧ H1 a = some (exo a C none) ∧ Q .non H1
/-- self.f = e, as it is read -/
def tRfSet (K : PySem.W.Frag) (f : Str) (to te : TE) : TS := fun D σ H => te σ H fun y H1 => to σ H1 fun x H2 => ∃ a C : Addr, x = .ref a ∧ RfC K C ∧ PySem.W.findIn K (.ref C) f = some none ∧
  H2 a = some (exo a C none) ∧ ∀ dx, H2 dx = none → dx ≠ a → D.nx σ (upd (upd H2 dx (exd dx [(f, y)])) a (exo a C (some dx)))
section
variable {X : Cx} {o e : Expr} {es : List Expr} {to te : TE} {ta : TA} {f : Str} {p p' p1 p2 pos : Pos}
theorem pe_exinit {pl : Sem Bool} (hg : Gl X "Exception") (hm : X.mg "Exception" = none) (vV : PySem.W.findCls X.K (.type "Exception") (.type "type") "__init__" = some (.val (.builtin "Exception.__init__"))) (ha : PA X (e :: es) ta)
    (hc : eval (.Call (.Attribute (.Name "Exception" p1) "__init__" p2) (e :: es) [] pos) X.env = (do
      let ov ← eval (.Name "Exception" p1) X.env
      standAt p2.atName
      let (f, first) ← holding [ov] (getMethod ov "__init__" pl)
      callWith pos f first (backTo pos (starEach (e :: es) X.env)) (backToKw pos (keywordEach [] X.env))) := by rfl)
    (he : starEach (e :: es) X.env = (false, eval e X.env) :: starEach es X.env := by rfl) (hpl : (backTo pos (starEach es X.env)).any (·.1) = false := by rfl) :
    PE X (.Call (.Attribute (.Name "Exception" p1) "__init__" p2) (e :: es) [] pos) (tExI X.K ta) := by
  refine ⟨fun pins s σ H Q I h => PySem.W.methodCall_KW (ld_blt I hg hm PyProof.Rows.Boot.«Exception» ?_ (by decide) (by decide)) hc⟩
  obtain ⟨m, fr⟩ := I.fr
  refine PySem.W.method_type fr I.ok.mod.kin typ_Ex (by decide +kernel) vV (by decide +kernel) ?_
  show wpAny _ _ (callWith pos (Value.builtin "Exception.__init__") [] (backTo pos (starEach (e :: es) X.env)) []) _ _ _
  refine PyProof.Rows.callWith_method1 (thn (ha.run pos pins _ σ H _ (I.tok _) h) fun us s1 ⟨vs, H1, I1, r1, a, C, ws, ev, hl, T, ea, q⟩ => ?_) he hpl
  subst ev
  cases r1 with
  | @cons _ u0 _ ur ra rr =>
    obtain rfl : u0 = Value.ref a := ra
    have hlen : ur.length ≤ sizeLine := by
      rw [← Paired.length rr, sizeLine_eq]
      omega
    exact rf_base T I1 ea hlen fun s' J => ⟨.non, H1, J, rfl, q⟩
theorem ps_rfset (ho : PE X o to) (he : PE X e te) (hs : swapsWith e (some (.Attribute o f p')) pos.line X.env = pure false := by rfl) : PS X (.Assign [.Attribute o f p'] e pos) (tRfSet X.K f to te) := by
  refine ⟨fun pins s σ H D I h => plainObj_wpAny_Assign_Attribute (thn (he.run pins s σ H _ I h) fun v s1 ⟨y, H1, I1, r1, q1⟩ => thn (ho.run pins s1 σ H1 _ I1 q1) fun u s2 ⟨x, H2, I2, r2, a, C, ex, T, hno, ea, q⟩ => ?_) hs⟩
  subst ex
  obtain rfl : u = Value.ref a := r2
  exact rf_store T I2 ea hno r1 fun dx s' n ne J => ⟨σ, _, J, q dx n ne⟩
/-- C(e, ..), its __init__ keeping sp: an exception is made -/
theorem pmk_rf {CX : CXT} {x : Str} {C fI : Addr} {k : Nat} {fd : FuncData} {ps : List Str} {sp : Sp} {ds : List Value} {dvs : List V} (T : RfC X.K C) (iC : PySem.W.findIn X.K (.ref C) "__init__" = some (some (.ref fI))) (tI : PySem.W.typeIn X.K (.ref fI) = some (.type "function"))
    (F1 : FnOk X.prog X.w X.K X.mg X.base CX k fI fd ps sp) (hr : Room (k + 1) X.A) (hb : Binds X.K fd ps ds) (hd : Vals dvs ds) (hx : Passes CX X (fun _ _ _ => False)) (hg : Gl X x) (hm : X.mg x = some (.ref C)) (ha : PA X (e :: es) ta)
    (hdb : (x == ("__debug__" : Str)) = false := by decide) (he : starEach (e :: es) X.env = (false, eval e X.env) :: starEach es X.env := by rfl) (hpl : (backTo pos (starEach es X.env)).any (·.1) = false := by rfl) :
    PMk X (.Call (.Name x p) (e :: es) [] pos) (tMkO C sp dvs ta) := by
  intro pins s σ H Q I h
  obtain ⟨nm, qn, N, bs, sn, sub, ab, col, dd, k0, k1, k2, k3, k5, hC⟩ := T.cls
  refine wpAny_Call_Name_kw (ld_glob I hg hm ?_ hdb)
  refine PySem.W.callWith_K (h₀ := X.base) I.ok.mod.kin T.kC (thn (ha.run pos pins s σ H _ I h) fun us s1 ⟨vs, H1, I1, r1, hz, q1⟩ => ⟨I1.kIn, ?_⟩) he hpl
  show wpAny _ _ (call (.ref C) us) _ _ _
  obtain ⟨hp, gs, dr, tk, os⟩ := s1
  have big : hp.objs.size ≤ hp.objs.size + 1 := Nat.le_succ _
  have hn : H1 (hp.objs.size + 1) = none := I1.hok.fresh big
  have want := q1 (hp.objs.size + 1) hn
  have old : ∀ b o, hp.get? b = some o → ((hp.push (PySem.W.kdv_tup us)).push (PySem.HandSPX.excO C hp.objs.size)).get? b = some o := fun b o g => Heap.get?_push_of_some _ (Heap.get?_push_of_some _ g)
  have new : ((hp.push (PySem.W.kdv_tup us)).push (PySem.HandSPX.excO C hp.objs.size)).get? (hp.objs.size + 1) = some (PySem.HandSPX.excO C hp.objs.size) := by heap_get
  have I2 : Inv X pins σ (upd H1 (hp.objs.size + 1) (exo (hp.objs.size + 1) C none)) ⟨(hp.push (PySem.W.kdv_tup us)).push (PySem.HandSPX.excO C hp.objs.size), gs, dr, tk, os⟩ :=
    I1.laid (t' := tk) (a := hp.objs.size + 1) (o := exo (hp.objs.size + 1) C none) old big (exo_ok new)
  have r2 : Vals (V.ref (hp.objs.size + 1) :: (vs ++ dvs)) (Value.ref (hp.objs.size + 1) :: (us ++ ds)) := .cons rfl (r1.append hd)
  have hl : (Value.ref (hp.objs.size + 1) :: us ++ ds).length = ps.length := by
    have g := r2.length
    rw [F1.len _ _ _ _ want] at g
    exact g.symm
  have hus : us.length ≤ sizeLine := by
    rw [← Paired.length r1, sizeLine_eq]
    omega
  refine wpAny_call (PySem.HandSPX.call_own F.excBase_Exception (fun _ => rfl) (I1.kIn _ _ hC) (PySem.W.looks_findIn I1.kIn iC) (fun self => PySem.W.bind_fn I1.kIn self tI) hus ?_)
  refine codeAny_mono (F1.run _ X.stack _ _ ⟨Value.ref (hp.objs.size + 1) :: us, []⟩ (Value.ref (hp.objs.size + 1) :: (us ++ ds)) _ _ (fun _ _ _ => False) (hr.make C us []) (I2.env0.make C us []) (hb _ (Value.ref (hp.objs.size + 1) :: us) I2.kIn hl) r2 want) fun r s' hq => ?_
  cases r with
  | error er => exact hx pins σ _ _ er s' I2 hq
  | ok fl =>
    cases fl with
    | next => exact False.elim hq
    | brk => exact False.elim hq
    | cont => exact False.elim hq
    | ret u =>
      obtain ⟨v, H2, os2, bare2, un2, hok2, rv, ev, d, fs, ea, ed, hd1, q2⟩ := hq
      subst ev
      obtain ⟨h2, g2, d2, t2, os'⟩ := s'
      exact ⟨rv, mk_end (raises_own T.exC T.tyC) I1 big old un2 hok2 os2 bare2 ea ed hd1 q2⟩
end
end Cold

/-! max(xs, default=d) and min(xs, default=d) of a list of ints. Printed by mm.py. -/
namespace Cold
open PySem PySem.Spec PyProof.Rows L2

section
variable {prog : Program} {w : World} {A : Around} {R : Result → Shared → Prop} {I : Addr} {fp wr : List Addr} {n : Nat} {P : Nat → Value → Prop} {St : Nat → Heap → Prop} {kw : List (Str × Value)}
theorem max_name : (toString "max" ++ toString ".loop" : String) = "max.loop" := by decide
/-- behind the first item, whatever the keywords are -/
theorem max_go (W : Walks prog w A.in1 I fp wr n P St) (bt : Nat → Nat → Bool) (hcmp : CmpOf prog w A.in1 .Gt P bt) (S : Addr) (hSf : S ∉ fp) :
    ∀ (k j : Nat) (s : Shared) (vb : Value) (c : Nat), n - (j + 1) = k → j + 1 ≤ n → St (j + 1) s.heap → P (argBest bt j) vb →
    s.heap.get? S = some (seqObj "list" #[vb, vb] c) →
    (∀ v h' tk, P (argBest bt (n - 1)) v → (∀ b o, b ∉ wr → b ≠ S → s.heap.get? b = some o → h'.get? b = some o) → R (.ok (.ret v)) { s with heap := h', toks := tk }) →
    codeAny (model prog w) A (.builtin "max.loop" ⟨[.ref I, .none, .ref S], kw⟩) R s := by
  have hSw : S ∉ wr := fun h => hSf (W.sub _ h)
  intro k
  induction k with
  | zero =>
    intro j s vb c hk hj hst hPb hS hR
    have hin : j + 1 = n := by omega
    refine codeAny_builtin PySem.F.entry_max_loop ?_
    rw [Around.under_plainId PySem.F.plain_max_loop _]
    show wpAny _ A.in1 (seqItems? (.ref S) >>= _) _ _ s
    refine wpAny_bind (wpAny_seqItems hS rfl ?_)
    show wpAny _ A.in1 (tryCatch (pyNext (.ref I)) _ >>= _) _ _ s
    refine wpAny_bind (wpAny_tryCatch (W.done s _ _ (hin ▸ hst) fun h' tk hk' => ?_))
    have hS' := hk' S _ hSw hS
    show wpAny _ A.in1 (updateSeq S (fun _ => #[]) >>= _) _ _ _
    refine wpAny_bind (wpAny_updateSeq hS' rfl (wpAny_bind (wpAny_letGo (wpAny_pure ?_))))
    exact hR vb _ tk (by rw [← hin]; exact hPb) fun b o hbw hbS e => (Heap.get?_update_other _ _ (Ne.symm hbS)).trans (hk' b o hbw e)
  | succ k ih =>
    intro j s vb c hk hj hst hPb hS hR
    have hlt : j + 1 < n := by omega
    refine codeAny_builtin PySem.F.entry_max_loop ?_
    rw [Around.under_plainId PySem.F.plain_max_loop _]
    show wpAny _ A.in1 (seqItems? (.ref S) >>= _) _ _ s
    refine wpAny_bind (wpAny_seqItems hS rfl ?_)
    show wpAny _ A.in1 (tryCatch (pyNext (.ref I)) _ >>= _) _ _ s
    refine wpAny_bind (wpAny_tryCatch (W.item (j + 1) s _ _ hlt hst fun v h' tk hP hst' hk' => ?_))
    have hS' := hk' S _ hSw hS
    show wpAny _ A.in1 (tryCatch (holding [v, v] (richCompare .Gt v vb >>= _)) _ >>= _) _ _ _
    refine wpAny_bind (wpAny_tryCatch (wpAny_holding (wpAny_bind (hcmp (j + 1) (argBest bt j) v vb _ _ _ hP hPb ?_))))
    refine wpAny_bind (wpAny_holding (wpAny_truthy_bool ?_))
    refine wpAny_bind (wpAny_letGo (wpAny_pure ?_))
    have back : ∀ (h2 : Heap), (∀ b o, b ≠ S → h'.get? b = some o → h2.get? b = some o) → ∀ b o, b ∉ wr → b ≠ S → s.heap.get? b = some o → h2.get? b = some o := fun h2 z b o hbw hbS e => z b o hbS (hk' b o hbw e)
    cases hb : bt (j + 1) (argBest bt j) with
    | true =>
      simp only [if_true]
      refine wpAny_bind (wpAny_updateSeq hS' rfl (wpAny_bind (wpAny_letGo ?_)))
      rw [max_name]
      refine wpAny_pure ⟨plainId_quiet PySem.F.plain_max_loop _, ih (j + 1) _ v _ (by omega) hlt (W.frame _ _ _ hst' fun b hbf o e => ?_) (by simp only [argBest, hb, if_true]; exact hP) (Heap.get?_update_self _ hS' rfl)
        fun v' h2 tk2 hP' hk2 => hR v' h2 tk2 hP' fun b o hbw hbS e => hk2 b o hbw hbS (back _ (fun b o hbS e => (Heap.get?_update_other _ _ (Ne.symm hbS)).trans e) b o hbw hbS e)⟩
      exact (Heap.get?_update_other _ _ (fun h : S = b => hSf (by rw [h]; exact hbf))).trans e
    | false =>
      simp only [Bool.false_eq_true, if_false]
      refine wpAny_bind (wpAny_letGo ?_)
      rw [max_name]
      exact wpAny_pure ⟨plainId_quiet PySem.F.plain_max_loop _, ih (j + 1) _ vb c (by omega) hlt hst' (by simp only [argBest, hb, Bool.false_eq_true, if_false]; exact hPb) hS' fun v' h2 tk2 hP' hk2 => hR v' h2 tk2 hP' fun b o hbw hbS e => hk2 b o hbw hbS (hk' b o hbw e)⟩
/-- from the start, with a default -/
theorem max_from (W : Walks prog w A.in1 I fp wr n P St) (bt : Nat → Nat → Bool) (hcmp : CmpOf prog w A.in1 .Gt P bt) (S : Addr) (hSf : S ∉ fp) {s : Shared} {c : Nat} {d : Value} {kn : Str} (hst : St 0 s.heap)
    (hS : s.heap.get? S = some (seqObj "list" #[] c))
    (hR : ∀ v h' tk, (n = 0 → v = d) → (0 < n → P (argBest bt (n - 1)) v) → (∀ b o, b ∉ wr → b ≠ S → s.heap.get? b = some o → h'.get? b = some o) → R (.ok (.ret v)) { s with heap := h', toks := tk }) :
    codeAny (model prog w) A (.builtin "max.loop" ⟨[.ref I, .none, .ref S], [(kn, d)]⟩) R s := by
  have hSw : S ∉ wr := fun h => hSf (W.sub _ h)
  refine codeAny_builtin PySem.F.entry_max_loop ?_
  rw [Around.under_plainId PySem.F.plain_max_loop _]
  show wpAny _ A.in1 (seqItems? (.ref S) >>= _) _ _ s
  refine wpAny_bind (wpAny_seqItems hS rfl ?_)
  show wpAny _ A.in1 (tryCatch (pyNext (.ref I)) _ >>= _) _ _ s
  rcases Nat.eq_zero_or_pos n with hn | hn
  · refine wpAny_bind (wpAny_tryCatch (W.done s _ _ (hn ▸ hst) fun h' tk hk' => ?_))
    show wpAny _ A.in1 (rule _ >>= fun _ => ret d) _ _ _
    exact wpAny_bind (wpAny_rule (wpAny_pure (hR d h' tk (fun _ => rfl) (fun z => absurd hn (Nat.ne_of_gt z)) fun b o hbw _ e => hk' b o hbw e)))
  · refine wpAny_bind (wpAny_tryCatch (W.item 0 s _ _ hn hst fun v h' tk hP hst' hk' => ?_))
    have hS' := hk' S _ hSw hS
    show wpAny _ A.in1 (updateSeq S (fun _ => #[v, v]) >>= _) _ _ _
    refine wpAny_bind (wpAny_updateSeq hS' rfl ?_)
    rw [max_name]
    refine wpAny_pure ⟨plainId_quiet PySem.F.plain_max_loop _, max_go W bt hcmp S hSf _ 0 _ v _ rfl hn (W.frame _ _ _ hst' fun b hbf o e => ?_) hP (Heap.get?_update_self _ hS' rfl) fun v' h2 tk2 hP' hk2 => ?_⟩
    · exact (Heap.get?_update_other _ _ (fun h : S = b => hSf (by rw [h]; exact hbf))).trans e
    · exact hR v' h2 tk2 (fun z => absurd z (Nat.ne_of_gt hn)) (fun _ => hP') fun b o hbw hbS e => hk2 b o hbw hbS ((Heap.get?_update_other _ _ (Ne.symm hbS)).trans (hk' b o hbw e))
end
theorem max_args (a v : Value) : argsOk "max" ⟨[a], [(Str.ofString "default", v)]⟩ := by unfold argsOk; kernel_rfl
theorem max_bind (d : Value) : Builtin.Builtins.bindParams "max" ["key", "default"] 0 ⟨[], [(Str.ofString "default", d)]⟩ = pure [none, some d] := by first | rfl | kernel_rfl
section
variable {prog : Program} {w : World} {A : Around} {E : Value → Shared → Prop} {s : Shared}
theorem max_call {x d : Value} {Q : Value → Shared → Prop}
    (h : wpAny (model prog w) A.in1 (pyIter x) (fun it s₂ => ∃ I fp wr n P St bt, it = .ref I ∧ Walks prog w A.in1 I fp wr n P St ∧ St 0 s₂.heap ∧ (∀ b ∈ fp, b < s₂.heap.objs.size) ∧ CmpOf prog w A.in1 .Gt P bt ∧
      ∀ v h' tk, (n = 0 → v = d) → (0 < n → P (argBest bt (n - 1)) v) → (∀ b o, b ∉ wr → s₂.heap.get? b = some o → h'.get? b = some o) → Q v { s₂ with heap := h', toks := tk }) E s) :
    wpAny (model prog w) A (call (.builtin "max") [x] [(Str.ofString "default", d)]) Q E s := by
  refine PyProof.Rows.kmk_tree PySem.F.kind_max PySem.F.plain_max PySem.F.entry_max (max_args _ _) ?_
  show wpAny _ A.in1 (Builtin.Builtins.bindParams "max" ["key", "default"] 0 ⟨[], [(Str.ofString "default", d)]⟩ >>= _) _ _ s
  refine wpAny_bind (wpAny_of_eq (max_bind d) ?_)
  refine wpAny_bind (wpAny_pure ?_)
  refine wpAny_bind (wpAny_mono h (fun it s₂ h₂ => ?_) fun _ _ e => e)
  obtain ⟨I, fp, wr, n, P, St, bt, rfl, W, hst, hfp, hcmp, hQ⟩ := h₂
  refine wpAny_bind (wpAny_newObj_type ?_)
  have hSf : s₂.heap.objs.size ∉ fp := fun hm => Nat.lt_irrefl _ (hfp _ hm)
  rw [max_name]
  refine wpAny_pure ⟨plainId_quiet PySem.F.plain_max_loop _, max_from W bt hcmp s₂.heap.objs.size hSf (W.frame _ _ _ hst fun b _ o e => Heap.get?_push_of_some _ e) (Heap.get?_push_size _ rfl) fun v h' tk h0 hP hk => ?_⟩
  exact hQ v h' tk h0 hP fun b o hbw e => hk b o hbw (Nat.ne_of_lt (Heap.lt_size e)) (Heap.get?_push_of_some _ e)
theorem max_ints {l : Addr} {its : List Value} {ns : List Int} {d : Value} {Q : Value → Shared → Prop} (hh : A.handled = none) (hl : s.heap.IsList l its.toArray) (hi : IntsAre its ns)
    (h : ∀ h' tk v, (∀ b o, s.heap.get? b = some o → h'.get? b = some o) → (ns = [] → v = d) → (ns ≠ [] → ∃ M t', v = .int M t' ∧ M ∈ ns ∧ ∀ a, a ∈ ns → a ≤ M) → Q v { s with heap := h', toks := tk }) :
    wpAny (model prog w) A (call (.builtin "max") [.ref l] [(Str.ofString "default", d)]) Q E s := by
  obtain ⟨xs, e⟩ := hi.allInts.items
  have hn : numsOf (intItems xs).toList = ns := by rw [← e]; exact hi.numsOf
  rw [nums_intItems] at hn
  subst hn
  rw [e] at hl
  have hsz : (intItems xs).size = xs.size := by simp [intItems]
  refine max_call (iter_intList hl fun s₂ e st hfp hlI => ?_)
  subst e
  refine ⟨_, _, _, _, _, _, _, rfl, Walks.list (A := A.in1) hh _ l hlI (intItems xs), st, hfp, CmpOf.ints_gt (numAt xs) (fun _ _ => intItems_at), fun v h' tk h0 hP hk => ?_⟩
  refine h h' tk v (old_kept hk) (fun z => h0 ?_) (fun z => ?_)
  · rw [hsz]
    have := congrArg List.length z
    simpa using this
  · have hpos : 0 < xs.size := by
      rcases Nat.eq_zero_or_pos xs.size with q | q
      · exact absurd (List.eq_nil_of_length_eq_zero (by simpa using q)) z
      · exact q
    have hv := hP (by rw [hsz]; exact hpos)
    rw [hsz] at hv
    obtain ⟨t, rfl⟩ := intItems_at (by simpa [intItems] using hv)
    obtain ⟨h1, h2⟩ := argBest_gt (numAt xs) (xs.size - 1)
    refine ⟨_, t, rfl, ?_, fun a ha => ?_⟩
    · rw [numAt_eq]; exact PySem.getD_mem (by rw [List.length_map, Array.length_toList]; exact Nat.lt_of_le_of_lt h1 (by omega))
    · obtain ⟨j, hj, rfl⟩ := mem_getD ha
      rw [List.length_map, Array.length_toList] at hj
      rw [← numAt_eq]; exact h2 j (by omega)
end
/-- max(xs, default=d) of a list of ints -/
def rMaxD (K : PySem.W.Frag) : List V → List V → Hp → VK → Prop := fun vs zs H Q => ∃ (a : Addr) (ns : List Int) (d : Int), vs = [V.ref a] ∧ zs = [.int d] ∧ SqL K H a (ns.map V.int) ∧ ∀ M : Int, (ns = [] → M = d) → (ns ≠ [] → M ∈ ns ∧ ∀ a, a ∈ ns → a ≤ M) → Q (.int M) H
theorem cr_maxD {X : Cx} (hc : X.calm = true) : CallRK X (.builtin "max") [Str.ofString "default"] (rMaxD X.K) := by
  intro pins s σ H vs zs us ws Q I r rz h
  obtain ⟨a, ns, d, rfl, rfl, hs, q⟩ := h
  obtain ⟨its, rv, hl, _⟩ := I.list hs
  obtain rfl := Vals.ref1 r
  obtain ⟨w1, rfl, t1, rfl⟩ := vals1 rz
  refine max_ints (I.ok.hd hc) hl.isList rv.ints fun h' tk v hk h0 h1 => ?_
  by_cases e : ns = []
  · exact ⟨.int d, H, I.kept hk, ⟨t1, h0 e⟩, q d (fun _ => rfl) (fun z => absurd e z)⟩
  · obtain ⟨M, t', rfl, hM, hb⟩ := h1 e
    exact ⟨.int M, H, I.kept hk, ⟨t', rfl⟩, q M (fun z => absurd z e) (fun _ => ⟨hM, hb⟩)⟩

section
variable {prog : Program} {w : World} {A : Around} {R : Result → Shared → Prop} {I : Addr} {fp wr : List Addr} {n : Nat} {P : Nat → Value → Prop} {St : Nat → Heap → Prop} {kw : List (Str × Value)}
theorem min_name : (toString "min" ++ toString ".loop" : String) = "min.loop" := by decide
/-- behind the first item, whatever the keywords are -/
theorem min_go (W : Walks prog w A.in1 I fp wr n P St) (bt : Nat → Nat → Bool) (hcmp : CmpOf prog w A.in1 .Lt P bt) (S : Addr) (hSf : S ∉ fp) :
    ∀ (k j : Nat) (s : Shared) (vb : Value) (c : Nat), n - (j + 1) = k → j + 1 ≤ n → St (j + 1) s.heap → P (argBest bt j) vb →
    s.heap.get? S = some (seqObj "list" #[vb, vb] c) →
    (∀ v h' tk, P (argBest bt (n - 1)) v → (∀ b o, b ∉ wr → b ≠ S → s.heap.get? b = some o → h'.get? b = some o) → R (.ok (.ret v)) { s with heap := h', toks := tk }) →
    codeAny (model prog w) A (.builtin "min.loop" ⟨[.ref I, .none, .ref S], kw⟩) R s := by
  have hSw : S ∉ wr := fun h => hSf (W.sub _ h)
  intro k
  induction k with
  | zero =>
    intro j s vb c hk hj hst hPb hS hR
    have hin : j + 1 = n := by omega
    refine codeAny_builtin PySem.F.entry_min_loop ?_
    rw [Around.under_plainId PySem.F.plain_min_loop _]
    show wpAny _ A.in1 (seqItems? (.ref S) >>= _) _ _ s
    refine wpAny_bind (wpAny_seqItems hS rfl ?_)
    show wpAny _ A.in1 (tryCatch (pyNext (.ref I)) _ >>= _) _ _ s
    refine wpAny_bind (wpAny_tryCatch (W.done s _ _ (hin ▸ hst) fun h' tk hk' => ?_))
    have hS' := hk' S _ hSw hS
    show wpAny _ A.in1 (updateSeq S (fun _ => #[]) >>= _) _ _ _
    refine wpAny_bind (wpAny_updateSeq hS' rfl (wpAny_bind (wpAny_letGo (wpAny_pure ?_))))
    exact hR vb _ tk (by rw [← hin]; exact hPb) fun b o hbw hbS e => (Heap.get?_update_other _ _ (Ne.symm hbS)).trans (hk' b o hbw e)
  | succ k ih =>
    intro j s vb c hk hj hst hPb hS hR
    have hlt : j + 1 < n := by omega
    refine codeAny_builtin PySem.F.entry_min_loop ?_
    rw [Around.under_plainId PySem.F.plain_min_loop _]
    show wpAny _ A.in1 (seqItems? (.ref S) >>= _) _ _ s
    refine wpAny_bind (wpAny_seqItems hS rfl ?_)
    show wpAny _ A.in1 (tryCatch (pyNext (.ref I)) _ >>= _) _ _ s
    refine wpAny_bind (wpAny_tryCatch (W.item (j + 1) s _ _ hlt hst fun v h' tk hP hst' hk' => ?_))
    have hS' := hk' S _ hSw hS
    show wpAny _ A.in1 (tryCatch (holding [v, v] (richCompare .Lt v vb >>= _)) _ >>= _) _ _ _
    refine wpAny_bind (wpAny_tryCatch (wpAny_holding (wpAny_bind (hcmp (j + 1) (argBest bt j) v vb _ _ _ hP hPb ?_))))
    refine wpAny_bind (wpAny_holding (wpAny_truthy_bool ?_))
    refine wpAny_bind (wpAny_letGo (wpAny_pure ?_))
    have back : ∀ (h2 : Heap), (∀ b o, b ≠ S → h'.get? b = some o → h2.get? b = some o) → ∀ b o, b ∉ wr → b ≠ S → s.heap.get? b = some o → h2.get? b = some o := fun h2 z b o hbw hbS e => z b o hbS (hk' b o hbw e)
    cases hb : bt (j + 1) (argBest bt j) with
    | true =>
      simp only [if_true]
      refine wpAny_bind (wpAny_updateSeq hS' rfl (wpAny_bind (wpAny_letGo ?_)))
      rw [min_name]
      refine wpAny_pure ⟨plainId_quiet PySem.F.plain_min_loop _, ih (j + 1) _ v _ (by omega) hlt (W.frame _ _ _ hst' fun b hbf o e => ?_) (by simp only [argBest, hb, if_true]; exact hP) (Heap.get?_update_self _ hS' rfl)
        fun v' h2 tk2 hP' hk2 => hR v' h2 tk2 hP' fun b o hbw hbS e => hk2 b o hbw hbS (back _ (fun b o hbS e => (Heap.get?_update_other _ _ (Ne.symm hbS)).trans e) b o hbw hbS e)⟩
      exact (Heap.get?_update_other _ _ (fun h : S = b => hSf (by rw [h]; exact hbf))).trans e
    | false =>
      simp only [Bool.false_eq_true, if_false]
      refine wpAny_bind (wpAny_letGo ?_)
      rw [min_name]
      exact wpAny_pure ⟨plainId_quiet PySem.F.plain_min_loop _, ih (j + 1) _ vb c (by omega) hlt hst' (by simp only [argBest, hb, Bool.false_eq_true, if_false]; exact hPb) hS' fun v' h2 tk2 hP' hk2 => hR v' h2 tk2 hP' fun b o hbw hbS e => hk2 b o hbw hbS (hk' b o hbw e)⟩
/-- from the start, with a default -/
theorem min_from (W : Walks prog w A.in1 I fp wr n P St) (bt : Nat → Nat → Bool) (hcmp : CmpOf prog w A.in1 .Lt P bt) (S : Addr) (hSf : S ∉ fp) {s : Shared} {c : Nat} {d : Value} {kn : Str} (hst : St 0 s.heap)
    (hS : s.heap.get? S = some (seqObj "list" #[] c))
    (hR : ∀ v h' tk, (n = 0 → v = d) → (0 < n → P (argBest bt (n - 1)) v) → (∀ b o, b ∉ wr → b ≠ S → s.heap.get? b = some o → h'.get? b = some o) → R (.ok (.ret v)) { s with heap := h', toks := tk }) :
    codeAny (model prog w) A (.builtin "min.loop" ⟨[.ref I, .none, .ref S], [(kn, d)]⟩) R s := by
  have hSw : S ∉ wr := fun h => hSf (W.sub _ h)
  refine codeAny_builtin PySem.F.entry_min_loop ?_
  rw [Around.under_plainId PySem.F.plain_min_loop _]
  show wpAny _ A.in1 (seqItems? (.ref S) >>= _) _ _ s
  refine wpAny_bind (wpAny_seqItems hS rfl ?_)
  show wpAny _ A.in1 (tryCatch (pyNext (.ref I)) _ >>= _) _ _ s
  rcases Nat.eq_zero_or_pos n with hn | hn
  · refine wpAny_bind (wpAny_tryCatch (W.done s _ _ (hn ▸ hst) fun h' tk hk' => ?_))
    show wpAny _ A.in1 (rule _ >>= fun _ => ret d) _ _ _
    exact wpAny_bind (wpAny_rule (wpAny_pure (hR d h' tk (fun _ => rfl) (fun z => absurd hn (Nat.ne_of_gt z)) fun b o hbw _ e => hk' b o hbw e)))
  · refine wpAny_bind (wpAny_tryCatch (W.item 0 s _ _ hn hst fun v h' tk hP hst' hk' => ?_))
    have hS' := hk' S _ hSw hS
    show wpAny _ A.in1 (updateSeq S (fun _ => #[v, v]) >>= _) _ _ _
    refine wpAny_bind (wpAny_updateSeq hS' rfl ?_)
    rw [min_name]
    refine wpAny_pure ⟨plainId_quiet PySem.F.plain_min_loop _, min_go W bt hcmp S hSf _ 0 _ v _ rfl hn (W.frame _ _ _ hst' fun b hbf o e => ?_) hP (Heap.get?_update_self _ hS' rfl) fun v' h2 tk2 hP' hk2 => ?_⟩
    · exact (Heap.get?_update_other _ _ (fun h : S = b => hSf (by rw [h]; exact hbf))).trans e
    · exact hR v' h2 tk2 (fun z => absurd z (Nat.ne_of_gt hn)) (fun _ => hP') fun b o hbw hbS e => hk2 b o hbw hbS ((Heap.get?_update_other _ _ (Ne.symm hbS)).trans (hk' b o hbw e))
end
theorem min_args (a v : Value) : argsOk "min" ⟨[a], [(Str.ofString "default", v)]⟩ := by unfold argsOk; kernel_rfl
theorem min_bind (d : Value) : Builtin.Builtins.bindParams "min" ["key", "default"] 0 ⟨[], [(Str.ofString "default", d)]⟩ = pure [none, some d] := by first | rfl | kernel_rfl
section
variable {prog : Program} {w : World} {A : Around} {E : Value → Shared → Prop} {s : Shared}
theorem min_call {x d : Value} {Q : Value → Shared → Prop}
    (h : wpAny (model prog w) A.in1 (pyIter x) (fun it s₂ => ∃ I fp wr n P St bt, it = .ref I ∧ Walks prog w A.in1 I fp wr n P St ∧ St 0 s₂.heap ∧ (∀ b ∈ fp, b < s₂.heap.objs.size) ∧ CmpOf prog w A.in1 .Lt P bt ∧
      ∀ v h' tk, (n = 0 → v = d) → (0 < n → P (argBest bt (n - 1)) v) → (∀ b o, b ∉ wr → s₂.heap.get? b = some o → h'.get? b = some o) → Q v { s₂ with heap := h', toks := tk }) E s) :
    wpAny (model prog w) A (call (.builtin "min") [x] [(Str.ofString "default", d)]) Q E s := by
  refine PyProof.Rows.kmk_tree PySem.F.kind_min PySem.F.plain_min PySem.F.entry_min (min_args _ _) ?_
  show wpAny _ A.in1 (Builtin.Builtins.bindParams "min" ["key", "default"] 0 ⟨[], [(Str.ofString "default", d)]⟩ >>= _) _ _ s
  refine wpAny_bind (wpAny_of_eq (min_bind d) ?_)
  refine wpAny_bind (wpAny_pure ?_)
  refine wpAny_bind (wpAny_mono h (fun it s₂ h₂ => ?_) fun _ _ e => e)
  obtain ⟨I, fp, wr, n, P, St, bt, rfl, W, hst, hfp, hcmp, hQ⟩ := h₂
  refine wpAny_bind (wpAny_newObj_type ?_)
  have hSf : s₂.heap.objs.size ∉ fp := fun hm => Nat.lt_irrefl _ (hfp _ hm)
  rw [min_name]
  refine wpAny_pure ⟨plainId_quiet PySem.F.plain_min_loop _, min_from W bt hcmp s₂.heap.objs.size hSf (W.frame _ _ _ hst fun b _ o e => Heap.get?_push_of_some _ e) (Heap.get?_push_size _ rfl) fun v h' tk h0 hP hk => ?_⟩
  exact hQ v h' tk h0 hP fun b o hbw e => hk b o hbw (Nat.ne_of_lt (Heap.lt_size e)) (Heap.get?_push_of_some _ e)
theorem min_ints {l : Addr} {its : List Value} {ns : List Int} {d : Value} {Q : Value → Shared → Prop} (hh : A.handled = none) (hl : s.heap.IsList l its.toArray) (hi : IntsAre its ns)
    (h : ∀ h' tk v, (∀ b o, s.heap.get? b = some o → h'.get? b = some o) → (ns = [] → v = d) → (ns ≠ [] → ∃ M t', v = .int M t' ∧ M ∈ ns ∧ ∀ a, a ∈ ns → M ≤ a) → Q v { s with heap := h', toks := tk }) :
    wpAny (model prog w) A (call (.builtin "min") [.ref l] [(Str.ofString "default", d)]) Q E s := by
  obtain ⟨xs, e⟩ := hi.allInts.items
  have hn : numsOf (intItems xs).toList = ns := by rw [← e]; exact hi.numsOf
  rw [nums_intItems] at hn
  subst hn
  rw [e] at hl
  have hsz : (intItems xs).size = xs.size := by simp [intItems]
  refine min_call (iter_intList hl fun s₂ e st hfp hlI => ?_)
  subst e
  refine ⟨_, _, _, _, _, _, _, rfl, Walks.list (A := A.in1) hh _ l hlI (intItems xs), st, hfp, CmpOf.ints_lt (numAt xs) (fun _ _ => intItems_at), fun v h' tk h0 hP hk => ?_⟩
  refine h h' tk v (old_kept hk) (fun z => h0 ?_) (fun z => ?_)
  · rw [hsz]
    have := congrArg List.length z
    simpa using this
  · have hpos : 0 < xs.size := by
      rcases Nat.eq_zero_or_pos xs.size with q | q
      · exact absurd (List.eq_nil_of_length_eq_zero (by simpa using q)) z
      · exact q
    have hv := hP (by rw [hsz]; exact hpos)
    rw [hsz] at hv
    obtain ⟨t, rfl⟩ := intItems_at (by simpa [intItems] using hv)
    obtain ⟨h1, h2⟩ := argBest_lt (numAt xs) (xs.size - 1)
    refine ⟨_, t, rfl, ?_, fun a ha => ?_⟩
    · rw [numAt_eq]; exact PySem.getD_mem (by rw [List.length_map, Array.length_toList]; exact Nat.lt_of_le_of_lt h1 (by omega))
    · obtain ⟨j, hj, rfl⟩ := mem_getD ha
      rw [List.length_map, Array.length_toList] at hj
      rw [← numAt_eq]; exact h2 j (by omega)
end
/-- min(xs, default=d) of a list of ints -/
def rMinD (K : PySem.W.Frag) : List V → List V → Hp → VK → Prop := fun vs zs H Q => ∃ (a : Addr) (ns : List Int) (d : Int), vs = [V.ref a] ∧ zs = [.int d] ∧ SqL K H a (ns.map V.int) ∧ ∀ M : Int, (ns = [] → M = d) → (ns ≠ [] → M ∈ ns ∧ ∀ a, a ∈ ns → M ≤ a) → Q (.int M) H
theorem cr_minD {X : Cx} (hc : X.calm = true) : CallRK X (.builtin "min") [Str.ofString "default"] (rMinD X.K) := by
  intro pins s σ H vs zs us ws Q I r rz h
  obtain ⟨a, ns, d, rfl, rfl, hs, q⟩ := h
  obtain ⟨its, rv, hl, _⟩ := I.list hs
  obtain rfl := Vals.ref1 r
  obtain ⟨w1, rfl, t1, rfl⟩ := vals1 rz
  refine min_ints (I.ok.hd hc) hl.isList rv.ints fun h' tk v hk h0 h1 => ?_
  by_cases e : ns = []
  · exact ⟨.int d, H, I.kept hk, ⟨t1, h0 e⟩, q d (fun _ => rfl) (fun z => absurd e z)⟩
  · obtain ⟨M, t', rfl, hM, hb⟩ := h1 e
    exact ⟨.int M, H, I.kept hk, ⟨t', rfl⟩, q M (fun z => absurd z e) (fun _ => ⟨hM, hb⟩)⟩
end Cold

namespace Cold
open PySem PySem.Spec PyProof.Rows L2 Evl
/-! ### what the top has written. Printed by txt.py -/
/-- the statements of the text -/
def top (i : Nat) : Stmt := PySem.Challenge.pw_coldhall_s01_answers.main.body.getD i (.Pass ⟨0, 0, 0, 0⟩)
abbrev s_Refusal_init : Stmt := inClass (top 7) 0
theorem sc_Refusal_init : FnScope ["self", "code"] ["self", "code"] (defScope s_Refusal_init) := ⟨rfl, rfl, rfl, by decide +kernel, rfl, by decide +kernel, by decide +kernel⟩
abbrev s_Lot_init : Stmt := inClass (top 17) 0
theorem sc_Lot_init : FnScope ["self", "life", "hours"] ["self", "life", "hours"] (defScope s_Lot_init) := ⟨rfl, rfl, rfl, by decide +kernel, rfl, by decide +kernel, by decide +kernel⟩
abbrev s_Planner_init : Stmt := inClass (top 18) 0
theorem sc_Planner_init : FnScope ["self", "storage", "capacity", "lot"] ["self", "storage", "capacity"] (defScope s_Planner_init) := ⟨rfl, rfl, rfl, by decide +kernel, rfl, by decide +kernel, by decide +kernel⟩
abbrev s_Planner_plan_for : Stmt := inClass (top 18) 1
theorem sc_Planner_plan_for : FnScope ["self", "mask", "needs", "one"] ["self", "mask"] (defScope s_Planner_plan_for) := ⟨rfl, rfl, rfl, by decide +kernel, rfl, by decide +kernel, by decide +kernel⟩
abbrev s_Planner_plan_from : Stmt := inClass (top 18) 2
theorem sc_Planner_plan_from : FnScope ["self", "hour", "needs", "one", "need", "candidates", "size", "mask", "members", "left", "rest"] ["self", "hour", "needs"] (defScope s_Planner_plan_from) := ⟨rfl, rfl, rfl, by decide +kernel, rfl, by decide +kernel, by decide +kernel⟩
abbrev s_Planner_largest_set : Stmt := inClass (top 18) 3
theorem sc_Planner_largest_set : FnScope ["self", "best", "mask"] ["self"] (defScope s_Planner_largest_set) := ⟨rfl, rfl, rfl, by decide +kernel, rfl, by decide +kernel, by decide +kernel⟩
abbrev s_Storage_init : Stmt := inClass (top 19) 0
theorem sc_Storage_init : FnScope ["self", "warm_loss", "cold_loss", "capacity"] ["self", "warm_loss", "cold_loss", "capacity"] (defScope s_Storage_init) := ⟨rfl, rfl, rfl, by decide +kernel, rfl, by decide +kernel, by decide +kernel⟩
abbrev s_Storage_cold_hours_needed : Stmt := inClass (top 19) 1
theorem sc_Storage_cold_hours_needed : FnScope ["self", "lot", "cold"] ["self", "lot"] (defScope s_Storage_cold_hours_needed) := ⟨rfl, rfl, rfl, by decide +kernel, rfl, by decide +kernel, by decide +kernel⟩
abbrev s_Storage_all_lots : Stmt := inClass (top 19) 2
theorem sc_Storage_all_lots : FnScope ["self"] ["self"] (defScope s_Storage_all_lots) := ⟨rfl, rfl, rfl, by decide +kernel, rfl, by decide +kernel, by decide +kernel⟩
abbrev s_Storage_add_lot : Stmt := inClass (top 19) 3
theorem sc_Storage_add_lot : FnScope ["self", "life", "hours"] ["self", "life", "hours"] (defScope s_Storage_add_lot) := ⟨rfl, rfl, rfl, by decide +kernel, rfl, by decide +kernel, by decide +kernel⟩
abbrev s_Storage_remove_lot : Stmt := inClass (top 19) 4
theorem sc_Storage_remove_lot : FnScope ["self", "lot"] ["self", "lot"] (defScope s_Storage_remove_lot) := ⟨rfl, rfl, rfl, by decide +kernel, rfl, by decide +kernel, by decide +kernel⟩
abbrev s_Storage_set_capacity : Stmt := inClass (top 19) 5
theorem sc_Storage_set_capacity : FnScope ["self", "capacity", "before"] ["self", "capacity"] (defScope s_Storage_set_capacity) := ⟨rfl, rfl, rfl, by decide +kernel, rfl, by decide +kernel, by decide +kernel⟩
abbrev s_Storage_pass_hour : Stmt := inClass (top 19) 6
theorem sc_Storage_pass_hour : FnScope ["self", "mask", "kept", "left", "spoiled", "i", "lot", "loss"] ["self", "mask"] (defScope s_Storage_pass_hour) := ⟨rfl, rfl, rfl, by decide +kernel, rfl, by decide +kernel, by decide +kernel⟩
abbrev s_Storage_run_hour : Stmt := inClass (top 19) 7
theorem sc_Storage_run_hour : FnScope ["self", "mask", "found"] ["self", "mask"] (defScope s_Storage_run_hour) := ⟨rfl, rfl, rfl, by decide +kernel, rfl, by decide +kernel, by decide +kernel⟩
abbrev s_Storage_run_best : Stmt := inClass (top 19) 8
theorem sc_Storage_run_best : FnScope ["self", "left", "spoiled", "planner", "plan", "found"] ["self"] (defScope s_Storage_run_best) := ⟨rfl, rfl, rfl, by decide +kernel, rfl, by decide +kernel, by decide +kernel⟩
abbrev s_Storage_plan_for : Stmt := inClass (top 19) 9
theorem sc_Storage_plan_for : FnScope ["self", "mask", "plan"] ["self", "mask"] (defScope s_Storage_plan_for) := ⟨rfl, rfl, rfl, by decide +kernel, rfl, by decide +kernel, by decide +kernel⟩
abbrev s_Storage_can_last : Stmt := inClass (top 19) 10
theorem sc_Storage_can_last : FnScope ["self", "mask"] ["self", "mask"] (defScope s_Storage_can_last) := ⟨rfl, rfl, rfl, by decide +kernel, rfl, by decide +kernel, by decide +kernel⟩
abbrev s_Storage_largest_set : Stmt := inClass (top 19) 11
theorem sc_Storage_largest_set : FnScope ["self", "members"] ["self"] (defScope s_Storage_largest_set) := ⟨rfl, rfl, rfl, by decide +kernel, rfl, by decide +kernel, by decide +kernel⟩
abbrev s_Storage_check_plan : Stmt := inClass (top 19) 12
theorem sc_Storage_check_plan : FnScope ["self", "mask", "plan", "one", "hour", "members", "lot", "cold", "need"] ["self", "mask", "plan"] (defScope s_Storage_check_plan) := ⟨rfl, rfl, rfl, by decide +kernel, rfl, by decide +kernel, by decide +kernel⟩
abbrev s_Storage_largest_if_capacity : Stmt := inClass (top 19) 13
theorem sc_Storage_largest_if_capacity : FnScope ["self", "capacity", "mask"] ["self", "capacity"] (defScope s_Storage_largest_if_capacity) := ⟨rfl, rfl, rfl, by decide +kernel, rfl, by decide +kernel, by decide +kernel⟩
abbrev s_Storage_min_capacity : Stmt := inClass (top 19) 14
theorem sc_Storage_min_capacity : FnScope ["self", "capacity"] ["self"] (defScope s_Storage_min_capacity) := ⟨rfl, rfl, rfl, by decide +kernel, rfl, by decide +kernel, by decide +kernel⟩
abbrev s_Storage_list_lots : Stmt := inClass (top 19) 15
theorem sc_Storage_list_lots : FnScope ["self", "told", "lot"] ["self"] (defScope s_Storage_list_lots) := ⟨rfl, rfl, rfl, by decide +kernel, rfl, by decide +kernel, by decide +kernel⟩
abbrev s_Storage_set_losses : Stmt := inClass (top 19) 16
theorem sc_Storage_set_losses : FnScope ["self", "warm_loss", "cold_loss", "before"] ["self", "warm_loss", "cold_loss"] (defScope s_Storage_set_losses) := ⟨rfl, rfl, rfl, by decide +kernel, rfl, by decide +kernel, by decide +kernel⟩
abbrev s_Storage_loss_under_plan : Stmt := inClass (top 19) 17
theorem sc_Storage_loss_under_plan : FnScope ["self", "number", "plan", "mask", "lot", "cold", "loss"] ["self", "number", "plan"] (defScope s_Storage_loss_under_plan) := ⟨rfl, rfl, rfl, by decide +kernel, rfl, by decide +kernel, by decide +kernel⟩
abbrev s_Storage_count_if_warm_loss : Stmt := inClass (top 19) 18
theorem sc_Storage_count_if_warm_loss : FnScope ["self", "warm_loss", "other"] ["self", "warm_loss"] (defScope s_Storage_count_if_warm_loss) := ⟨rfl, rfl, rfl, by decide +kernel, rfl, by decide +kernel, by decide +kernel⟩
abbrev s_Storage_needed_by : Stmt := inClass (top 19) 19
theorem sc_Storage_needed_by : FnScope ["self", "number", "found"] ["self", "number"] (defScope s_Storage_needed_by) := ⟨rfl, rfl, rfl, by decide +kernel, rfl, by decide +kernel, by decide +kernel⟩
abbrev s_Storage_balance : Stmt := inClass (top 19) 20
theorem sc_Storage_balance : FnScope ["self", "needed", "available", "hour", "lot"] ["self"] (defScope s_Storage_balance) := ⟨rfl, rfl, rfl, by decide +kernel, rfl, by decide +kernel, by decide +kernel⟩
abbrev s_Storage_change : Stmt := inClass (top 19) 21
theorem sc_Storage_change : FnScope ["self", "which", "n"] ["self", "which", "n"] (defScope s_Storage_change) := ⟨rfl, rfl, rfl, by decide +kernel, rfl, by decide +kernel, by decide +kernel⟩
abbrev s_Storage_tell : Stmt := inClass (top 19) 22
theorem sc_Storage_tell : FnScope ["self", "which", "n", "row", "lot"] ["self", "which", "n", "row"] (defScope s_Storage_tell) := ⟨rfl, rfl, rfl, by decide +kernel, rfl, by decide +kernel, by decide +kernel⟩
abbrev s_Storage_tell_more : Stmt := inClass (top 19) 23
theorem sc_Storage_tell_more : FnScope ["self", "which", "n"] ["self", "which", "n"] (defScope s_Storage_tell_more) := ⟨rfl, rfl, rfl, by decide +kernel, rfl, by decide +kernel, by decide +kernel⟩
abbrev s_Desk_init : Stmt := inClass (top 25) 0
theorem sc_Desk_init : FnScope ["self"] ["self"] (defScope s_Desk_init) := ⟨rfl, rfl, rfl, by decide +kernel, rfl, by decide +kernel, by decide +kernel⟩
abbrev s_Desk_ask : Stmt := inClass (top 25) 1
theorem sc_Desk_ask : FnScope ["self", "which", "n", "row"] ["self", "which", "n", "row"] (defScope s_Desk_ask) := ⟨rfl, rfl, rfl, by decide +kernel, rfl, by decide +kernel, by decide +kernel⟩
abbrev s_Desk_carry_out : Stmt := inClass (top 25) 2
theorem sc_Desk_carry_out : FnScope ["self", "which", "n", "row", "refusal"] ["self", "which", "n", "row"] (defScope s_Desk_carry_out) := ⟨rfl, rfl, rfl, by decide +kernel, rfl, by decide +kernel, by decide +kernel⟩
abbrev s_check : Stmt := top 8
theorem sc_check : FnScope ["holds", "code"] ["holds", "code"] (defScope s_check) := ⟨rfl, rfl, rfl, by decide +kernel, rfl, by decide +kernel, by decide +kernel⟩
abbrev s_members_of : Stmt := top 9
theorem sc_members_of : FnScope ["mask", "one"] ["mask"] (defScope s_members_of) := ⟨rfl, rfl, rfl, by decide +kernel, rfl, by decide +kernel, by decide +kernel⟩
abbrev s_check_mask : Stmt := top 10
theorem sc_check_mask : FnScope ["mask", "count"] ["mask", "count"] (defScope s_check_mask) := ⟨rfl, rfl, rfl, by decide +kernel, rfl, by decide +kernel, by decide +kernel⟩
abbrev s_check_losses : Stmt := top 20
theorem sc_check_losses : FnScope ["warm_loss", "cold_loss"] ["warm_loss", "cold_loss"] (defScope s_check_losses) := ⟨rfl, rfl, rfl, by decide +kernel, rfl, by decide +kernel, by decide +kernel⟩
abbrev s_new_storage : Stmt := top 21
theorem sc_new_storage : FnScope ["n"] ["n"] (defScope s_new_storage) := ⟨rfl, rfl, rfl, by decide +kernel, rfl, by decide +kernel, by decide +kernel⟩
abbrev s_answers : Stmt := top 26
theorem sc_answers : FnScope ["calls", "desk", "told", "at", "which", "end", "numbers", "row", "start", "found"] ["calls"] (defScope s_answers) := ⟨rfl, rfl, rfl, by decide +kernel, rfl, by decide +kernel, by decide +kernel⟩
/-- the addresses of what the top has made -/
structure Ad where
  c_Refusal : Addr
  c_Lot : Addr
  c_Planner : Addr
  c_Storage : Addr
  c_Desk : Addr
  f_Refusal_init : Addr
  d_Refusal_init : FuncData
  f_Lot_init : Addr
  d_Lot_init : FuncData
  f_Planner_init : Addr
  d_Planner_init : FuncData
  f_Planner_plan_for : Addr
  d_Planner_plan_for : FuncData
  f_Planner_plan_from : Addr
  d_Planner_plan_from : FuncData
  f_Planner_largest_set : Addr
  d_Planner_largest_set : FuncData
  f_Storage_init : Addr
  d_Storage_init : FuncData
  f_Storage_cold_hours_needed : Addr
  d_Storage_cold_hours_needed : FuncData
  f_Storage_all_lots : Addr
  d_Storage_all_lots : FuncData
  f_Storage_add_lot : Addr
  d_Storage_add_lot : FuncData
  f_Storage_remove_lot : Addr
  d_Storage_remove_lot : FuncData
  f_Storage_set_capacity : Addr
  d_Storage_set_capacity : FuncData
  f_Storage_pass_hour : Addr
  d_Storage_pass_hour : FuncData
  f_Storage_run_hour : Addr
  d_Storage_run_hour : FuncData
  f_Storage_run_best : Addr
  d_Storage_run_best : FuncData
  f_Storage_plan_for : Addr
  d_Storage_plan_for : FuncData
  f_Storage_can_last : Addr
  d_Storage_can_last : FuncData
  f_Storage_largest_set : Addr
  d_Storage_largest_set : FuncData
  f_Storage_check_plan : Addr
  d_Storage_check_plan : FuncData
  f_Storage_largest_if_capacity : Addr
  d_Storage_largest_if_capacity : FuncData
  f_Storage_min_capacity : Addr
  d_Storage_min_capacity : FuncData
  f_Storage_list_lots : Addr
  d_Storage_list_lots : FuncData
  f_Storage_set_losses : Addr
  d_Storage_set_losses : FuncData
  f_Storage_loss_under_plan : Addr
  d_Storage_loss_under_plan : FuncData
  f_Storage_count_if_warm_loss : Addr
  d_Storage_count_if_warm_loss : FuncData
  f_Storage_needed_by : Addr
  d_Storage_needed_by : FuncData
  f_Storage_balance : Addr
  d_Storage_balance : FuncData
  f_Storage_change : Addr
  d_Storage_change : FuncData
  f_Storage_tell : Addr
  d_Storage_tell : FuncData
  f_Storage_tell_more : Addr
  d_Storage_tell_more : FuncData
  f_Desk_init : Addr
  d_Desk_init : FuncData
  f_Desk_ask : Addr
  d_Desk_ask : FuncData
  f_Desk_carry_out : Addr
  d_Desk_carry_out : FuncData
  f_check : Addr
  d_check : FuncData
  f_members_of : Addr
  d_members_of : FuncData
  f_check_mask : Addr
  d_check_mask : FuncData
  f_check_losses : Addr
  d_check_losses : FuncData
  f_new_storage : Addr
  d_new_storage : FuncData
  f_answers : Addr
  d_answers : FuncData
  t_SIZES : Addr
  t_WITH_ROW : Addr
/-- a whole number of the module -/
def GInt (mg : Str → Option Value) (x : Str) (i : Int) : Prop := ∃ t, mg x = some (.int i t)
/-- what the top has written -/
structure Txt (K : PySem.W.Frag) (mg : Str → Option Value) (A : Ad) : Prop where
  z_Exception : mg "Exception" = none
  z_range : mg "range" = none
  z_max : mg "max" = none
  z_min : mg "min" = none
  z_len : mg "len" = none
  z_enumerate : mg "enumerate" = none
  z_all : mg "all" = none
  z_any : mg "any" = none
  z_sum : mg "sum" = none
  k_NOT_THERE : GInt mg "NOT_THERE" (-2)
  k_MISSING : GInt mg "MISSING" (-6)
  k_OUT_OF_RANGE : GInt mg "OUT_OF_RANGE" (-22)
  k_FULL : GInt mg "FULL" (-28)
  k_IMPOSSIBLE : GInt mg "IMPOSSIBLE" (-33)
  k_NO_STORE : GInt mg "NO_STORE" (-61)
  k_LOTS_AT_MOST : GInt mg "LOTS_AT_MOST" (4)
  k_HOURS_AT_MOST : GInt mg "HOURS_AT_MOST" (6)
  k_LIFE_AT_MOST : GInt mg "LIFE_AT_MOST" (99)
  k_CAPACITY_AT_MOST : GInt mg "CAPACITY_AT_MOST" (4)
  k_LOSS_AT_MOST : GInt mg "LOSS_AT_MOST" (20)
  g_SIZES : mg "SIZES" = some (.ref A.t_SIZES)
  w_SIZES : ∀ H : Hp, SqT K H A.t_SIZES [.int 3, .int 2, .int 1, .int 1, .int 1, .int 2, .int 0, .int 0, .int 0, .int 1, .int 1, .int 0, .int 1, .int 1, .int 1, .int 0, .int 1, .int 1, .int 0, .int 0, .int 0, .int 0]
  g_WITH_ROW : mg "WITH_ROW" = some (.ref A.t_WITH_ROW)
  w_WITH_ROW : ∀ H : Hp, SqT K H A.t_WITH_ROW [.int 12, .int 13]
  g_Refusal : mg "Refusal" = some (.ref A.c_Refusal)
  rf : RfC K A.c_Refusal
  rfi : PySem.W.findIn K (.ref A.c_Refusal) "__init__" = some (some (.ref A.f_Refusal_init))
  rft : PySem.W.typeIn K (.ref A.f_Refusal_init) = some (.type "function")
  rfx : XfC K A.c_Refusal
  rfn : PySem.W.findIn K (.ref A.c_Refusal) "code" = some none
  rfe : PySem.W.exmOne K (.ref A.c_Refusal) (.ref A.c_Refusal) = some true
  rfv : PySem.W.findCls K (.type "Exception") (.type "type") "__init__" = some (.val (.builtin "Exception.__init__"))
  g_Lot : mg "Lot" = some (.ref A.c_Lot)
  l_Lot : Cls K A.c_Lot
  m_Lot : Mk K A.c_Lot A.f_Lot_init
  n_Lot_life : NoAttr K A.c_Lot "life"
  n_Lot_hours : NoAttr K A.c_Lot "hours"
  g_Planner : mg "Planner" = some (.ref A.c_Planner)
  l_Planner : Cls K A.c_Planner
  m_Planner : Mk K A.c_Planner A.f_Planner_init
  n_Planner_lots : NoAttr K A.c_Planner "lots"
  n_Planner_needs : NoAttr K A.c_Planner "needs"
  n_Planner_capacity : NoAttr K A.c_Planner "capacity"
  n_Planner_hours : NoAttr K A.c_Planner "hours"
  g_Storage : mg "Storage" = some (.ref A.c_Storage)
  l_Storage : Cls K A.c_Storage
  m_Storage : Mk K A.c_Storage A.f_Storage_init
  n_Storage_warm_loss : NoAttr K A.c_Storage "warm_loss"
  n_Storage_cold_loss : NoAttr K A.c_Storage "cold_loss"
  n_Storage_capacity : NoAttr K A.c_Storage "capacity"
  n_Storage_lots : NoAttr K A.c_Storage "lots"
  n_Storage_time : NoAttr K A.c_Storage "time"
  n_Storage_left : NoAttr K A.c_Storage "left"
  n_Storage_spoiled : NoAttr K A.c_Storage "spoiled"
  g_Desk : mg "Desk" = some (.ref A.c_Desk)
  l_Desk : Cls K A.c_Desk
  m_Desk : Mk K A.c_Desk A.f_Desk_init
  n_Desk_storage : NoAttr K A.c_Desk "storage"
  F_Refusal_init : Fun K "__init__" "Refusal.__init__" s_Refusal_init A.f_Refusal_init A.d_Refusal_init
  b_Refusal_init : Binds K A.d_Refusal_init ["self", "code"] []
  F_Lot_init : Fun K "__init__" "Lot.__init__" s_Lot_init A.f_Lot_init A.d_Lot_init
  b_Lot_init : Binds K A.d_Lot_init ["self", "life", "hours"] []
  F_Planner_init : Fun K "__init__" "Planner.__init__" s_Planner_init A.f_Planner_init A.d_Planner_init
  b_Planner_init : Binds K A.d_Planner_init ["self", "storage", "capacity"] []
  F_Planner_plan_for : Fun K "plan_for" "Planner.plan_for" s_Planner_plan_for A.f_Planner_plan_for A.d_Planner_plan_for
  b_Planner_plan_for : Binds K A.d_Planner_plan_for ["self", "mask"] []
  m_Planner_plan_for : Meth K A.c_Planner "plan_for" A.f_Planner_plan_for
  F_Planner_plan_from : Fun K "plan_from" "Planner.plan_from" s_Planner_plan_from A.f_Planner_plan_from A.d_Planner_plan_from
  b_Planner_plan_from : Binds K A.d_Planner_plan_from ["self", "hour", "needs"] []
  m_Planner_plan_from : Meth K A.c_Planner "plan_from" A.f_Planner_plan_from
  F_Planner_largest_set : Fun K "largest_set" "Planner.largest_set" s_Planner_largest_set A.f_Planner_largest_set A.d_Planner_largest_set
  b_Planner_largest_set : Binds K A.d_Planner_largest_set ["self"] []
  m_Planner_largest_set : Meth K A.c_Planner "largest_set" A.f_Planner_largest_set
  F_Storage_init : Fun K "__init__" "Storage.__init__" s_Storage_init A.f_Storage_init A.d_Storage_init
  b_Storage_init : Binds K A.d_Storage_init ["self", "warm_loss", "cold_loss", "capacity"] []
  F_Storage_cold_hours_needed : Fun K "cold_hours_needed" "Storage.cold_hours_needed" s_Storage_cold_hours_needed A.f_Storage_cold_hours_needed A.d_Storage_cold_hours_needed
  b_Storage_cold_hours_needed : Binds K A.d_Storage_cold_hours_needed ["self", "lot"] []
  m_Storage_cold_hours_needed : Meth K A.c_Storage "cold_hours_needed" A.f_Storage_cold_hours_needed
  F_Storage_all_lots : Fun K "all_lots" "Storage.all_lots" s_Storage_all_lots A.f_Storage_all_lots A.d_Storage_all_lots
  b_Storage_all_lots : Binds K A.d_Storage_all_lots ["self"] []
  m_Storage_all_lots : Meth K A.c_Storage "all_lots" A.f_Storage_all_lots
  F_Storage_add_lot : Fun K "add_lot" "Storage.add_lot" s_Storage_add_lot A.f_Storage_add_lot A.d_Storage_add_lot
  b_Storage_add_lot : Binds K A.d_Storage_add_lot ["self", "life", "hours"] []
  m_Storage_add_lot : Meth K A.c_Storage "add_lot" A.f_Storage_add_lot
  F_Storage_remove_lot : Fun K "remove_lot" "Storage.remove_lot" s_Storage_remove_lot A.f_Storage_remove_lot A.d_Storage_remove_lot
  b_Storage_remove_lot : Binds K A.d_Storage_remove_lot ["self", "lot"] []
  m_Storage_remove_lot : Meth K A.c_Storage "remove_lot" A.f_Storage_remove_lot
  F_Storage_set_capacity : Fun K "set_capacity" "Storage.set_capacity" s_Storage_set_capacity A.f_Storage_set_capacity A.d_Storage_set_capacity
  b_Storage_set_capacity : Binds K A.d_Storage_set_capacity ["self", "capacity"] []
  m_Storage_set_capacity : Meth K A.c_Storage "set_capacity" A.f_Storage_set_capacity
  F_Storage_pass_hour : Fun K "pass_hour" "Storage.pass_hour" s_Storage_pass_hour A.f_Storage_pass_hour A.d_Storage_pass_hour
  b_Storage_pass_hour : Binds K A.d_Storage_pass_hour ["self", "mask"] []
  m_Storage_pass_hour : Meth K A.c_Storage "pass_hour" A.f_Storage_pass_hour
  F_Storage_run_hour : Fun K "run_hour" "Storage.run_hour" s_Storage_run_hour A.f_Storage_run_hour A.d_Storage_run_hour
  b_Storage_run_hour : Binds K A.d_Storage_run_hour ["self", "mask"] []
  m_Storage_run_hour : Meth K A.c_Storage "run_hour" A.f_Storage_run_hour
  F_Storage_run_best : Fun K "run_best" "Storage.run_best" s_Storage_run_best A.f_Storage_run_best A.d_Storage_run_best
  b_Storage_run_best : Binds K A.d_Storage_run_best ["self"] []
  m_Storage_run_best : Meth K A.c_Storage "run_best" A.f_Storage_run_best
  F_Storage_plan_for : Fun K "plan_for" "Storage.plan_for" s_Storage_plan_for A.f_Storage_plan_for A.d_Storage_plan_for
  b_Storage_plan_for : Binds K A.d_Storage_plan_for ["self", "mask"] []
  m_Storage_plan_for : Meth K A.c_Storage "plan_for" A.f_Storage_plan_for
  F_Storage_can_last : Fun K "can_last" "Storage.can_last" s_Storage_can_last A.f_Storage_can_last A.d_Storage_can_last
  b_Storage_can_last : Binds K A.d_Storage_can_last ["self", "mask"] []
  m_Storage_can_last : Meth K A.c_Storage "can_last" A.f_Storage_can_last
  F_Storage_largest_set : Fun K "largest_set" "Storage.largest_set" s_Storage_largest_set A.f_Storage_largest_set A.d_Storage_largest_set
  b_Storage_largest_set : Binds K A.d_Storage_largest_set ["self"] []
  m_Storage_largest_set : Meth K A.c_Storage "largest_set" A.f_Storage_largest_set
  F_Storage_check_plan : Fun K "check_plan" "Storage.check_plan" s_Storage_check_plan A.f_Storage_check_plan A.d_Storage_check_plan
  b_Storage_check_plan : Binds K A.d_Storage_check_plan ["self", "mask", "plan"] []
  m_Storage_check_plan : Meth K A.c_Storage "check_plan" A.f_Storage_check_plan
  F_Storage_largest_if_capacity : Fun K "largest_if_capacity" "Storage.largest_if_capacity" s_Storage_largest_if_capacity A.f_Storage_largest_if_capacity A.d_Storage_largest_if_capacity
  b_Storage_largest_if_capacity : Binds K A.d_Storage_largest_if_capacity ["self", "capacity"] []
  m_Storage_largest_if_capacity : Meth K A.c_Storage "largest_if_capacity" A.f_Storage_largest_if_capacity
  F_Storage_min_capacity : Fun K "min_capacity" "Storage.min_capacity" s_Storage_min_capacity A.f_Storage_min_capacity A.d_Storage_min_capacity
  b_Storage_min_capacity : Binds K A.d_Storage_min_capacity ["self"] []
  m_Storage_min_capacity : Meth K A.c_Storage "min_capacity" A.f_Storage_min_capacity
  F_Storage_list_lots : Fun K "list_lots" "Storage.list_lots" s_Storage_list_lots A.f_Storage_list_lots A.d_Storage_list_lots
  b_Storage_list_lots : Binds K A.d_Storage_list_lots ["self"] []
  m_Storage_list_lots : Meth K A.c_Storage "list_lots" A.f_Storage_list_lots
  F_Storage_set_losses : Fun K "set_losses" "Storage.set_losses" s_Storage_set_losses A.f_Storage_set_losses A.d_Storage_set_losses
  b_Storage_set_losses : Binds K A.d_Storage_set_losses ["self", "warm_loss", "cold_loss"] []
  m_Storage_set_losses : Meth K A.c_Storage "set_losses" A.f_Storage_set_losses
  F_Storage_loss_under_plan : Fun K "loss_under_plan" "Storage.loss_under_plan" s_Storage_loss_under_plan A.f_Storage_loss_under_plan A.d_Storage_loss_under_plan
  b_Storage_loss_under_plan : Binds K A.d_Storage_loss_under_plan ["self", "number", "plan"] []
  m_Storage_loss_under_plan : Meth K A.c_Storage "loss_under_plan" A.f_Storage_loss_under_plan
  F_Storage_count_if_warm_loss : Fun K "count_if_warm_loss" "Storage.count_if_warm_loss" s_Storage_count_if_warm_loss A.f_Storage_count_if_warm_loss A.d_Storage_count_if_warm_loss
  b_Storage_count_if_warm_loss : Binds K A.d_Storage_count_if_warm_loss ["self", "warm_loss"] []
  m_Storage_count_if_warm_loss : Meth K A.c_Storage "count_if_warm_loss" A.f_Storage_count_if_warm_loss
  F_Storage_needed_by : Fun K "needed_by" "Storage.needed_by" s_Storage_needed_by A.f_Storage_needed_by A.d_Storage_needed_by
  b_Storage_needed_by : Binds K A.d_Storage_needed_by ["self", "number"] []
  m_Storage_needed_by : Meth K A.c_Storage "needed_by" A.f_Storage_needed_by
  F_Storage_balance : Fun K "balance" "Storage.balance" s_Storage_balance A.f_Storage_balance A.d_Storage_balance
  b_Storage_balance : Binds K A.d_Storage_balance ["self"] []
  m_Storage_balance : Meth K A.c_Storage "balance" A.f_Storage_balance
  F_Storage_change : Fun K "change" "Storage.change" s_Storage_change A.f_Storage_change A.d_Storage_change
  b_Storage_change : Binds K A.d_Storage_change ["self", "which", "n"] []
  m_Storage_change : Meth K A.c_Storage "change" A.f_Storage_change
  F_Storage_tell : Fun K "tell" "Storage.tell" s_Storage_tell A.f_Storage_tell A.d_Storage_tell
  b_Storage_tell : Binds K A.d_Storage_tell ["self", "which", "n", "row"] []
  m_Storage_tell : Meth K A.c_Storage "tell" A.f_Storage_tell
  F_Storage_tell_more : Fun K "tell_more" "Storage.tell_more" s_Storage_tell_more A.f_Storage_tell_more A.d_Storage_tell_more
  b_Storage_tell_more : Binds K A.d_Storage_tell_more ["self", "which", "n"] []
  m_Storage_tell_more : Meth K A.c_Storage "tell_more" A.f_Storage_tell_more
  F_Desk_init : Fun K "__init__" "Desk.__init__" s_Desk_init A.f_Desk_init A.d_Desk_init
  b_Desk_init : Binds K A.d_Desk_init ["self"] []
  F_Desk_ask : Fun K "ask" "Desk.ask" s_Desk_ask A.f_Desk_ask A.d_Desk_ask
  b_Desk_ask : Binds K A.d_Desk_ask ["self", "which", "n", "row"] []
  m_Desk_ask : Meth K A.c_Desk "ask" A.f_Desk_ask
  F_Desk_carry_out : Fun K "carry_out" "Desk.carry_out" s_Desk_carry_out A.f_Desk_carry_out A.d_Desk_carry_out
  b_Desk_carry_out : Binds K A.d_Desk_carry_out ["self", "which", "n", "row"] []
  m_Desk_carry_out : Meth K A.c_Desk "carry_out" A.f_Desk_carry_out
  F_check : Fun K "check" "check" s_check A.f_check A.d_check
  b_check : Binds K A.d_check ["holds", "code"] []
  g_check : mg "check" = some (.ref A.f_check)
  F_members_of : Fun K "members_of" "members_of" s_members_of A.f_members_of A.d_members_of
  b_members_of : Binds K A.d_members_of ["mask"] []
  g_members_of : mg "members_of" = some (.ref A.f_members_of)
  F_check_mask : Fun K "check_mask" "check_mask" s_check_mask A.f_check_mask A.d_check_mask
  b_check_mask : Binds K A.d_check_mask ["mask", "count"] []
  g_check_mask : mg "check_mask" = some (.ref A.f_check_mask)
  F_check_losses : Fun K "check_losses" "check_losses" s_check_losses A.f_check_losses A.d_check_losses
  b_check_losses : Binds K A.d_check_losses ["warm_loss", "cold_loss"] []
  g_check_losses : mg "check_losses" = some (.ref A.f_check_losses)
  F_new_storage : Fun K "new_storage" "new_storage" s_new_storage A.f_new_storage A.d_new_storage
  b_new_storage : Binds K A.d_new_storage ["n"] []
  g_new_storage : mg "new_storage" = some (.ref A.f_new_storage)
  F_answers : Fun K "answers" "answers" s_answers A.f_answers A.d_answers
  b_answers : Binds K A.d_answers ["calls"] []
  g_answers : mg "answers" = some (.ref A.f_answers)
/-! ### rules that the layer lacks -/
section
variable {X : Cx}
theorem pe_gint {x : Str} {i : Int} {pos : Pos} (hg : Gl X x) (h : GInt X.mg x i) (hd : (x == ("__debug__" : Str)) = false := by decide) : PE X (.Name x pos) (tC (.int i)) := by
  obtain ⟨t, e⟩ := h
  exact pe_glob hg e ⟨t, rfl⟩ hd
/-- within a comprehension's block: the written part named -/
theorem pe_fldK {K : PySem.W.Frag} (hK : X.K = K) {e : Expr} {f : Str} {ta : TE} {pos : Pos} (he : PE X e ta) (hb : attributeBase e f X.env (eval e X.env) = eval e X.env := by rfl) : PE X (.Attribute e f pos) (tFld K ta f) := by
  subst hK
  exact pe_fld he hb
theorem ix_listK {K : PySem.W.Frag} (hK : X.K = K) : IxR X (rIxL K) := by
  subst hK
  exact ix_list
def tChain3 (r r' r'' : R2) (ta tb tc td : TE) : TE := fun σ H Q => ta σ H fun x H1 => tb σ H1 fun y H2 => r x y H2 fun z H3 => ∃ k, z = .bl k ∧
  (if k = true then tc σ H3 fun u H4 => r' y u H4 fun z' H5 => ∃ k', z' = .bl k' ∧ (if k' = true then td σ H5 fun w H6 => r'' u w H6 Q else Q (.bl false) H5) else Q (.bl false) H3)
theorem pe_chain3 {a b c d : Expr} {ta tb tc td : TE} {pos : Pos} {op op' op'' : CmpOp} {r r' r'' : R2} (ho : OpR X (compareOp op) r) (ho' : OpR X (compareOp op') r') (ho'' : OpR X (compareOp op'') r'') (ha : PE X a ta) (hb : PE X b tb) (hc : PE X c tc) (hd : PE X d td)
    (hm : lastMarks [op, op', op''] [b, c, d] = false := by with_unfolding_all rfl) : PE X (.Compare a [op, op', op''] [b, c, d] pos) (tChain3 r r' r'' ta tb tc td) := by
  refine ⟨fun pins s σ H Q I h => ?_⟩
  refine Compare_chain (thn (ha.run pins s σ H _ I h) fun v s1 ⟨x, H1, I1, r1, q1⟩ => chain_link (thn (hb.run pins s1 σ H1 _ I1 q1) fun u s2 ⟨y, H2, I2, r2, q2⟩ =>
    thn (ho pins s2 σ H2 x y v u _ I2 r1 r2 q2) fun _ s3 ⟨z, H3, I3, r3, k, e, q3⟩ => ?_)) hm
  subst e
  cases r3
  refine wpAny_truthy_bool ?_
  cases k with
  | false => exact ite_ff ⟨.bl false, H3, I3, rfl, q3⟩
  | true =>
    refine ite_tt (chain_link (thn (hc.run pins s3 σ H3 _ I3 q3) fun w' s4 ⟨u', H4, I4, r4, q4⟩ => thn (ho' pins s4 σ H4 y u' u w' _ I4 r2 r4 q4) fun _ s5 ⟨z', H5, I5, r5, k', e', q5⟩ => ?_))
    subst e'
    cases r5
    refine wpAny_truthy_bool ?_
    cases k' with
    | false => exact ite_ff ⟨.bl false, H5, I5, rfl, q5⟩
    | true => exact ite_tt (chain_last (thn (hd.run pins s5 σ H5 _ I5 q5) fun w2 s6 ⟨v', H6, I6, r6, q6⟩ => ho'' pins s6 σ H6 u' v' w' w2 Q I6 r4 r6 q6))
end

/-! ### values -/
def nN (k : Nat) : V := .int (k : Int)
def lN (l : List Nat) : List V := l.map nN
def lI (l : List Int) : List V := l.map V.int
theorem lN_eq (l : List Nat) : lN l = lI (I l) := by
  unfold lN lI I
  rw [List.map_map]
  rfl
theorem lN_len (l : List Nat) : (lN l).length = l.length := by simp [lN]
theorem lI_len (l : List Int) : (lI l).length = l.length := by simp [lI]
theorem lN_get {l : List Nat} {i k : Nat} (h : l[i]? = some k) : (lN l)[i]? = some (nN k) := by
  unfold lN
  rw [List.getElem?_map, h]
  rfl
theorem lN_inv {l : List Nat} {i : Nat} {v : V} (h : (lN l)[i]? = some v) : ∃ k, l[i]? = some k ∧ v = nN k := by
  unfold lN at h
  rw [List.getElem?_map] at h
  cases e : l[i]? with
  | none => rw [e] at h; cases h
  | some k => rw [e] at h; exact ⟨k, rfl, (Option.some.inj h).symm⟩
theorem atI_get {α : Type} {xs : List α} {j : Nat} {v : α} (h : xs[j]? = some v) : atI xs (j : Int) = some v := atI_nat h
theorem bit_is (m i : Nat) : Builtin.bitAnd ((m : Int) / 2 ^ ((i : Int)).toNat) 1 = ((m / 2 ^ i % 2 : Nat) : Int) := by
  have h : ((m : Int) / 2 ^ ((i : Int)).toNat) = ((m / 2 ^ i : Nat) : Int) := by
    rw [Int.toNat_natCast]
    norm_cast
  rw [h, PyProof.Rows.bitAnd_m1]
  norm_cast
theorem bit_member (m i : Nat) : decide (V.int (((m / 2 ^ i % 2 : Nat) : Int)) = V.int 1) = Kh430.isMember m i := by
  unfold Kh430.isMember
  rw [Bool.eq_iff_iff, decide_eq_true_eq, beq_iff_eq]
  constructor
  · intro h
    injection h with h
    omega
  · intro h
    rw [h]
    rfl
theorem bits_is (m : Nat) : Builtin.Int.intBits (m : Int) = bl m := by
  unfold Builtin.Int.intBits bl
  by_cases h : m = 0
  · subst h; rfl
  · have : ((m : Int) == 0) = false := by simp; omega
    rw [this, if_neg h]
    rfl

/-! ### readings, what they come to (further forms of HandS.Evl) -/
def EvN (te : TE) (σ : L2.St) (H : Hp) (P : Addr → Hp → Prop) : Prop := ∀ H1, Ex H H1 → ∀ Q : VK, (∀ p H2, H1 p = none → Ex H1 H2 → P p H2 → Q (.ref p) H2) → te σ H1 Q
def SpN (sp : Sp) (vs : List V) (H : Hp) (P : Addr → Hp → Prop) : Prop := ∀ H1, Ex H H1 → ∀ Q : VK, (∀ p H2, H1 p = none → Ex H1 H2 → P p H2 → Q (.ref p) H2) → ∀ E : XK, sp vs H1 Q E
/-- an __init__ at a new instance: all else stands, of the instance P holds -/
def IniOk (sp : Sp) (C : Addr) (vs : List V) (H : Hp) (P : Addr → Hp → Prop) : Prop := ∀ H1, Ex H H1 → ∀ x dx, H1 x = none → H1 dx = none → dx ≠ x → ∀ (Q : VK) (E : XK),
  (∀ H2, (∀ b o, H1 b = some o → H2 b = some o) → P x H2 → Q .non H2) → sp (.ref x :: vs) (upd (upd H1 dx (.own x)) x (.ins C dx [])) Q E
section
variable {K : PySem.W.Frag} {σ : L2.St} {H H' : Hp} {ta tb te tx tv : TE} {t u : TT} {x y z v : V} {D : Ends} {tu tw tz : TS} {g : TG} {a C dx : Addr} {fs : List (Str × V)} {f m : Str} {tA : TA} {vs : List V} {sp : Sp} {E : XK} {P : Addr → Hp → Prop}
theorem ev_fld (h : Ev ta σ H (.ref a)) (ho : H a = some (.ins C dx fs)) (c : Cls K C) (n : NoAttr K C f) (l : fs.lookup f = some v) : Ev (tFld K ta f) σ H v := fun H1 e Q q =>
  h H1 e _ fun H2 e2 => ⟨a, C, dx, fs, v, rfl, e2 a _ (e a _ ho), c, n, l, q H2 e2⟩
theorem EvN.mono (e : Ex H H') (h : EvN te σ H P) : EvN te σ H' P := fun H1 e1 Q q => h H1 (e.trans e1) Q q
theorem ev_meth {dvs : List V} (h : Ev ta σ H (.ref a)) (ho : H a = some (.ins C dx fs)) (l : fs.lookup m = none) (ha : EvA tA σ H vs) (hs : SpV sp (.ref a :: (vs ++ dvs)) H z) : Ev (tMeth C m sp dvs E ta tA) σ H z := fun H1 e Q q =>
  h H1 e _ fun H2 e2 => ⟨a, dx, fs, rfl, e2 a _ (e a _ ho), l, ha H2 (e.trans e2) _ fun H3 e3 => hs H3 ((e.trans e2).trans e3) Q (fun H4 e4 => q H4 ((e2.trans e3).trans e4)) E⟩
theorem en_meth {dvs : List V} (h : Ev ta σ H (.ref a)) (ho : H a = some (.ins C dx fs)) (l : fs.lookup m = none) (ha : EvA tA σ H vs) (hs : SpN sp (.ref a :: (vs ++ dvs)) H P) : EvN (tMeth C m sp dvs E ta tA) σ H P := fun H1 e Q q =>
  h H1 e _ fun H2 e2 => ⟨a, dx, fs, rfl, e2 a _ (e a _ ho), l, ha H2 (e.trans e2) _ fun H3 e3 => hs H3 ((e.trans e2).trans e3) Q (fun p H4 hp e4 h4 => q p H4 (fresh_back (e2.trans e3) hp) ((e2.trans e3).trans e4) h4) E⟩
/-- the receiver is new: what is known of it behind its making -/
theorem ev_methN {dvs : List V} (h : EvN ta σ H P) (ho : ∀ p H2, Ex H H2 → P p H2 → ∃ dx fs, H2 p = some (.ins C dx fs) ∧ fs.lookup m = none) (ha : ∀ p H2, Ex H H2 → P p H2 → EvA tA σ H2 vs) (hs : ∀ p H2, Ex H H2 → P p H2 → SpV sp (.ref p :: (vs ++ dvs)) H2 z) : Ev (tMeth C m sp dvs E ta tA) σ H z := fun H1 e Q q =>
  h H1 e _ fun p H2 _ e2 hp => by
    obtain ⟨dx, fs, o, l⟩ := ho p H2 (e.trans e2) hp
    exact ⟨p, dx, fs, rfl, o, l, ha p H2 (e.trans e2) hp H2 (Ex.refl _) _ fun H3 e3 => hs p H2 (e.trans e2) hp H3 e3 Q (fun H4 e4 => q H4 ((e2.trans e3).trans e4)) E⟩
theorem en_methN {dvs : List V} {R : Addr → Hp → Prop} (h : EvN ta σ H P) (ho : ∀ p H2, Ex H H2 → P p H2 → ∃ dx fs, H2 p = some (.ins C dx fs) ∧ fs.lookup m = none) (ha : ∀ p H2, Ex H H2 → P p H2 → EvA tA σ H2 vs) (hs : ∀ p H2, Ex H H2 → P p H2 → SpN sp (.ref p :: (vs ++ dvs)) H2 R) : EvN (tMeth C m sp dvs E ta tA) σ H R := fun H1 e Q q =>
  h H1 e _ fun p H2 _ e2 hp => by
    obtain ⟨dx, fs, o, l⟩ := ho p H2 (e.trans e2) hp
    exact ⟨p, dx, fs, rfl, o, l, ha p H2 (e.trans e2) hp H2 (Ex.refl _) _ fun H3 e3 => hs p H2 (e.trans e2) hp H3 e3 Q (fun r H4 hr e4 h4 => q r H4 (fresh_back (e2.trans e3) hr) ((e2.trans e3).trans e4) h4) E⟩
theorem en_make {dvs : List V} (ha : EvA tA σ H vs) (hs : IniOk sp C (vs ++ dvs) H P) : EvN (tMake C sp dvs E tA) σ H P := fun H1 e Q q =>
  ha H1 e _ fun H2 e2 x dx hx hd ne => hs H2 (e.trans e2) x dx hx hd ne _ E fun H3 e3 h3 => ⟨rfl, q x H3 (fresh_back e2 hx) (e2.trans e3) h3⟩
theorem en_call {dvs : List V} (h : EvA tA σ H vs) (hs : SpN sp (vs ++ dvs) H P) : EvN (tCall sp dvs E tA) σ H P := fun H1 e Q q =>
  h H1 e _ fun H2 e2 => hs H2 (e.trans e2) Q (fun p H3 hp e3 h3 => q p H3 (fresh_back e2 hp) (e2.trans e3) h3) E
theorem s_asgN {i : Nat} (h : EvN te σ H P) (k : ∀ p H1, H p = none → Ex H H1 → P p H1 → D.nx (σ.set i (some (.ref p))) H1) : tAsg te (gName i) D σ H := h H (Ex.refl H) _ fun p H1 hp e h1 => k p H1 hp e h1
theorem q_asgN {i : Nat} (h : EvN te σ H P) (k : ∀ p H1, H p = none → Ex H H1 → P p H1 → tz D (σ.set i (some (.ref p))) H1) : tSeq (tAsg te (gName i)) tz D σ H := s_asgN (D := { D with nx := tz D }) h k
theorem s_retN (h : EvN te σ H P) (k : ∀ p H1, H p = none → Ex H H1 → P p H1 → D.rt (.ref p) H1) : tRet te D σ H := h H (Ex.refl H) _ k
/-- self.f = e -/
theorem s_fld (hv : Ev tv σ H y) (ho : Ev ta σ H (.ref a)) (hH : H a = some (.ins C dx fs)) (c : Cls K C) (n : NoAttr K C f) (l : fs.length < 1000) (k : ∀ H1, Ex H H1 → D.nx σ (upd H1 a (.ins C dx (putF f y fs)))) : sFld K ta tv f D σ H :=
  hv H (Ex.refl H) _ fun H1 e1 => ho H1 e1 _ fun H2 e2 => ⟨a, C, dx, fs, rfl, e2 a _ (e1 a _ hH), c, n, l, k H2 (e1.trans e2)⟩
theorem q_fld (hv : Ev tv σ H y) (ho : Ev ta σ H (.ref a)) (hH : H a = some (.ins C dx fs)) (c : Cls K C) (n : NoAttr K C f) (l : fs.length < 1000) (k : ∀ H1, Ex H H1 → tz D σ (upd H1 a (.ins C dx (putF f y fs)))) : tSeq (sFld K ta tv f) tz D σ H :=
  s_fld (D := { D with nx := tz D }) hv ho hH c n l k
/-- the value stored is new -/
theorem s_fldN (hv : EvN tv σ H P) (ho : Ev ta σ H (.ref a)) (hH : H a = some (.ins C dx fs)) (c : Cls K C) (n : NoAttr K C f) (l : fs.length < 1000) (k : ∀ p H1, H p = none → Ex H H1 → P p H1 → ∀ H2, Ex H1 H2 → D.nx σ (upd H2 a (.ins C dx (putF f (.ref p) fs)))) : sFld K ta tv f D σ H :=
  hv H (Ex.refl H) _ fun p H1 hp e1 h1 => ho H1 e1 _ fun H2 e2 => ⟨a, C, dx, fs, rfl, e2 a _ (e1 a _ hH), c, n, l, k p H1 hp e1 h1 H2 e2⟩
theorem q_fldN (hv : EvN tv σ H P) (ho : Ev ta σ H (.ref a)) (hH : H a = some (.ins C dx fs)) (c : Cls K C) (n : NoAttr K C f) (l : fs.length < 1000) (k : ∀ p H1, H p = none → Ex H H1 → P p H1 → ∀ H2, Ex H1 H2 → tz D σ (upd H2 a (.ins C dx (putF f (.ref p) fs)))) : tSeq (sFld K ta tv f) tz D σ H :=
  s_fldN (D := { D with nx := tz D }) hv ho hH c n l k
theorem ea_one (h : Ev ta σ H x) : EvA (tCons ta tNil) σ H [x] := ea_cons h ea_nil
theorem ea_two (h : Ev ta σ H x) (h2 : Ev tb σ H y) : EvA (tCons ta (tCons tb tNil)) σ H [x, y] := ea_cons h (ea_cons h2 ea_nil)
theorem ev_len2 {p : Addr} {xs : List V} (h : Ev ta σ H (.ref p)) (hx : SqL K H p xs) : Ev (tCB (fun xs H Q => ∃ p ys, xs = [V.ref p] ∧ (SqL K H p ys ∨ SqT K H p ys) ∧ Q (.int (ys.length : Nat)) H) (tCons ta tNil)) σ H (.int (xs.length : Nat)) := fun H1 e Q q =>
  h H1 e _ fun H2 e2 => ⟨p, xs, rfl, Or.inl (ex_l (e.trans e2) hx), q H2 e2⟩
theorem ev_lenL {xs : List V} (h : EvL ta σ H xs) : Ev (tCB (fun xs H Q => ∃ p ys, xs = [V.ref p] ∧ (SqL K H p ys ∨ SqT K H p ys) ∧ Q (.int (ys.length : Nat)) H) (tCons ta tNil)) σ H (.int (xs.length : Nat)) := fun H1 e Q q =>
  h H1 e _ fun p H2 _ e2 h2 => ⟨p, xs, rfl, Or.inl (sq_of h2), q H2 e2⟩
/-- a list display's + a list, both tracked: a new list -/
theorem el_cat {xs ys : List V} {q : Addr} (h : EvL ta σ H xs) (hb : Ev tb σ H (.ref q)) (hq : H q = some (.lst ys)) (l : xs.length + ys.length ≤ 100000) : EvL (tOp rCat ta tb) σ H (xs ++ ys) := fun H1 e Q k =>
  h H1 e _ fun p H2 hp e2 h2 => hb H2 (e.trans e2) _ fun H3 e3 => ⟨p, q, xs, ys, rfl, rfl, e3 p _ h2, e3 q _ (e2 q _ (e q _ hq)), sz_of l, fun r hr => k r _ (fresh_back (e2.trans e3) hr) ((e2.trans e3).trans (Ex.new hr)) upd_same⟩
theorem el_catL {xs ys : List V} (h : EvL ta σ H xs) (hb : EvL tb σ H ys) (l : xs.length + ys.length ≤ 100000) : EvL (tOp rCat ta tb) σ H (xs ++ ys) := fun H1 e Q k =>
  h H1 e _ fun p H2 hp e2 h2 => hb H2 (e.trans e2) _ fun q H3 hq e3 h3 => ⟨p, q, xs, ys, rfl, rfl, e3 p _ h2, h3, sz_of l, fun r hr => k r _ (fresh_back (e2.trans e3) hr) ((e2.trans e3).trans (Ex.new hr)) upd_same⟩
theorem ev_sub {i j : Int} (h : Ev ta σ H (.int i)) (h2 : Ev tb σ H (.int j)) {r : Int → Int → V} : Ev (tOp (rI0 r) ta tb) σ H (r i j) := ev_op h h2 rv_I0
theorem ev_bit {m i : Nat} (h : Ev ta σ H (nN m)) (h2 : Ev tb σ H (nN i)) :
    Ev (tOp (rI0 fun i j => V.int (Builtin.bitAnd i j)) (tOp (rI (fun x j => 0 ≤ j) fun i j => V.int (i / 2 ^ j.toNat)) ta tb) (tC (.int 1))) σ H (nN (m / 2 ^ i % 2)) := by
  have e : nN (m / 2 ^ i % 2) = V.int (Builtin.bitAnd ((m : Int) / 2 ^ ((i : Int)).toNat) 1) := by rw [bit_is]; rfl
  rw [e]
  exact ev_op (ev_op h h2 (rv_I (Int.natCast_nonneg i))) ev_c rv_I0
theorem et_bit {m i : Nat} (h : Ev ta σ H (nN m)) (h2 : Ev tb σ H (nN i)) :
    EvT (tTest (tOp rEq (tOp (rI0 fun i j => V.int (Builtin.bitAnd i j)) (tOp (rI (fun x j => 0 ≤ j) fun i j => V.int (i / 2 ^ j.toNat)) ta tb) (tC (.int 1))) (tC (.int 1)))) σ H (Kh430.isMember m i) := by
  rw [← bit_member m i]
  exact et_test (ev_op (ev_bit h h2) ev_c (rv_eq rfl))
theorem ev_shl {n : Nat} (h : Ev ta σ H (.int (n : Int))) (hn : n ≤ 1000) : Ev (tOp (rI CPow fun i j => V.int (i * 2 ^ j.toNat)) (tC (.int 1)) ta) σ H (nN (2 ^ n)) := by
  have e : nN (2 ^ n) = V.int (1 * 2 ^ ((n : Int)).toNat) := by
    unfold nN
    rw [Int.toNat_natCast, Int.one_mul]
    norm_cast
  rw [e]
  exact ev_op ev_c h (rv_I ⟨Int.natCast_nonneg n, by omega, by decide⟩)
theorem ev_min2 {i j : Int} (ha : Ev ta σ H (.int i)) (hb : Ev tb σ H (.int j)) : Ev (tCB (fun xs H Q => ∃ i j, xs = [V.int i, V.int j] ∧ Q (.int (if j < i then j else i)) H) (tCons ta (tCons tb tNil))) σ H (.int (if j < i then j else i)) := fun H1 e Q q =>
  ha H1 e _ fun H2 e2 => hb H2 (e.trans e2) _ fun H3 e3 => ⟨i, j, rfl, q H3 (e2.trans e3)⟩
theorem ev_max {i j : Int} (ha : Ev ta σ H (.int i)) (hb : Ev tb σ H (.int j)) : Ev (tCB (fun xs H Q => ∃ i j, xs = [V.int i, V.int j] ∧ Q (.int (if j > i then j else i)) H) (tCons ta (tCons tb tNil))) σ H (.int (if j > i then j else i)) := fun H1 e Q q =>
  ha H1 e _ fun H2 e2 => hb H2 (e.trans e2) _ fun H3 e3 => ⟨i, j, rfl, q H3 (e2.trans e3)⟩
theorem ev_allL {bs : List Bool} (h : EvL ta σ H (bs.map V.bl)) : Ev (tCB (rAll K) (tCons ta tNil)) σ H (.bl (bs.all id)) := fun H1 e Q q =>
  h H1 e _ fun p H2 _ e2 h2 => ⟨p, bs, rfl, sq_of h2, q H2 e2⟩
theorem ev_anyL {bs : List Bool} (h : EvL ta σ H (bs.map V.bl)) : Ev (tCB (rAny K) (tCons ta tNil)) σ H (.bl (bs.any id)) := fun H1 e Q q =>
  h H1 e _ fun p H2 _ e2 h2 => ⟨p, bs, rfl, sq_of h2, q H2 e2⟩
theorem ev_sumL {ns : List Int} (h : EvL ta σ H (ns.map V.int)) : Ev (tCB (rSum K) (tCons ta tNil)) σ H (.int ns.sum) := fun H1 e Q q =>
  h H1 e _ fun p H2 _ e2 h2 => ⟨p, ns, rfl, sq_of h2, q H2 e2⟩
theorem ev_isN (ha : Ev ta σ H x) : Ev (tOp (fun x y H Q => y = V.non ∧ Q (.bl (decide (x = .non))) H) ta (tC .non)) σ H (.bl (decide (x = .non))) := ev_op ha ev_c fun H1 _ _ q => ⟨rfl, q H1 (Ex.refl _)⟩
theorem ev_notN (ha : Ev ta σ H x) : Ev (tOp (fun x y H Q => y = V.non ∧ Q (.bl (!decide (x = .non))) H) ta (tC .non)) σ H (.bl (!decide (x = .non))) := ev_op ha ev_c fun H1 _ _ q => ⟨rfl, q H1 (Ex.refl _)⟩
/-- .. of something new -/
theorem ev_isNn (ha : EvN ta σ H P) : Ev (tOp (fun x y H Q => y = V.non ∧ Q (.bl (decide (x = .non))) H) ta (tC .non)) σ H (.bl false) := fun H1 e Q q =>
  ha H1 e _ fun p H2 _ e2 _ => ⟨rfl, q H2 e2⟩
theorem ev_notNn (ha : EvN ta σ H P) : Ev (tOp (fun x y H Q => y = V.non ∧ Q (.bl (!decide (x = .non))) H) ta (tC .non)) σ H (.bl true) := fun H1 e Q q =>
  ha H1 e _ fun p H2 _ e2 _ => ⟨rfl, q H2 e2⟩
end
end Cold

namespace Cold
open PySem PySem.Spec PyProof.Rows L2 Evl
/-! ### the objects -/
def lotF (x : Kh430.Lot) : List (Str × V) := [("life", nN x.life), ("hours", nN x.hours)]
def LotAt (A : Ad) (H : Hp) (a : Addr) (x : Kh430.Lot) : Prop := ∃ dx, H a = some (.ins A.c_Lot dx (lotF x))
def LotsAt (A : Ad) (H : Hp) (L : Addr) (ls : List Kh430.Lot) : Prop := ∃ vs, H L = some (.lst vs) ∧ vs.length = ls.length ∧ ∀ (i : Nat) x, ls[i]? = some x → ∃ a, vs[i]? = some (.ref a) ∧ LotAt A H a x
def sF (s : Kh430.Store) (L : Addr) : List (Str × V) := [("warm_loss", nN s.warmLoss), ("cold_loss", nN s.coldLoss), ("capacity", nN s.capacity), ("lots", .ref L), ("time", nN s.clock), ("left", nN s.leftFresh), ("spoiled", nN s.spoiled)]
structure StoAt (A : Ad) (H : Hp) (a L : Addr) (s : Kh430.Store) : Prop where
  obj : ∃ dx, H a = some (.ins A.c_Storage dx (sF s L))
  lots : LotsAt A H L s.lots
def needsV (s : Kh430.Store) : List V := s.lots.map fun x => .int (needI s x)
def pF (s : Kh430.Store) (L N : Addr) : List (Str × V) := [("lots", .ref L), ("needs", .ref N), ("capacity", nN s.capacity), ("hours", nN (Kh430.horizon s))]
def PlaAt (A : Ad) (H : Hp) (p : Addr) (s : Kh430.Store) : Prop := ∃ dx L N, H p = some (.ins A.c_Planner dx (pF s L N)) ∧ LotsAt A H L s.lots ∧ H N = some (.lst (needsV s))
/-- the desk, and the addresses that its calls may change -/
def DeskAt (A : Ad) (H : Hp) (d : Addr) (o : Option Kh430.Store) (fp : List Addr) : Prop := match o with
  | none => (∃ dx, H d = some (.ins A.c_Desk dx [("storage", .non)])) ∧ fp = [d]
  | some s => ∃ dx a L, H d = some (.ins A.c_Desk dx [("storage", .ref a)]) ∧ StoAt A H a L s ∧ fp = [d, a, L]
section
variable {A : Ad} {H H' : Hp} {a L p d : Addr} {s : Kh430.Store} {x : Kh430.Lot} {ls : List Kh430.Lot}
theorem LotAt.mono (e : Ex H H') (h : LotAt A H a x) : LotAt A H' a x := let ⟨dx, o⟩ := h; ⟨dx, e _ _ o⟩
theorem LotsAt.mono (e : Ex H H') (h : LotsAt A H L ls) : LotsAt A H' L ls := by
  obtain ⟨vs, o, l, k⟩ := h
  refine ⟨vs, e _ _ o, l, fun i x hi => ?_⟩
  obtain ⟨a, h1, h2⟩ := k i x hi
  exact ⟨a, h1, h2.mono e⟩
theorem StoAt.mono (e : Ex H H') (h : StoAt A H a L s) : StoAt A H' a L s := ⟨let ⟨dx, o⟩ := h.obj; ⟨dx, e _ _ o⟩, h.lots.mono e⟩
theorem PlaAt.mono (e : Ex H H') (h : PlaAt A H p s) : PlaAt A H' p s := by
  obtain ⟨dx, L, N, o, h1, h2⟩ := h
  exact ⟨dx, L, N, e _ _ o, h1.mono e, e _ _ h2⟩
theorem DeskAt.mono {o : Option Kh430.Store} {fp : List Addr} (e : Ex H H') (h : DeskAt A H d o fp) : DeskAt A H' d o fp := by
  cases o with
  | none =>
    obtain ⟨⟨dx, o⟩, f⟩ := h
    exact ⟨⟨dx, e _ _ o⟩, f⟩
  | some s =>
    obtain ⟨dx, a, L, o, h1, f⟩ := h
    exact ⟨dx, a, L, e _ _ o, h1.mono e, f⟩
/-- the lots' list as it is read -/
theorem LotsAt.list (h : LotsAt A H L ls) : ∃ vs, H L = some (.lst vs) ∧ vs.length = ls.length := let ⟨vs, o, l, _⟩ := h; ⟨vs, o, l⟩
theorem LotsAt.item {i : Nat} (h : LotsAt A H L ls) (hi : ls[i]? = some x) : ∃ vs a, H L = some (.lst vs) ∧ vs.length = ls.length ∧ vs[i]? = some (.ref a) ∧ LotAt A H a x := by
  obtain ⟨vs, o, l, k⟩ := h
  obtain ⟨a, h1, h2⟩ := k i x hi
  exact ⟨vs, a, o, l, h1, h2⟩
theorem LotsAt.get {i : Nat} {vs : List V} {v : V} (h : LotsAt A H L ls) (o : H L = some (.lst vs)) (hv : vs[i]? = some v) : ∃ a x, v = .ref a ∧ ls[i]? = some x ∧ LotAt A H a x := by
  obtain ⟨ws, o', l, k⟩ := h
  rw [o] at o'
  cases o'
  have hi : i < ls.length := by
    rw [← l]
    rcases Nat.lt_or_ge i vs.length with z | z
    · exact z
    · rw [List.getElem?_eq_none z] at hv; cases hv
  obtain ⟨a, h1, h2⟩ := k i _ (List.getElem?_eq_getElem hi)
  rw [hv] at h1
  exact ⟨a, _, Option.some.inj h1, List.getElem?_eq_getElem hi, h2⟩
/-! looks in the fields -/
theorem lk0 {k : Str} {v : V} {r : List (Str × V)} : List.lookup k ((k, v) :: r) = some v := by
  have e : (k == k) = true := beq_self_eq_true k
  simp only [List.lookup, e]
theorem lk1 {k g : Str} {v : V} {r : List (Str × V)} {o : Option V} (h : (k == g) = false) (q : List.lookup k r = o) : List.lookup k ((g, v) :: r) = o := by
  rw [← q]
  simp only [List.lookup, h]
theorem lkn {k : Str} : List.lookup k ([] : List (Str × V)) = none := rfl
theorem lot_life : (lotF x).lookup ("life" : Str) = some (nN x.life) := lk0
theorem lot_hours : (lotF x).lookup ("hours" : Str) = some (nN x.hours) := lk1 (by decide +kernel) lk0
theorem s_warm : (sF s L).lookup ("warm_loss" : Str) = some (nN s.warmLoss) := lk0
theorem s_cold : (sF s L).lookup ("cold_loss" : Str) = some (nN s.coldLoss) := lk1 (by decide +kernel) lk0
theorem s_cap : (sF s L).lookup ("capacity" : Str) = some (nN s.capacity) := lk1 (by decide +kernel) (lk1 (by decide +kernel) lk0)
theorem s_lots : (sF s L).lookup ("lots" : Str) = some (.ref L) := lk1 (by decide +kernel) (lk1 (by decide +kernel) (lk1 (by decide +kernel) lk0))
theorem s_time : (sF s L).lookup ("time" : Str) = some (nN s.clock) := lk1 (by decide +kernel) (lk1 (by decide +kernel) (lk1 (by decide +kernel) (lk1 (by decide +kernel) lk0)))
theorem s_left : (sF s L).lookup ("left" : Str) = some (nN s.leftFresh) := lk1 (by decide +kernel) (lk1 (by decide +kernel) (lk1 (by decide +kernel) (lk1 (by decide +kernel) (lk1 (by decide +kernel) lk0))))
theorem s_spoiled : (sF s L).lookup ("spoiled" : Str) = some (nN s.spoiled) := lk1 (by decide +kernel) (lk1 (by decide +kernel) (lk1 (by decide +kernel) (lk1 (by decide +kernel) (lk1 (by decide +kernel) (lk1 (by decide +kernel) lk0)))))
/-- a method's name is none of the attributes -/
theorem s_no {m : Str} (h : (["warm_loss", "cold_loss", "capacity", "lots", "time", "left", "spoiled"] : List Str).all (fun g => !(m == g)) = true) : (sF s L).lookup m = none := by
  simp only [List.all_cons, List.all_nil, Bool.and_true, Bool.and_eq_true, Bool.not_eq_true'] at h
  obtain ⟨h1, h2, h3, h4, h5, h6, h7⟩ := h
  exact lk1 h1 (lk1 h2 (lk1 h3 (lk1 h4 (lk1 h5 (lk1 h6 (lk1 h7 lkn))))))
theorem p_lots {N : Addr} : (pF s L N).lookup ("lots" : Str) = some (.ref L) := lk0
theorem p_needs {N : Addr} : (pF s L N).lookup ("needs" : Str) = some (.ref N) := lk1 (by decide +kernel) lk0
theorem p_cap {N : Addr} : (pF s L N).lookup ("capacity" : Str) = some (nN s.capacity) := lk1 (by decide +kernel) (lk1 (by decide +kernel) lk0)
theorem p_hours {N : Addr} : (pF s L N).lookup ("hours" : Str) = some (nN (Kh430.horizon s)) := lk1 (by decide +kernel) (lk1 (by decide +kernel) (lk1 (by decide +kernel) lk0))
theorem p_no {N : Addr} {m : Str} (h : (["lots", "needs", "capacity", "hours"] : List Str).all (fun g => !(m == g)) = true) : (pF s L N).lookup m = none := by
  simp only [List.all_cons, List.all_nil, Bool.and_true, Bool.and_eq_true, Bool.not_eq_true'] at h
  obtain ⟨h1, h2, h3, h4⟩ := h
  exact lk1 h1 (lk1 h2 (lk1 h3 (lk1 h4 lkn)))
theorem put0 {f : Str} {v x : V} {r : List (Str × V)} : putF f v ((f, x) :: r) = (f, v) :: r := if_pos rfl
theorem put1 {f g : Str} {v x : V} {r r' : List (Str × V)} (h : ¬ g = f) (q : putF f v r = r') : putF f v ((g, x) :: r) = (g, x) :: r' := by
  rw [← q]
  exact if_neg h
theorem put_cap {c : Nat} : putF ("capacity" : Str) (nN c) (sF s L) = sF { s with capacity := c } L := put1 (by decide +kernel) (put1 (by decide +kernel) put0)
theorem put_warm {c : Nat} : putF ("warm_loss" : Str) (nN c) (sF s L) = sF { s with warmLoss := c } L := put0
theorem put_cold {c : Nat} : putF ("cold_loss" : Str) (nN c) (sF s L) = sF { s with coldLoss := c } L := put1 (by decide +kernel) put0
theorem put_lots {ls : List Kh430.Lot} {L' : Addr} : putF ("lots" : Str) (.ref L') (sF s L) = sF { s with lots := ls } L' := put1 (by decide +kernel) (put1 (by decide +kernel) (put1 (by decide +kernel) put0))
theorem put_time {c : Nat} : putF ("time" : Str) (nN c) (sF s L) = sF { s with clock := c } L := put1 (by decide +kernel) (put1 (by decide +kernel) (put1 (by decide +kernel) (put1 (by decide +kernel) put0)))
theorem put_left {c : Nat} : putF ("left" : Str) (nN c) (sF s L) = sF { s with leftFresh := c } L := put1 (by decide +kernel) (put1 (by decide +kernel) (put1 (by decide +kernel) (put1 (by decide +kernel) (put1 (by decide +kernel) put0))))
theorem put_spoiled {c : Nat} : putF ("spoiled" : Str) (nN c) (sF s L) = sF { s with spoiled := c } L := put1 (by decide +kernel) (put1 (by decide +kernel) (put1 (by decide +kernel) (put1 (by decide +kernel) (put1 (by decide +kernel) (put1 (by decide +kernel) put0)))))
end

/-! ### promises -/
/-- the error with the code c: its own dict is new -/
def RetE (A : Ad) (c : Int) (H : Hp) (E : XK) : Prop := ∀ d H2, Ex H H2 → H d = none → H2 d = some (.xd [("code", .int c)]) → E (.ref A.c_Refusal) (some d) H2
theorem RetE.mono {A : Ad} {c : Int} {H H' : Hp} {E : XK} (e : Ex H H') (h : RetE A c H E) : RetE A c H' E := fun d H2 e2 hd h2 => h d H2 (e.trans e2) (fresh_back e hd) h2
def RetO (o : Option (List Nat)) (H : Hp) (Q : VK) : Prop := (o = none → RetV .non H Q) ∧ ∀ p, o = some p → RetL (lN p) H Q
/-- a query's answer -/
def AnsQ (A : Ad) (r : Kh430.Result) (H : Hp) (Q : VK) (E : XK) : Prop := (0 ≤ r.status → RetL (lI (res r)) H Q) ∧ (r.status < 0 → RetE A r.status H E)
/-- an answer of a call that may change the storage at a, its list of lots at L -/
def AnsM (A : Ad) (r : Kh430.Store × Kh430.Result) (H : Hp) (a L : Addr) (Q : VK) (E : XK) : Prop :=
  (0 ≤ r.2.status → ∀ p H2 L2, H p = none → StoAt A H2 a L2 r.1 → (L2 = L ∨ H L2 = none) → (∀ b o, H b = some o → b ≠ a → b ≠ L → H2 b = some o) → H2 p = some (.lst (lI (res r.2))) → Q (.ref p) H2) ∧ (r.2.status < 0 → RetE A r.2.status H E)
/-- an answer of a call of the desk at d -/
def AnsD (A : Ad) (r : Option Kh430.Store × Kh430.Result) (H : Hp) (d : Addr) (fp : List Addr) (Q : VK) (E : XK) : Prop :=
  (0 ≤ r.2.status → ∀ p H2 fp2, H p = none → DeskAt A H2 d r.1 fp2 → (∀ b ∈ fp2, b ∈ fp ∨ H b = none) → (∀ b o, H b = some o → b ∉ fp → H2 b = some o) → H2 p = some (.lst (lI (res r.2))) → Q (.ref p) H2) ∧ (r.2.status < 0 → RetE A r.2.status H E)
section
variable (K : PySem.W.Frag) (A : Ad)
def spRefInit : Sp := fun vs H Q _ => ∃ a c, vs = [.ref a, .int c] ∧ H a = some (exo a A.c_Refusal none) ∧ ∀ dx H2, H dx = none → dx ≠ a → H2 = upd (upd H dx (exd dx [("code", .int c)])) a (exo a A.c_Refusal (some dx)) → Q .non H2
def spLotInit : Sp := fun vs H Q _ => ∃ (p dx : Addr) (x : Kh430.Lot), vs = [.ref p, nN x.life, nN x.hours] ∧ H p = some (.ins A.c_Lot dx []) ∧ ∀ H2, H2 p = some (.ins A.c_Lot dx (lotF x)) → (∀ b o, H b = some o → b ≠ p → H2 b = some o) → Q .non H2
def spStoInit : Sp := fun vs H Q _ => ∃ (p dx : Addr) (w c k : Nat), vs = [.ref p, nN w, nN c, nN k] ∧ H p = some (.ins A.c_Storage dx []) ∧ ∀ H2 L, H L = none → H2 p = some (.ins A.c_Storage dx (sF ⟨w, c, k, [], 0, 0, 0⟩ L)) → H2 L = some (.lst []) → (∀ b o, H b = some o → b ≠ p → H2 b = some o) → Q .non H2
def spPlaInit : Sp := fun vs H Q _ => ∃ (p dx a L : Addr) (s : Kh430.Store) (k : Nat), vs = [.ref p, .ref a, nN k] ∧ H p = some (.ins A.c_Planner dx []) ∧ StoAt A H a L s ∧ Ok s ∧
  ∀ H2, PlaAt A H2 p { s with capacity := k } → (∀ b o, H b = some o → b ≠ p → H2 b = some o) → Q .non H2
def spDeskInit : Sp := fun vs H Q _ => ∃ (p dx : Addr), vs = [.ref p] ∧ H p = some (.ins A.c_Desk dx []) ∧ ∀ H2, H2 p = some (.ins A.c_Desk dx [("storage", .non)]) → (∀ b o, H b = some o → b ≠ p → H2 b = some o) → Q .non H2
def spCheck : Sp := fun vs H Q E => ∃ (b : Bool) (c : Int), vs = [.bl b, .int c] ∧ (b = true → RetV .non H Q) ∧ (b = false → RetE A c H E)
def spCheckMask : Sp := fun vs H Q E => ∃ m n : Nat, vs = [nN m, nN n] ∧ n ≤ 1000 ∧ (m < 2 ^ n → RetV .non H Q) ∧ (¬ m < 2 ^ n → RetE A (-22) H E)
def spCheckLosses : Sp := fun vs H Q E => ∃ w c : Nat, vs = [nN w, nN c] ∧ (Kh430.areValidLosses w c = true → RetV .non H Q) ∧ (Kh430.areValidLosses w c = false → RetE A (-22) H E)
def spMembers : Sp := fun vs H Q _ => ∃ m : Nat, vs = [nN m] ∧ bl m ≤ 1000 ∧ RetL (lN (membersOf m)) H Q
def spNeed : Sp := fun vs H Q _ => ∃ (a l dx L : Addr) (s : Kh430.Store) (x : Kh430.Lot), vs = [.ref a, .ref l] ∧ H a = some (.ins A.c_Storage dx (sF s L)) ∧ LotAt A H l x ∧ x.hours ≤ 1000 ∧ s.coldLoss ≤ 1000 ∧ s.warmLoss ≤ 1000 ∧ RetV (.int (needI s x)) H Q
def spAllLots : Sp := fun vs H Q _ => ∃ (a L : Addr) (s : Kh430.Store), vs = [.ref a] ∧ StoAt A H a L s ∧ s.lots.length ≤ 1000 ∧ RetV (nN (Kh430.allLots s)) H Q
def spPlanFrom (f : Nat) : Sp := fun vs H Q _ => ∃ (p N : Addr) (s : Kh430.Store) (t : Nat) (nd : List Nat), vs = [.ref p, nN t, .ref N] ∧ PlaAt A H p s ∧ Ok s ∧ H N = some (.lst (lN nd)) ∧ nd.length = s.lots.length ∧ f + t = Kh430.horizon s ∧ RetO (Kh430.searchPlan s f t nd) H Q
def spPlaFor : Sp := fun vs H Q _ => ∃ (p : Addr) (s : Kh430.Store) (m : Nat), vs = [.ref p, nN m] ∧ PlaAt A H p s ∧ Ok s ∧ RetO (Kh430.planFor s m) H Q
def spPlaLargest : Sp := fun vs H Q _ => ∃ (p : Addr) (s : Kh430.Store), vs = [.ref p] ∧ PlaAt A H p s ∧ Ok s ∧ RetV (nN (Kh430.largestLastingSet s)) H Q
/-- pass_hour: the two numbers -/
def spPass : Sp := fun vs H Q _ => ∃ (a L : Addr) (s : Kh430.Store) (m : Nat), vs = [.ref a, nN m] ∧ StoAt A H a L s ∧ Ok s ∧
  ∀ p H2 L2, H p = none → StoAt A H2 a L2 (Kh430.afterHour s m) → H L2 = none → (∀ b o, H b = some o → b ≠ a → H2 b = some o) → H2 p = some (.lst [nN (leftTo s m s.lots.length), nN (spoiledTo s m s.lots.length)]) → Q (.ref p) H2
/-- a query of the storage with numbers for arguments, by the call that it answers -/
def spQ0 (c : Kh430.Call) : Sp := fun vs H Q E => ∃ (a L : Addr) (s : Kh430.Store), vs = [.ref a] ∧ StoAt A H a L s ∧ Ok s ∧ AnsQ A (Kh430.apply s c).2 H Q E
def spQ1 (c : Nat → Kh430.Call) : Sp := fun vs H Q E => ∃ (a L : Addr) (s : Kh430.Store) (m : Nat), vs = [.ref a, nN m] ∧ StoAt A H a L s ∧ Ok s ∧ AnsQ A (Kh430.apply s (c m)).2 H Q E
def spQR (c : Nat → List Nat → Kh430.Call) : Sp := fun vs H Q E => ∃ (a L r : Addr) (s : Kh430.Store) (m : Nat) (rs : List Nat), vs = [.ref a, nN m, .ref r] ∧ StoAt A H a L s ∧ Ok s ∧ H r = some (.lst (lN rs)) ∧ rs.length ≤ 1000 ∧ AnsQ A (Kh430.apply s (c m rs)).2 H Q E
/-- a call that may change the storage -/
def spM0 (c : Kh430.Call) : Sp := fun vs H Q E => ∃ (a L : Addr) (s : Kh430.Store), vs = [.ref a] ∧ StoAt A H a L s ∧ Ok s ∧ AnsM A (Kh430.apply s c) H a L Q E
def spM1 (c : Nat → Kh430.Call) : Sp := fun vs H Q E => ∃ (a L : Addr) (s : Kh430.Store) (m : Nat), vs = [.ref a, nN m] ∧ StoAt A H a L s ∧ Ok s ∧ AnsM A (Kh430.apply s (c m)) H a L Q E
def spM2 (c : Nat → Nat → Kh430.Call) : Sp := fun vs H Q E => ∃ (a L : Addr) (s : Kh430.Store) (m n : Nat), vs = [.ref a, nN m, nN n] ∧ StoAt A H a L s ∧ Ok s ∧ AnsM A (Kh430.apply s (c m n)) H a L Q E
def spChange : Sp := fun vs H Q E => ∃ (a L n : Addr) (s : Kh430.Store) (w : Nat) (ns : List Nat), vs = [.ref a, nN w, .ref n] ∧ StoAt A H a L s ∧ Ok s ∧ 1 ≤ w ∧ w ≤ 6 ∧ H n = some (.lst (lN ns)) ∧ sizeOf w ≤ ns.length ∧ AnsM A (Kh430.apply s (callOf w ns [])) H a L Q E
def spTell : Sp := fun vs H Q E => ∃ (a L n r : Addr) (s : Kh430.Store) (w : Nat) (ns rs : List Nat), vs = [.ref a, nN w, .ref n, .ref r] ∧ StoAt A H a L s ∧ Ok s ∧ 7 ≤ w ∧ w ≤ 14 ∧ H n = some (.lst (lN ns)) ∧ sizeOf w ≤ ns.length ∧ H r = some (.lst (lN rs)) ∧ rs.length ≤ 1000 ∧ AnsQ A (Kh430.apply s (callOf w ns rs)).2 H Q E
def spTellMore : Sp := fun vs H Q E => ∃ (a L n : Addr) (s : Kh430.Store) (w : Nat) (ns : List Nat), vs = [.ref a, nN w, .ref n] ∧ StoAt A H a L s ∧ Ok s ∧ 15 ≤ w ∧ w ≤ 21 ∧ H n = some (.lst (lN ns)) ∧ sizeOf w ≤ ns.length ∧ AnsQ A (Kh430.apply s (callOf w ns [])).2 H Q E
def spNew : Sp := fun vs H Q E => ∃ (n : Addr) (ns : List Nat), vs = [.ref n] ∧ H n = some (.lst (lN ns)) ∧ 3 ≤ ns.length ∧
  ((Kh430.areValidLosses (ns.getD 0 0) (ns.getD 1 0) = true ∧ ns.getD 2 0 ≤ 4 → ∀ a L H2, H a = none → H L = none → Ex H H2 → StoAt A H2 a L ⟨ns.getD 0 0, ns.getD 1 0, ns.getD 2 0, [], 0, 0, 0⟩ → Q (.ref a) H2) ∧
   (¬ (Kh430.areValidLosses (ns.getD 0 0) (ns.getD 1 0) = true ∧ ns.getD 2 0 ≤ 4) → RetE A (-22) H E))
def spAsk : Sp := fun vs H Q E => ∃ (d n r : Addr) (o : Option Kh430.Store) (fp : List Addr) (w : Nat) (ns rs : List Nat), vs = [.ref d, nN w, .ref n, .ref r] ∧ DeskAt A H d o fp ∧ OkO o ∧ w ≤ 21 ∧ H n = some (.lst (lN ns)) ∧ sizeOf w ≤ ns.length ∧ H r = some (.lst (lN rs)) ∧ rs.length ≤ 1000 ∧
  AnsD A (Kh430.execute o (callOf w ns rs)) H d fp Q E
def spCarry : Sp := fun vs H Q _ => ∃ (d n r : Addr) (o : Option Kh430.Store) (fp : List Addr) (w : Nat) (ns rs : List Nat), vs = [.ref d, nN w, .ref n, .ref r] ∧ DeskAt A H d o fp ∧ OkO o ∧ w ≤ 21 ∧ H n = some (.lst (lN ns)) ∧ sizeOf w ≤ ns.length ∧ H r = some (.lst (lN rs)) ∧ rs.length ≤ 1000 ∧
  ∀ p H2 fp2, H p = none → DeskAt A H2 d (Kh430.execute o (callOf w ns rs)).1 fp2 → (∀ b ∈ fp2, b ∈ fp ∨ H b = none) → (∀ b o, H b = some o → b ∉ fp → H2 b = some o) → H2 p = some (.lst (lI (res (Kh430.execute o (callOf w ns rs)).2))) → Q (.ref p) H2
def spAnswers : Sp := fun vs H Q _ => ∃ (a : Addr) (ns : List Nat), vs = [.ref a] ∧ SqL K H a (lN ns) ∧ ns.length ≤ 1000 ∧ PyKh430.answers_asked (I ns) = true ∧ ∀ H2 p, H2 p = some (.lst (lI (PyKh430.answers (I ns)))) → Q (.ref p) H2
end
/-- a def that answers nothing, or refuses -/
def Chk (A : Ad) (sp : Sp) (vs : List V) (H : Hp) (ok : Bool) (c : Int) : Prop := ∀ H1, Ex H H1 → ∀ (Q : VK) (E : XK), (ok = true → ∀ H2, Ex H1 H2 → Q .non H2) → (ok = false → RetE A c H1 E) → sp vs H1 Q E
section
variable {A : Ad} {σ : L2.St} {H : Hp} {ta : TA} {vs : List V} {sp : Sp} {E : XK} {ok : Bool} {c : Int} {D : Ends} {tz : TS}
theorem s_chk (ha : EvA ta σ H vs) (hs : Chk A sp (vs ++ []) H ok c) (k : ok = true → ∀ H1, Ex H H1 → D.nx σ H1) (e : ok = false → RetE A c H E) : tDrop (tCall sp [] E ta) D σ H :=
  ha H (Ex.refl H) _ fun H1 e1 => hs H1 e1 _ E (fun q H2 e2 => k q H2 (e1.trans e2)) fun q => (e q).mono e1
theorem q_chk (ha : EvA ta σ H vs) (hs : Chk A sp (vs ++ []) H ok c) (k : ok = true → ∀ H1, Ex H H1 → tz D σ H1) (e : ok = false → RetE A c H E) : tSeq (tDrop (tCall sp [] E ta)) tz D σ H := s_chk (D := { D with nx := tz D }) ha hs k e
theorem chk_check {b : Bool} : Chk A (spCheck A) [.bl b, .int c] H b c := fun H1 e1 Q E k r => ⟨b, c, rfl, fun q => k q, fun q => r q⟩
theorem chk_mask {m n : Nat} (hn : n ≤ 1000) : Chk A (spCheckMask A) [nN m, nN n] H (decide (m < 2 ^ n)) (-22) := fun H1 e1 Q E k r => ⟨m, n, rfl, hn, fun q => k (decide_eq_true q), fun q => r (decide_eq_false q)⟩
theorem chk_losses {w c : Nat} : Chk A (spCheckLosses A) [nN w, nN c] H (Kh430.areValidLosses w c) (-22) := fun H1 e1 Q E k r => ⟨w, c, rfl, fun q => k q, fun q => r q⟩
theorem spl_members {m : Nat} (h : bl m ≤ 1000) : SpL spMembers [nN m] H (lN (membersOf m)) := fun H1 e1 Q q E => ⟨m, rfl, h, fun p H2 hp e2 h2 => q p H2 hp e2 h2⟩
theorem spv_need {a l dx L : Addr} {s : Kh430.Store} {x : Kh430.Lot} (h : H a = some (.ins A.c_Storage dx (sF s L))) (hl : LotAt A H l x) (h1 : x.hours ≤ 1000) (h2 : s.coldLoss ≤ 1000) (h3 : s.warmLoss ≤ 1000) : SpV (spNeed A) [.ref a, .ref l] H (.int (needI s x)) :=
  fun H1 e1 Q q E => ⟨a, l, dx, L, s, x, rfl, e1 _ _ h, hl.mono e1, h1, h2, h3, fun H2 e2 => q H2 e2⟩
theorem spv_all {a L : Addr} {s : Kh430.Store} (h : StoAt A H a L s) (k : Ok s) : SpV (spAllLots A) [.ref a] H (nN (Kh430.allLots s)) := fun H1 e1 Q q E => ⟨a, L, s, rfl, h.mono e1, by have := k.n4; omega, fun H2 e2 => q H2 e2⟩
theorem spv_planFrom {f t : Nat} {p N : Addr} {s : Kh430.Store} {nd : List Nat} (h : PlaAt A H p s) (k : Ok s) (hN : H N = some (.lst (lN nd))) (hl : nd.length = s.lots.length) (hf : f + t = Kh430.horizon s) (e : Kh430.searchPlan s f t nd = none) : SpV (spPlanFrom A f) [.ref p, nN t, .ref N] H .non :=
  fun H1 e1 Q q E => ⟨p, N, s, t, nd, rfl, h.mono e1, k, e1 _ _ hN, hl, hf, fun _ H2 e2 => q H2 e2, fun r z => by rw [e] at z; cases z⟩
theorem spl_planFrom {f t : Nat} {p N : Addr} {s : Kh430.Store} {nd r : List Nat} (h : PlaAt A H p s) (k : Ok s) (hN : H N = some (.lst (lN nd))) (hl : nd.length = s.lots.length) (hf : f + t = Kh430.horizon s) (e : Kh430.searchPlan s f t nd = some r) : SpL (spPlanFrom A f) [.ref p, nN t, .ref N] H (lN r) :=
  fun H1 e1 Q q E => ⟨p, N, s, t, nd, rfl, h.mono e1, k, e1 _ _ hN, hl, hf, fun z => (by rw [e] at z; cases z), fun r' z => by rw [e] at z; cases z; exact fun p H2 hp e2 h2 => q p H2 hp e2 h2⟩
theorem spv_plaFor {p : Addr} {s : Kh430.Store} {m : Nat} (h : PlaAt A H p s) (k : Ok s) (e : Kh430.planFor s m = none) : SpV (spPlaFor A) [.ref p, nN m] H .non :=
  fun H1 e1 Q q E => ⟨p, s, m, rfl, h.mono e1, k, fun _ H2 e2 => q H2 e2, fun r z => by rw [e] at z; cases z⟩
theorem spl_plaFor {p : Addr} {s : Kh430.Store} {m : Nat} {r : List Nat} (h : PlaAt A H p s) (k : Ok s) (e : Kh430.planFor s m = some r) : SpL (spPlaFor A) [.ref p, nN m] H (lN r) :=
  fun H1 e1 Q q E => ⟨p, s, m, rfl, h.mono e1, k, fun z => (by rw [e] at z; cases z), fun r' z => by rw [e] at z; cases z; exact fun p H2 hp e2 h2 => q p H2 hp e2 h2⟩
theorem spv_largest {p : Addr} {s : Kh430.Store} (h : PlaAt A H p s) (k : Ok s) : SpV (spPlaLargest A) [.ref p] H (nN (Kh430.largestLastingSet s)) := fun H1 e1 Q q E => ⟨p, s, rfl, h.mono e1, k, fun H2 e2 => q H2 e2⟩
theorem ini_lot {x : Kh430.Lot} : IniOk (spLotInit A) A.c_Lot [nN x.life, nN x.hours] H (fun p H2 => LotAt A H2 p x) := fun H1 e1 p dx hp hd ne Q E k =>
  ⟨p, dx, x, rfl, upd_same, fun H2 h2 keep => k H2 (fun b o hb => keep b o (by rw [upd_ne (ne_of_none hb hp), upd_ne (ne_of_none hb hd), hb]) (ne_of_none hb hp)) ⟨dx, h2⟩⟩
theorem ini_pla {a L : Addr} {s : Kh430.Store} {k : Nat} (h : StoAt A H a L s) (ok : Ok s) : IniOk (spPlaInit A) A.c_Planner [.ref a, nN k] H (fun p H2 => PlaAt A H2 p { s with capacity := k }) := fun H1 e1 p dx hp hd ne Q E q =>
  have up : Ex H1 (upd (upd H1 dx (.own p)) p (.ins A.c_Planner dx [])) := (Ex.new hd).trans (Ex.new (by rw [upd_ne (Ne.symm ne), hp]))
  ⟨p, dx, a, L, s, k, rfl, upd_same, (h.mono e1).mono up, ok, fun H2 h2 keep => q H2 (fun b o hb => keep b o (up b o hb) (ne_of_none hb hp)) h2⟩
end
end Cold

namespace Cold
open PySem PySem.Spec PyProof.Rows L2 Evl
/-! ### the leaves -/
theorem put_lt {f : Str} {v : V} {n : Nat} : ∀ {fs : List (Str × V)}, fs.length < n → (putF f v fs).length < n + 1
  | [], h => Nat.succ_lt_succ h
  | (g, x) :: r, h => by
    show (if g = f then (g, v) :: r else (g, x) :: putF f v r).length < n + 1
    split
    · exact Nat.lt_succ_of_lt h
    · cases n with
      | zero => exact absurd h (Nat.not_lt_zero _)
      | succ n => exact Nat.succ_lt_succ (put_lt (Nat.lt_of_succ_lt_succ h))
section
variable {P : Program} {w : World} {K : PySem.W.Frag} {mg : Str → Option Value} {base : Heap} {A : Ad}
theorem ok_Refusal_init (T : Txt K mg A) : FnOk P w K mg base CX0 1 A.f_Refusal_init A.d_Refusal_init ["self", "code"] (spRefInit A) := by
  refine T.F_Refusal_init.ok sc_Refusal_init (fun vs H Q E h => ?_) (fun cdv Ar outer s H vs Q E hr h => ⟨_, (pss_cons (ps_expr (pe_exinit rfl T.z_Exception T.rfv (pa_cons (pv 0) (pa_cons pe_str pa_nil)))) (pss_one (ps_rfset (pv 0) (pv 1)))), ?_⟩)
  · obtain ⟨a, c, rfl, _⟩ := h
    rfl
  · obtain ⟨a, c, rfl, ha, k⟩ := h
    refine ⟨_, rfl, a, A.c_Refusal, _, rfl, by decide, T.rf, ha, ?_⟩
    exact ⟨_, rfl, _, rfl, a, A.c_Refusal, rfl, T.rf, T.rfn, ha, fun dx hd ne => k dx _ hd ne rfl⟩
theorem ok_Lot_init (T : Txt K mg A) : FnOk P w K mg base CX0 1 A.f_Lot_init A.d_Lot_init ["self", "life", "hours"] (spLotInit A) := by
  refine T.F_Lot_init.ok sc_Lot_init (fun vs H Q E h => ?_) (fun cdv Ar outer s H vs Q E hr h => ⟨_, (pss_cons (ps_fld (pv 0) (pv 1) rfl) (pss_one (ps_fld (pv 0) (pv 2) rfl))), ?_⟩)
  · obtain ⟨p, dx, x, rfl, _⟩ := h
    rfl
  · obtain ⟨p, dx, x, rfl, hp, k⟩ := h
    refine q_fld (ev_var rfl) (ev_var rfl) hp T.l_Lot T.n_Lot_life (by decide) fun H1 e1 => ?_
    refine s_fld (ev_var rfl) (ev_var rfl) upd_same T.l_Lot T.n_Lot_hours (put_lt (by decide)) fun H2 e2 => ?_
    refine k _ (Eq.trans upd_same (congrArg (fun z => some (HO.ins A.c_Lot dx z)) (put1 (by decide +kernel) rfl))) fun b o hb ne => ?_
    rw [upd_ne ne]
    exact e2 _ _ (by rw [upd_ne ne]; exact e1 _ _ hb)
theorem ok_Storage_init (T : Txt K mg A) : FnOk P w K mg base CX0 1 A.f_Storage_init A.d_Storage_init ["self", "warm_loss", "cold_loss", "capacity"] (spStoInit A) := by
  refine T.F_Storage_init.ok sc_Storage_init (fun vs H Q E h => ?_) (fun cdv Ar outer s H vs Q E hr h => ⟨_, (pss_cons (ps_fld (pv 0) (pv 1) rfl) (pss_cons (ps_fld (pv 0) (pv 2) rfl) (pss_cons (ps_fld (pv 0) (pv 3) rfl) (pss_cons (ps_fld (pv 0) (pe_lst pa_nil) rfl) (pss_cons (ps_fld (pv 0) pe_int rfl) (pss_cons (ps_fld (pv 0) pe_int rfl) (pss_one (ps_fld (pv 0) pe_int rfl)))))))), ?_⟩)
  · obtain ⟨p, dx, w, c, k, rfl, _⟩ := h
    rfl
  · obtain ⟨p, dx, w, c, k, rfl, hp, q⟩ := h
    refine q_fld (ev_var rfl) (ev_var rfl) hp T.l_Storage T.n_Storage_warm_loss (by decide) fun H1 e1 => ?_
    refine q_fld (ev_var rfl) (ev_var rfl) upd_same T.l_Storage T.n_Storage_cold_loss (put_lt (by decide)) fun H2 e2 => ?_
    refine q_fld (ev_var rfl) (ev_var rfl) upd_same T.l_Storage T.n_Storage_capacity (put_lt (put_lt (by decide))) fun H3 e3 => ?_
    refine q_fldN (P := fun p H => H p = some (.lst [])) (el_lst ea_nil (by decide)) (ev_var rfl) upd_same T.l_Storage T.n_Storage_lots (put_lt (put_lt (put_lt (by decide)))) fun L H4 hL e4 h4 H5 e5 => ?_
    refine q_fld ev_c (ev_var rfl) upd_same T.l_Storage T.n_Storage_time (put_lt (put_lt (put_lt (put_lt (by decide))))) fun H6 e6 => ?_
    refine q_fld ev_c (ev_var rfl) upd_same T.l_Storage T.n_Storage_left (put_lt (put_lt (put_lt (put_lt (put_lt (by decide)))))) fun H7 e7 => ?_
    refine s_fld ev_c (ev_var rfl) upd_same T.l_Storage T.n_Storage_spoiled (put_lt (put_lt (put_lt (put_lt (put_lt (put_lt (by decide))))))) fun H8 e8 => ?_
    have hpL : L ≠ p := fun z => by
      rw [z, upd_same] at hL
      cases hL
    have back : ∀ b o, H b = some o → b ≠ p → H3 b = some o := fun b o hb ne => e3 _ _ (by rw [upd_ne ne]; exact e2 _ _ (by rw [upd_ne ne]; exact e1 _ _ hb))
    have fwd : ∀ b o, b ≠ p → H4 b = some o → upd H8 p (.ins A.c_Storage dx (sF ⟨w, c, k, [], 0, 0, 0⟩ L)) b = some o := fun b o ne hb => by
      rw [upd_ne ne]
      refine e8 _ _ ?_
      rw [upd_ne ne]
      refine e7 _ _ ?_
      rw [upd_ne ne]
      refine e6 _ _ ?_
      rw [upd_ne ne]
      exact e5 _ _ hb
    have last : putF ("spoiled" : Str) (V.int 0) (putF ("left" : Str) (V.int 0) (putF ("time" : Str) (V.int 0) (putF ("lots" : Str) (V.ref L) (putF ("capacity" : Str) (nN k) (putF ("cold_loss" : Str) (nN c) (putF ("warm_loss" : Str) (nN w) [])))))) = sF ⟨w, c, k, [], 0, 0, 0⟩ L := by
      simp only [putF]
      rfl
    have z : ∀ z, z = sF ⟨w, c, k, [], 0, 0, 0⟩ L → Q .non (upd H8 p (.ins A.c_Storage dx z)) := fun z ez => by
      subst ez
      refine q _ L ?_ upd_same (fwd L _ hpL h4) fun b o hb ne => fwd b o ne (e4 _ _ (by rw [upd_ne ne]; exact back b o hb ne))
      cases hz : H L with
      | none => rfl
      | some o =>
        have := back L o hz hpL
        rw [upd_ne hpL] at hL
        rw [hL] at this
        cases this
    exact z _ last
theorem ok_Desk_init (T : Txt K mg A) : FnOk P w K mg base CX0 1 A.f_Desk_init A.d_Desk_init ["self"] (spDeskInit A) := by
  refine T.F_Desk_init.ok sc_Desk_init (fun vs H Q E h => ?_) (fun cdv Ar outer s H vs Q E hr h => ⟨_, (pss_one (ps_fld (pv 0) pe_non rfl)), ?_⟩)
  · obtain ⟨p, dx, rfl, _⟩ := h
    rfl
  · obtain ⟨p, dx, rfl, hp, k⟩ := h
    refine s_fld ev_c (ev_var rfl) hp T.l_Desk T.n_Desk_storage (by decide) fun H1 e1 => ?_
    refine k _ upd_same fun b o hb ne => ?_
    rw [upd_ne ne]
    exact e1 _ _ hb
/-- [one for one in range(mask.bit_length()) if mask >> one & 1 == 1] -/
theorem ok_members_of (T : Txt K mg A) : FnOk P w K mg base CX0 1 A.f_members_of A.d_members_of ["mask"] spMembers := by
  refine T.F_members_of.ok sc_members_of (fun vs H Q E h => ?_) (fun cdv Ar outer s H vs Q E hr h => ⟨_, (pss_one (ps_ret (pe_lc (own := [("one", 1)]) (g := gName 1) rfl sc_members_of.nd (pi_range1 rfl T.z_range (pa_cons (pe_bits (pv 0)) pa_nil)) (blkOk_by (N := ["mask", "one"]) (sc := defScope s_members_of) (by decide +kernel)) (fun _ _ _ _ _ => pg_name (i := 1) sc_members_of.nd rfl (Or.inl rfl)) (fun _ _ _ _ _ => (by exact (pts_one (pt_cmpR op_eq (pe_op op_and (pe_op op_shr (pv 0) (pv 1)) pe_int) pe_int (nomark _))))) (fun _ _ _ _ _ => (by exact (pv 1)))))), ?_⟩)
  · obtain ⟨m, rfl, _⟩ := h
    rfl
  · obtain ⟨m, rfl, hb, k⟩ := h
    have hbits : Ev (tBits (tVar 0)) (L2.start ["mask", "one"] [nN m]) H (.int (bl m : Nat)) := fun H1 e1 Q q => ⟨_, rfl, (m : Int), rfl, by rw [bits_is]; exact q H1 (Ex.refl _)⟩
    refine s_retL (el_lcR1 (n := (bl m : Nat)) (Kh430.isMember m) nN (ea_one hbits) ⟨by omega, by omega⟩ (fun _ => rfl) (fun i H1 _ _ => et_bit (ev_var rfl) (ev_var rfl)) (fun i H1 _ _ _ => ev_var rfl)) fun p H2 hp e2 h2 => k p H2 hp e2 ?_
    rw [h2]
    rfl
theorem ok_check (T : Txt K mg A) : FnOk P w K mg base (L2.CX P w) 4 A.f_check A.d_check ["holds", "code"] (spCheck A) := by
  refine T.F_check.okX sc_check (fun vs H Q E h => ?_) (fun cdv Ar outer s H vs Q E hr h => ⟨_, (pss_one (ps_if (pt_not (pt_val (pv 0))) (pss_one (ps_raise rfl (takes_of rfl rfl rfl rfl) (pmk_rf T.rf T.rfi T.rft (ok_Refusal_init T) (hr.mono (by decide)) T.b_Refusal_init .nil pass0 rfl T.g_Refusal (pa_cons (pv 1) pa_nil)))) pss_nil)), ?_⟩)
  · obtain ⟨b, c, rfl, _⟩ := h
    rfl
  · obtain ⟨b, c, rfl, k, r⟩ := h
    refine s_when (b := !b) (et_not (et_B (ev_var rfl))) (fun hb H1 e1 => ?_) (fun hb H1 e1 => k (by cases b <;> first | rfl | cases hb) H1 e1)
    have hb' : b = false := by cases b <;> first | rfl | cases hb
    refine ⟨_, rfl, (by show 1 ≤ 1000; decide), fun a ha => ⟨a, c, rfl, upd_same, fun dx H2 hd ne eH => ⟨rfl, dx, [("code", .int c)], ?_, ?_, ?_, ?_⟩⟩⟩
    · rw [eH]; exact upd_same
    · rw [eH, upd_ne ne]; exact upd_same
    · rw [upd_ne ne] at hd; exact hd
    · have hd1 : H1 dx = none := by rw [upd_ne ne] at hd; exact hd
      refine (r hb').mono e1 dx _ (fun b o hbo => ?_) hd1 upd_same
      have n1 : b ≠ a := ne_of_none hbo ha
      have n2 : b ≠ dx := ne_of_none hbo hd1
      rw [upd_ne n2, del_ne n1, eH, upd_ne n1, upd_ne n2, upd_ne n1]
      exact hbo
theorem ok_check_mask (T : Txt K mg A) : FnOk P w K mg base (L2.CX P w) 5 A.f_check_mask A.d_check_mask ["mask", "count"] (spCheckMask A) := by
  refine T.F_check_mask.okX sc_check_mask (fun vs H Q E h => ?_) (fun cdv Ar outer s H vs Q E hr h => ⟨_, (pss_one (ps_expr (pe_call (ok_check T) (hr.mono (by decide)) rfl T.g_check T.F_check.kp T.b_check .nil (passes_call (takes_of rfl rfl rfl rfl) (fun _ _ _ _ z => z)) (by exact (pa_cons (pe_cmpR op_lt (pv 0) (pe_op op_shl pe_int (pv 1)) (nomark _)) (pa_cons (pe_gint rfl T.k_OUT_OF_RANGE) pa_nil)))))), ?_⟩)
  · obtain ⟨m, n, rfl, _⟩ := h
    rfl
  · obtain ⟨m, n, rfl, hn, k, r⟩ := h
    have hd : decide ((m : Int) < ((2 ^ n : Nat) : Int)) = decide (m < 2 ^ n) := decide_eq_decide.mpr Int.ofNat_lt
    refine s_chk (ok := decide (m < 2 ^ n)) (c := -22) (ea_two (x := .bl (decide (m < 2 ^ n))) (ev_is (ev_op (ev_var rfl) (ev_shl (ev_var rfl) hn) rv_I0) (congrArg V.bl hd)) ev_c) chk_check (fun q H1 e1 => k (of_decide_eq_true q) H1 e1) (fun q => r (of_decide_eq_false q))
theorem ok_check_losses (T : Txt K mg A) : FnOk P w K mg base (L2.CX P w) 5 A.f_check_losses A.d_check_losses ["warm_loss", "cold_loss"] (spCheckLosses A) := by
  refine T.F_check_losses.okX sc_check_losses (fun vs H Q E h => ?_) (fun cdv Ar outer s H vs Q E hr h => ⟨_, (pss_one (ps_expr (pe_call (ok_check T) (hr.mono (by decide)) rfl T.g_check T.F_check.kp T.b_check .nil (passes_call (takes_of rfl rfl rfl rfl) (fun _ _ _ _ z => z)) (by exact (pa_cons (pe_chain3 op_le op_lt op_le pe_int (pv 1) (pv 0) (pe_gint rfl T.k_LOSS_AT_MOST)) (pa_cons (pe_gint rfl T.k_OUT_OF_RANGE) pa_nil)))))), ?_⟩)
  · obtain ⟨w, c, rfl, _⟩ := h
    rfl
  · obtain ⟨w, c, rfl, k, r⟩ := h
    refine s_chk (ok := Kh430.areValidLosses w c) (c := -22) (ea_two (x := .bl (Kh430.areValidLosses w c)) ?_ ev_c) chk_check (fun q H1 e1 => k q H1 e1) (fun q => r q)
    intro H1 e1 Q q
    refine ⟨_, rfl, 1, (c : Int), rfl, rfl, decide (1 ≤ (c : Int)), rfl, ?_⟩
    have key : Kh430.areValidLosses w c = (decide (1 ≤ (c : Int)) && (decide ((c : Int) < (w : Int)) && decide ((w : Int) ≤ 20))) := by
      unfold Kh430.areValidLosses
      congr 1
      · exact decide_eq_decide.mpr (by omega)
      · congr 1
        · exact decide_eq_decide.mpr (by omega)
        · exact decide_eq_decide.mpr (by omega)
    by_cases h1 : 1 ≤ (c : Int)
    · rw [decide_eq_true h1]
      refine iteT ⟨_, rfl, (c : Int), (w : Int), rfl, rfl, decide ((c : Int) < (w : Int)), rfl, ?_⟩
      by_cases h2 : (c : Int) < (w : Int)
      · rw [decide_eq_true h2]
        refine iteT ⟨(w : Int), 20, rfl, rfl, ?_⟩
        rw [key, decide_eq_true h1, decide_eq_true h2, Bool.true_and, Bool.true_and] at q
        exact q H1 (Ex.refl _)
      · rw [decide_eq_false h2]
        refine iteF ?_
        rw [key, decide_eq_false h2, Bool.false_and, Bool.and_false] at q
        exact q H1 (Ex.refl _)
    · rw [decide_eq_false h1]
      refine iteF ?_
      rw [key, decide_eq_false h1, Bool.false_and] at q
      exact q H1 (Ex.refl _)
theorem ok_Storage_cold_hours_needed (T : Txt K mg A) : FnOk P w K mg base CX0 1 A.f_Storage_cold_hours_needed A.d_Storage_cold_hours_needed ["self", "lot"] (spNeed A) := by
  refine T.F_Storage_cold_hours_needed.ok sc_Storage_cold_hours_needed (fun vs H Q E h => ?_) (fun cdv Ar outer s H vs Q E hr h => ⟨_, (pss_cons (ps_for PassesOwn.never rfl (pi_range1 rfl T.z_range (pa_cons (pe_op op_add (pe_fld (pv 1) rfl) pe_int) pa_nil)) (pg_name (i := 2) sc_Storage_cold_hours_needed.nd rfl (Or.inl rfl)) (pss_one (ps_if (pt_cmpR op_le (pe_op op_add (pe_op op_mul (pv 2) (pe_fld (pv 0) rfl)) (pe_op op_mul (pe_op op_sub (pe_fld (pv 1) rfl) (pv 2)) (pe_fld (pv 0) rfl))) (pe_fld (pv 1) rfl) (nomark _)) (pss_one (ps_ret (pv 2))) pss_nil))) (pss_one (ps_ret (pe_un un_neg pe_int)))), ?_⟩)
  · obtain ⟨a, l, dx, L, s, x, rfl, _⟩ := h
    rfl
  · obtain ⟨a, l, dx, L, s, x, rfl, ho, ⟨dl, hl⟩, h1, h2, h3, k⟩ := h
    refine q_forR1 (j := 2) (n := (x.hours : Int) + 1) (ea_one (ev_op (ev_fld (ev_var rfl) hl T.l_Lot T.n_Lot_hours lot_hours) ev_c rv_I0)) ⟨by omega, by omega⟩
      (fun i σ' H' => ∃ v, σ' = [some (.ref a), some (.ref l), v] ∧ Ex H H' ∧ ∀ j, j < i → fits s x j = false) (fun H1 e1 => ⟨none, rfl, e1, fun j hj => absurd hj (Nat.not_lt_zero _)⟩) ?_ ?_
    · rintro i σ' H' hi ⟨v, rfl, e1, hno⟩
      have hi' : i ≤ x.hours := by omega
      have c1 : CMul (i : Int) (s.coldLoss : Int) := Or.inl ⟨by omega, by omega⟩
      have c2 : CMul ((x.hours : Int) - (i : Int)) (s.warmLoss : Int) := Or.inl ⟨by omega, by omega⟩
      refine s_when (b := fits s x i) (et_is (et_test (ev_op (ev_op (ev_op (ev_var rfl) (ev_fld (ev_var rfl) (e1 _ _ ho) T.l_Storage T.n_Storage_cold_loss s_cold) (rv_I c1)) (ev_op (ev_op (ev_fld (ev_var rfl) (e1 _ _ hl) T.l_Lot T.n_Lot_hours lot_hours) (ev_var rfl) rv_I0) (ev_fld (ev_var rfl) (e1 _ _ ho) T.l_Storage T.n_Storage_warm_loss s_warm) (rv_I c2)) rv_I0)
        (ev_fld (ev_var rfl) (e1 _ _ hl) T.l_Lot T.n_Lot_life lot_life) rv_I0)) (fits_int hi')) (fun hb H2 e2 => ?_) (fun hb H2 e2 => ?_)
      · refine s_ret (ev_var rfl) fun H3 e3 => ?_
        have := need_hit (by omega) hb hno
        rw [← this]
        exact k H3 ((e1.trans e2).trans e3)
      · refine ⟨_, rfl, e1.trans e2, fun j hj => ?_⟩
        by_cases q : j = i
        · rw [q]; exact hb
        · exact hno j (by omega)
    · rintro σ' H' ⟨v, rfl, e1, hno⟩
      refine s_ret (ev_un ev_c ru_neg) fun H3 e3 => ?_
      have : needI s x = -1 := need_miss fun j hj => hno j (by omega)
      rw [this] at k
      exact k H3 (e1.trans e3)
theorem ok_Storage_all_lots (T : Txt K mg A) : FnOk P w K mg base CX0 1 A.f_Storage_all_lots A.d_Storage_all_lots ["self"] (spAllLots A) := by
  refine T.F_Storage_all_lots.ok sc_Storage_all_lots (fun vs H Q E h => ?_) (fun cdv Ar outer s H vs Q E hr h => ⟨_, (pss_one (ps_ret (pe_op op_sub (pe_op op_shl pe_int (pe_callB call_len_seq rfl T.z_len (by decide +kernel) (by exact (pa_cons (pe_fld (pv 0) rfl) pa_nil)))) pe_int))), ?_⟩)
  · obtain ⟨a, L, s, rfl, _⟩ := h
    rfl
  · obtain ⟨a, L, s, rfl, ⟨⟨dx, ho⟩, hL⟩, hn, k⟩ := h
    obtain ⟨vs, hv, hl⟩ := hL.list
    have e : nN (Kh430.allLots s) = V.int (((2 ^ vs.length : Nat) : Int) - 1) := by
      unfold nN Kh430.allLots
      rw [hl]
      have := Nat.two_pow_pos s.lots.length
      congr 1
      omega
    rw [e] at k
    exact s_ret (ev_op (ev_shl (ev_len2 (ev_fld (ev_var rfl) ho T.l_Storage T.n_Storage_lots s_lots) (sq_of hv)) (by omega)) ev_c rv_I0) k
end
end Cold

namespace Cold
open PySem PySem.Spec PyProof.Rows L2 Evl
/-! ### enumerate, max and min with a default, as they are read -/
section
variable {K : PySem.W.Frag} {σ : L2.St} {H H' : Hp} {ta tb te tx tv : TE} {t u : TT} {x y z v : V} {D : Ends} {tu tw tz : TS}
theorem el_lcE {tA : TA} {a : Addr} {xs : List V} {i j : Nat} {vs : List Nat} (f : Nat → Bool) (v : Nat → V) (h : EvA tA σ H [.ref a]) (hx : SqL K H a xs) (hz : xs.length ≤ 40000) (hw : ∀ x y, wipe (((wipe σ vs).set i (some x)).set j (some y)) vs = wipe σ vs)
    (ht : ∀ (k : Nat) (x : V) H1, Ex H H1 → xs[k]? = some x → EvT t (((wipe σ vs).set i (some (.int (k : Int)))).set j (some x)) H1 (f k)) (he : ∀ (k : Nat) (x : V) H1, Ex H H1 → xs[k]? = some x → f k = true → Ev te (((wipe σ vs).set i (some (.int (k : Int)))).set j (some x)) H1 (v k)) :
    EvL (tLc (iEnum K tA) (gTup K 2 (gCons (gName i) (gCons (gName j) gNil))) t te vs) σ H (given xs.length f v) := fun H0 e Q q => h H0 e _ fun H1 e1 => ⟨a, xs, rfl, ex_l (e.trans e1) hx, fun Dl hD =>
  lc_it walk_enum (Cw H1 f v Dl) ⟨hD, Ex.new hD, upd_same⟩ (fun i H' _ p => ex_l ((e.trans e1).trans p.2.1) hx) (fun k z H2 H3 hk p yy => by
    obtain ⟨Tt, x1, y1, rfl, hT, rfl, q1, q2⟩ := yy
    cases q1
    have hDT : Dl ≠ Tt := ne_of_none p.2.2 hT
    have p' : Cw H1 f v Dl k (upd H2 Tt (.tup [.int (k : Nat), y1])) := ⟨p.1, p.2.1.trans (Ex.new hT), by rw [upd_ne hDT]; exact p.2.2⟩
    exact ⟨Tt, _, rfl, st_of upd_same, rfl, _, _, rfl, _, _, rfl, rfl, hw _ _, cw_turn p' (by omega) (ht k y1 H1 (e.trans e1) q2) (fun hf => he k y1 H1 (e.trans e1) q2 hf)⟩)
    (fun H' p => q Dl H' (fresh_back e1 p.1) (e1.trans p.2.1) p.2.2)⟩
theorem s_forE {tA : TA} {a : Addr} {xs : List V} {i j : Nat} (h : EvA tA σ H [.ref a]) (hx : SqL K H a xs) (Pv : Nat → L2.St → Hp → Prop) (h0 : ∀ H1, Ex H H1 → Pv 0 σ H1) (hl : ∀ k σ' H', k ≤ xs.length → Pv k σ' H' → SqL K H' a xs)
    (hs : ∀ (k : Nat) x σ' H' H2, xs[k]? = some x → Pv k σ' H' → Ex H' H2 → tu { D with nx := Pv (k + 1), ct := Pv (k + 1), bk := D.nx } ((σ'.set i (some (.int (k : Int)))).set j (some x)) H2) (hd : ∀ σ' H', Pv xs.length σ' H' → D.nx σ' H') :
    tFor (iEnum K tA) (gTup K 2 (gCons (gName i) (gCons (gName j) gNil))) tu D σ H :=
  h H (Ex.refl H) _ fun H1 e => ⟨a, xs, rfl, ex_l e hx, for_it walk_enum Pv (h0 H1 e) hl (fun k z σ' H2 H3 hk p yy => by
    obtain ⟨Tt, x1, y1, rfl, hT, rfl, q1, q2⟩ := yy
    cases q1
    exact ⟨Tt, _, rfl, st_of upd_same, rfl, _, _, rfl, _, _, rfl, rfl, hs k y1 σ' H2 _ q2 p (Ex.new hT)⟩) hd⟩
theorem q_forE {tA : TA} {a : Addr} {xs : List V} {i j : Nat} (h : EvA tA σ H [.ref a]) (hx : SqL K H a xs) (Pv : Nat → L2.St → Hp → Prop) (h0 : ∀ H1, Ex H H1 → Pv 0 σ H1) (hl : ∀ k σ' H', k ≤ xs.length → Pv k σ' H' → SqL K H' a xs)
    (hs : ∀ (k : Nat) x σ' H' H2, xs[k]? = some x → Pv k σ' H' → Ex H' H2 → tu { D with nx := Pv (k + 1), ct := Pv (k + 1), bk := tz D } ((σ'.set i (some (.int (k : Int)))).set j (some x)) H2) (hd : ∀ σ' H', Pv xs.length σ' H' → tz D σ' H') :
    tSeq (tFor (iEnum K tA) (gTup K 2 (gCons (gName i) (gCons (gName j) gNil))) tu) tz D σ H := s_forE (D := { D with nx := tz D }) h hx Pv h0 hl hs hd
theorem et_yes : EvT tYes σ H true := fun H1 _ _ q => q H1 (Ex.refl _)
def MaxD (ns : List Int) (d M : Int) : Prop := (ns = [] → M = d) ∧ (ns ≠ [] → M ∈ ns ∧ ∀ a, a ∈ ns → a ≤ M)
def MinD (ns : List Int) (d M : Int) : Prop := (ns = [] → M = d) ∧ (ns ≠ [] → M ∈ ns ∧ ∀ a, a ∈ ns → M ≤ a)
theorem maxD_one {ns : List Int} {d M N : Int} (h : MaxD ns d M) (k : MaxD ns d N) : M = N := by
  by_cases e : ns = []
  · rw [h.1 e, k.1 e]
  · have := (h.2 e).2 N (k.2 e).1
    have := (k.2 e).2 M (h.2 e).1
    omega
theorem minD_one {ns : List Int} {d M N : Int} (h : MinD ns d M) (k : MinD ns d N) : M = N := by
  by_cases e : ns = []
  · rw [h.1 e, k.1 e]
  · have := (h.2 e).2 N (k.2 e).1
    have := (k.2 e).2 M (h.2 e).1
    omega
theorem minD_ex (d : Int) : ∀ ns : List Int, ∃ M, MinD ns d M
  | [] => ⟨d, fun _ => rfl, fun z => absurd rfl z⟩
  | x :: r => by
    by_cases e : r = []
    · subst e
      exact ⟨x, fun z => (by cases z), fun _ => ⟨List.mem_cons_self, fun a ha => by rw [List.mem_singleton.mp ha]; exact Int.le_refl _⟩⟩
    · obtain ⟨M, _, h2⟩ := minD_ex d r
      obtain ⟨h3, h4⟩ := h2 e
      by_cases hx : x ≤ M
      · refine ⟨x, fun z => (by cases z), fun _ => ⟨List.mem_cons_self, fun a ha => ?_⟩⟩
        rcases List.mem_cons.mp ha with z | z
        · rw [z]; exact Int.le_refl _
        · exact Int.le_trans hx (h4 a z)
      · refine ⟨M, fun z => (by cases z), fun _ => ⟨List.mem_cons_of_mem _ h3, fun a ha => ?_⟩⟩
        rcases List.mem_cons.mp ha with z | z
        · rw [z]; omega
        · exact h4 a z
theorem ev_maxDL {ns : List Int} {d M : Int} (h : EvL ta σ H (ns.map V.int)) (k : MaxD ns d M) : Ev (tCKw (rMaxD K) (tCons ta tNil) (tCons (tC (.int d)) tNil)) σ H (.int M) := fun H1 e Q q =>
  h H1 e _ fun p H2 _ e2 h2 => ⟨p, ns, d, rfl, rfl, sq_of h2, fun N h0 h1 => by rw [maxD_one ⟨h0, h1⟩ k]; exact q H2 e2⟩
theorem ev_minD {a : Addr} {ns : List Int} {d M : Int} (h : Ev ta σ H (.ref a)) (hx : SqL K H a (ns.map V.int)) (k : MinD ns d M) : Ev (tCKw (rMinD K) (tCons ta tNil) (tCons (tC (.int d)) tNil)) σ H (.int M) := fun H1 e Q q =>
  h H1 e _ fun H2 e2 => ⟨a, ns, d, rfl, rfl, ex_l (e.trans e2) hx, fun N h0 h1 => by rw [minD_one ⟨h0, h1⟩ k]; exact q H2 e2⟩
theorem given_all (n : Nat) (v : Nat → V) : given n (fun _ => true) v = (List.range n).map v := by
  unfold given
  rw [List.filter_eq_self.mpr fun _ _ => rfl]
theorem given_of {α : Type} (l : List α) (g : α → V) (v : Nat → V) (h : ∀ (i : Nat) x, l[i]? = some x → v i = g x) : given l.length (fun _ => true) v = l.map g := by
  rw [given_all]
  apply List.ext_getElem?
  intro i
  rw [List.getElem?_map, List.getElem?_map]
  cases e : l[i]? with
  | none =>
    rw [List.getElem?_eq_none (by rw [List.length_range]; exact List.getElem?_eq_none_iff.mp e)]
    rfl
  | some x =>
    have hi : i < l.length := by
      rcases Nat.lt_or_ge i l.length with z | z
      · exact z
      · rw [List.getElem?_eq_none z] at e; cases e
    rw [List.getElem?_range hi]
    exact congrArg some (h i x e)
end
theorem at_lt {α : Type} {l : List α} {i : Nat} {x : α} (h : l[i]? = some x) : i < l.length := by
  rcases Nat.lt_or_ge i l.length with z | z
  · exact z
  · rw [List.getElem?_eq_none z] at h; cases h
/-- a storage and its lots are none of what is being made at p -/
theorem StoAt.keep {A : Ad} {H H2 : Hp} {a L p C dx : Addr} {s : Kh430.Store} (h : StoAt A H a L s) (hp : H p = some (.ins C dx [])) (k : ∀ b o, H b = some o → b ≠ p → H2 b = some o) : StoAt A H2 a L s := by
  obtain ⟨⟨d1, o1⟩, vs, o2, l, q⟩ := h
  have na : a ≠ p := fun z => by
    rw [z, hp] at o1
    injection o1 with o1
    injection o1 with _ _ o1
    cases o1
  have nl : L ≠ p := fun z => by
    rw [z, hp] at o2
    injection o2 with o2
    cases o2
  refine ⟨⟨d1, k _ _ o1 na⟩, vs, k _ _ o2 nl, l, fun i x hi => ?_⟩
  obtain ⟨r, h1, d2, o3⟩ := q i x hi
  have nr : r ≠ p := fun z => by
    rw [z, hp] at o3
    injection o3 with o3
    injection o3 with _ _ o3
    cases o3
  exact ⟨r, h1, d2, k _ _ o3 nr⟩
section
variable {P : Program} {w : World} {K : PySem.W.Frag} {mg : Str → Option Value} {base : Heap} {A : Ad}
theorem ok_Planner_init (T : Txt K mg A) : FnOk P w K mg base CX0 2 A.f_Planner_init A.d_Planner_init ["self", "storage", "capacity"] (spPlaInit A) := by
  refine T.F_Planner_init.ok sc_Planner_init (fun vs H Q E h => ?_) (fun cdv Ar outer s H vs Q E hr h => ⟨_, (pss_cons (ps_fld (pv 0) (pe_fld (pv 1) rfl) rfl) (pss_cons (ps_fld (pv 0) (pe_lc (own := [("lot", 3)]) (g := gName 3) rfl sc_Planner_init.nd (pi_list (pe_fld (pv 1) rfl)) (blkOk_by (N := ["self", "storage", "capacity", "lot"]) (sc := defScope s_Planner_init) (by decide +kernel)) (fun _ _ _ _ _ => pg_name (i := 3) sc_Planner_init.nd rfl (Or.inl rfl)) (fun _ _ _ _ _ => (by exact (pts_nil))) (fun _ _ _ _ _ => (by exact (pe_meth (pv 1) T.l_Storage T.m_Storage_cold_hours_needed (ok_Storage_cold_hours_needed T) (hr.mono (by decide)) T.b_Storage_cold_hours_needed .nil pass0 (by exact (pa_cons (pv 3) pa_nil)))))) rfl) (pss_cons (ps_fld (pv 0) (pv 2) rfl) (pss_one (ps_fld (pv 0) (pe_callBK (cr_maxD rfl) rfl T.z_max (by decide +kernel) (by exact (pa_cons (pe_lc (own := [("lot", 3)]) (g := gName 3) rfl sc_Planner_init.nd (pi_list (pe_fld (pv 1) rfl)) (blkOk_by (N := ["self", "storage", "capacity", "lot"]) (sc := defScope s_Planner_init) (by decide +kernel)) (fun _ _ _ _ _ => pg_name (i := 3) sc_Planner_init.nd rfl (Or.inl rfl)) (fun _ _ _ _ _ => (by exact (pts_nil))) (fun _ _ _ _ _ => (by exact (pe_fldK (K := K) rfl (pv 3) rfl)))) pa_nil)) (pk_cons pe_int pk_nil)) rfl))))), ?_⟩)
  · obtain ⟨p, dx, a, L, s, k, rfl, _⟩ := h
    rfl
  · obtain ⟨p, dx, a, L, s, k, rfl, hp, hS, ok, q⟩ := h
    obtain ⟨⟨dS, hSo⟩, hSl⟩ := hS
    have hS : StoAt A H a L s := ⟨⟨dS, hSo⟩, hSl⟩
    obtain ⟨vs, hv, hvl⟩ := hSl.list
    refine q_fld (ev_fld (ev_var rfl) hSo T.l_Storage T.n_Storage_lots s_lots) (ev_var rfl) hp T.l_Planner T.n_Planner_lots (by decide) fun H1 e1 => ?_
    have k1 : ∀ b o, H b = some o → b ≠ p → upd H1 p (.ins A.c_Planner dx (putF "lots" (.ref L) [])) b = some o := fun b o hb ne => by rw [upd_ne ne]; exact e1 _ _ hb
    have S1 := hS.keep hp k1
    have o1 := upd_same (H := H1) (a := p) (o := .ins A.c_Planner dx (putF "lots" (.ref L) []))
    generalize upd H1 p (.ins A.c_Planner dx (putF "lots" (.ref L) [])) = G1 at k1 S1 o1 ⊢
    -- self.needs: what each lot needs
    obtain ⟨⟨d1, so1⟩, vs1, hv1, hl1, hi1⟩ := S1
    have hz : vs1.length ≤ 40000 := by rw [hl1]; have := ok.n4; omega
    have lot1 : ∀ (i : Nat) x, vs1[i]? = some x → ∃ r y, x = .ref r ∧ s.lots[i]? = some y ∧ LotAt A G1 r y := fun i x hx => LotsAt.get ⟨vs1, hv1, hl1, hi1⟩ hv1 hx
    have hb : ∀ (i : Nat) y, s.lots[i]? = some y → y.hours ≤ 6 := fun i y hy => (ok.hrs y (List.mem_of_getElem? hy)).2
    refine q_fldN (P := fun N H => H N = some (.lst (needsV s))) (fun Hx ex Qx qx => el_lcL (fun _ => true) (fun i => .int (needI s (Kh430.lotAt s i))) (ev_fld (ev_var rfl) so1 T.l_Storage T.n_Storage_lots s_lots) (sq_of hv1) hz (fun _ => rfl) (fun i x H2 e2 hx => et_yes) (fun i x H2 e2 hx _ => ?_) Hx ex Qx (fun N H2 h1 h2 h3 => qx N H2 h1 h2 ?_)) (ev_var rfl) o1 T.l_Planner T.n_Planner_needs (put_lt (by decide)) fun N H2 hN e2 h2 H3 e3 => ?_
    · obtain ⟨r, y, rfl, hy, hr1⟩ := lot1 i x hx
      rw [lotAt_get hy]
      exact ev_meth (ev_var rfl) (e2 _ _ so1) (s_no rfl) (ea_one (ev_var rfl)) (spv_need (e2 _ _ so1) (hr1.mono e2) (by have := hb i y hy; omega) (by have := ok.cw; have := ok.w20; omega) (by have := ok.w20; omega))
    · show H2 N = some (.lst (needsV s))
      rw [h3, hl1, given_of s.lots (fun x => .int (needI s x)) _ (fun i y hy => by rw [lotAt_get hy])]
      rfl
    have hNp : N ≠ p := fun z => by
      rw [z, o1] at hN
      cases hN
    have k3 : ∀ b o, G1 b = some o → b ≠ p → upd H3 p (.ins A.c_Planner dx (putF "needs" (.ref N) (putF "lots" (.ref L) []))) b = some o := fun b o hb ne => by
      rw [upd_ne ne]
      exact e3 _ _ (e2 _ _ hb)
    have n3 : upd H3 p (.ins A.c_Planner dx (putF "needs" (.ref N) (putF "lots" (.ref L) []))) N = some (.lst (needsV s)) := by
      rw [upd_ne hNp]
      exact e3 _ _ h2
    have o3 := upd_same (H := H3) (a := p) (o := .ins A.c_Planner dx (putF "needs" (.ref N) (putF "lots" (.ref L) [])))
    generalize upd H3 p (.ins A.c_Planner dx (putF "needs" (.ref N) (putF "lots" (.ref L) []))) = G3 at k3 n3 o3 ⊢
    -- self.capacity
    refine q_fld (ev_var rfl) (ev_var rfl) o3 T.l_Planner T.n_Planner_capacity (put_lt (put_lt (by decide))) fun H4 e4 => ?_
    have k4 : ∀ b o, G3 b = some o → b ≠ p → upd H4 p (.ins A.c_Planner dx (putF "capacity" (nN k) (putF "needs" (.ref N) (putF "lots" (.ref L) [])))) b = some o := fun b o hb ne => by
      rw [upd_ne ne]
      exact e4 _ _ hb
    have o4 := upd_same (H := H4) (a := p) (o := .ins A.c_Planner dx (putF "capacity" (nN k) (putF "needs" (.ref N) (putF "lots" (.ref L) []))))
    generalize upd H4 p (.ins A.c_Planner dx (putF "capacity" (nN k) (putF "needs" (.ref N) (putF "lots" (.ref L) [])))) = G4 at k4 o4 ⊢
    have all4 : ∀ b o, H b = some o → b ≠ p → G4 b = some o := fun b o hb ne => k4 _ _ (k3 _ _ (k1 _ _ hb ne) ne) ne
    have S4 := hS.keep hp all4
    obtain ⟨⟨d4, so4⟩, vs4, hv4, hl4, hi4⟩ := S4
    have lot4 : ∀ (i : Nat) x, vs4[i]? = some x → ∃ r y, x = .ref r ∧ s.lots[i]? = some y ∧ LotAt A G4 r y := fun i x hx => LotsAt.get ⟨vs4, hv4, hl4, hi4⟩ hv4 hx
    -- self.hours
    have hM : MaxD (s.lots.map fun x => (x.hours : Int)) 0 (Kh430.horizon s : Nat) := by
      obtain ⟨M, h0, h1⟩ : ∃ M, MaxD (s.lots.map fun x => (x.hours : Int)) 0 M := by
        obtain ⟨M, h0, h1⟩ := minD_ex 0 (s.lots.map fun x => -(x.hours : Int))
        refine ⟨-M, fun z => ?_, fun z => ?_⟩
        · rw [h0 (by rw [List.map_eq_nil_iff] at z ⊢; exact z)]; rfl
        · obtain ⟨m1, m2⟩ := h1 (fun y => z (by rw [List.map_eq_nil_iff] at y ⊢; exact y))
          obtain ⟨x, hx, ex⟩ := List.mem_map.mp m1
          refine ⟨List.mem_map.mpr ⟨x, hx, by omega⟩, fun a ha => ?_⟩
          obtain ⟨y, hy, ey⟩ := List.mem_map.mp ha
          have := m2 _ (List.mem_map.mpr ⟨y, hy, rfl⟩)
          omega
      have := horizon_is (s := s) (M := M) (fun z => h0 (by rw [z]; rfl)) (fun z => h1 (fun y => z (by rw [List.map_eq_nil_iff] at y; exact y)))
      rw [← this]
      exact ⟨h0, h1⟩
    refine s_fld (ev_maxDL (ns := s.lots.map fun x => (x.hours : Int)) (fun Hx ex Qx qx => el_lcL (fun _ => true) (fun i => .int ((Kh430.lotAt s i).hours : Nat)) (ev_fld (ev_var rfl) so4 T.l_Storage T.n_Storage_lots s_lots) (sq_of hv4) (by rw [hl4, ← hl1]; exact hz) (fun _ => rfl) (fun i x H2 e2 hx => et_yes) (fun i x H2 e2 hx _ => ?_) Hx ex Qx (fun N H2 h1 h2 h3 => qx N H2 h1 h2 ?_)) hM) (ev_var rfl) o4 T.l_Planner T.n_Planner_hours (put_lt (put_lt (put_lt (by decide)))) fun H5 e5 => ?_
    · obtain ⟨r, y, rfl, hy, dr, hr1⟩ := lot4 i x hx
      rw [lotAt_get hy]
      exact ev_fld (ev_var rfl) (e2 _ _ hr1) T.l_Lot T.n_Lot_hours lot_hours
    · rw [h3, hl4, given_of s.lots (fun x => .int (x.hours : Nat)) _ (fun i y hy => by rw [lotAt_get hy]), List.map_map]
      rfl
    have last : putF ("hours" : Str) (V.int (Kh430.horizon s : Nat)) (putF ("capacity" : Str) (nN k) (putF ("needs" : Str) (V.ref N) (putF ("lots" : Str) (V.ref L) []))) = pF { s with capacity := k } L N := by
      simp only [putF]
      rfl
    have all5 : ∀ b o, G4 b = some o → b ≠ p → upd H5 p (.ins A.c_Planner dx (pF { s with capacity := k } L N)) b = some o := fun b o hb ne => by
      rw [upd_ne ne]
      exact e5 _ _ hb
    have fin : ∀ z, z = pF { s with capacity := k } L N → Q .non (upd H5 p (.ins A.c_Planner dx z)) := fun z ez => by
      subst ez
      refine q _ ⟨dx, L, N, upd_same, ?_, ?_⟩ fun b o hb ne => all5 b o (all4 b o hb ne) ne
      · exact (hS.keep hp fun b o hb ne => all5 b o (all4 b o hb ne) ne).lots
      · exact all5 _ _ (k4 _ _ n3 hNp) hNp
    exact fin _ last
end
end Cold

namespace Cold
open PySem PySem.Spec PyProof.Rows L2 Evl
/-! ### the planner's methods -/
def pN : List Str := ["self", "hour", "needs", "one", "need", "candidates", "size", "mask", "members", "left", "rest"]
theorem given_filter (n : Nat) (p : Nat → Bool) : given n p nN = lN ((List.range n).filter p) := rfl
section
variable {P : Program} {w : World} {K : PySem.W.Frag} {mg : Str → Option Value} {base : Heap} {A : Ad}
theorem pf_body (T : Txt K mg A) (f : Nat) (spI : Sp) (IH : FnOk P w K mg base CX0 (f + 1) A.f_Planner_plan_from A.d_Planner_plan_from ["self", "hour", "needs"] spI) (hI : ∀ g, f = g + 1 → spI = spPlanFrom A g) :
    FnOk P w K mg base CX0 (f + 2) A.f_Planner_plan_from A.d_Planner_plan_from ["self", "hour", "needs"] (spPlanFrom A f) := by
  refine T.F_Planner_plan_from.ok sc_Planner_plan_from (fun vs H Q E h => ?_) (fun cdv Ar outer s H vs Q E hr h => ⟨_, (pss_cons (ps_for PassesOwn.never rfl (pi_enum rfl T.z_enumerate (pa_cons (pv 2) pa_nil)) (pg_tup rfl (pgs_cons (pg_name (i := 3) sc_Planner_plan_from.nd rfl (Or.inl rfl)) (pgs_cons (pg_name (i := 4) sc_Planner_plan_from.nd rfl (Or.inl rfl)) pgs_nil))) (pss_one (ps_if (pt_cmpR op_gt (pv 4) (pe_callB (call_max2 rfl) rfl T.z_max (by decide +kernel) (by exact (pa_cons pe_int (pa_cons (pe_op op_sub (pe_fld (pe_ix ix_list (pe_fld (pv 0) rfl) (pv 3) (fun _ _ => rfl)) rfl) (pv 1)) pa_nil)))) (nomark _)) (pss_one (ps_ret pe_non)) pss_nil))) (pss_cons (ps_if (pt_cmpR op_eq (pv 1) (pe_fld (pv 0) rfl) (nomark _)) (pss_one (ps_ret (pe_lst pa_nil))) pss_nil) (pss_cons (ps_setLc (i := 5) (own := [("one", 3), ("need", 4)]) (g := gTup K 2 (gCons (gName 3) (gCons (gName 4) gNil))) rfl sc_Planner_plan_from.nd rfl rfl (sw_true rfl rfl rfl (by decide +kernel)) (pi_enum rfl T.z_enumerate (pa_cons (pv 2) pa_nil)) (blkOk_by (N := ["self", "hour", "needs", "one", "need", "candidates", "size", "mask", "members", "left", "rest"]) (sc := defScope s_Planner_plan_from) (by decide +kernel)) (fun _ _ _ _ _ => pg_tup rfl (pgs_cons (pg_name (i := 3) sc_Planner_plan_from.nd rfl (Or.inl rfl)) (pgs_cons (pg_name (i := 4) sc_Planner_plan_from.nd rfl (Or.inl rfl)) pgs_nil))) (fun _ _ _ _ _ => (by exact (pts_one (pt_cmpR op_gt (pv 4) pe_int (nomark _))))) (fun _ _ _ _ _ => (by exact (pv 3)))) (pss_cons (ps_set (i := 6) sc_Planner_plan_from.nd rfl (Or.inl rfl) (pe_callB (call_min2 rfl) rfl T.z_min (by decide +kernel) (by exact (pa_cons (pe_fld (pv 0) rfl) (pa_cons (pe_callB call_len_seq rfl T.z_len (by decide +kernel) (by exact (pa_cons (pv 5) pa_nil))) pa_nil))))) (pss_cons (ps_for PassesOwn.never rfl (pi_range1 rfl T.z_range (pa_cons (pe_op op_shl pe_int (pe_callB call_len_seq rfl T.z_len (by decide +kernel) (by exact (pa_cons (pv 2) pa_nil)))) pa_nil)) (pg_name (i := 7) sc_Planner_plan_from.nd rfl (Or.inr rfl)) (pss_cons (ps_set (i := 8) sc_Planner_plan_from.nd rfl (Or.inl rfl) (pe_call (ok_members_of T) (hr.mono (by omega)) rfl T.g_members_of T.F_members_of.kp T.b_members_of .nil pass0 (by exact (pa_cons (pv 7) pa_nil)))) (pss_one (ps_if (PW.pt (pw_and (pt_cmpR op_eq (pe_callB call_len_seq rfl T.z_len (by decide +kernel) (by exact (pa_cons (pv 8) pa_nil))) (pv 6) (nomark _)) (pw_and1 (pt_val (pe_callB (cr_all rfl) rfl T.z_all (by decide +kernel) (by exact (pa_cons (pe_lc (own := [("one", 3)]) (g := gName 3) rfl sc_Planner_plan_from.nd (pi_list (pv 8)) (blkOk_by (N := ["self", "hour", "needs", "one", "need", "candidates", "size", "mask", "members", "left", "rest"]) (sc := defScope s_Planner_plan_from) (by decide +kernel)) (fun _ _ _ _ _ => pg_name (i := 3) sc_Planner_plan_from.nd rfl (Or.inl rfl)) (fun _ _ _ _ _ => (by exact (pts_nil))) (fun _ _ _ _ _ => (by exact (pe_cmpR op_gt (pe_ix (ix_listK (K := K) rfl) (pv 2) (pv 3) (fun _ _ => rfl)) pe_int (nomark _))))) pa_nil))))))) (pss_cons (ps_setLc (i := 9) (own := [("one", 3), ("need", 4)]) (g := gTup K 2 (gCons (gName 3) (gCons (gName 4) gNil))) rfl sc_Planner_plan_from.nd rfl rfl (sw_true rfl rfl rfl (by decide +kernel)) (pi_enum rfl T.z_enumerate (pa_cons (pv 2) pa_nil)) (blkOk_by (N := ["self", "hour", "needs", "one", "need", "candidates", "size", "mask", "members", "left", "rest"]) (sc := defScope s_Planner_plan_from) (by decide +kernel)) (fun _ _ _ _ _ => pg_tup rfl (pgs_cons (pg_name (i := 3) sc_Planner_plan_from.nd rfl (Or.inl rfl)) (pgs_cons (pg_name (i := 4) sc_Planner_plan_from.nd rfl (Or.inl rfl)) pgs_nil))) (fun _ _ _ _ _ => (by exact (pts_nil))) (fun _ _ _ _ _ => (by exact (pe_op op_sub (pv 4) (pe_op op_and (pe_op op_shr (pv 7) (pv 3)) pe_int))))) (pss_cons (ps_set (i := 10) sc_Planner_plan_from.nd rfl (Or.inl rfl) (pe_meth (pv 0) T.l_Planner T.m_Planner_plan_from (IH) (hr.mono (by omega)) T.b_Planner_plan_from .nil pass0 (by exact (pa_cons (pe_op op_add (pv 1) pe_int) (pa_cons (pv 9) pa_nil))))) (pss_one (ps_if (pt_cmpR op_notN (pv 10) pe_non (nomark _)) (pss_one (ps_ret (pe_op op_cat (pe_lst (pa_cons (pv 7) pa_nil)) (pv 10)))) pss_nil)))) pss_nil)))) (pss_one (ps_ret pe_non))))))), ?_⟩)
  · obtain ⟨p, N, s, t, nd, rfl, _⟩ := h
    rfl
  · obtain ⟨p, N, s, t, nd, rfl, ⟨dx, L, Nn, po, hLs, hNn⟩, ok, hN, hl, hf, kN, kL⟩ := h
    obtain ⟨ws, hw, hwl⟩ := hLs.list
    have hP : PlaAt A H p s := ⟨dx, L, Nn, po, hLs, hNn⟩
    have n4 := ok.n4
    have hz : (lN nd).length ≤ 40000 := by rw [lN_len, hl]; omega
    -- for one, need in enumerate(needs): if need > max(0, self.lots[one].hours - hour): return None
    refine q_forE (i := 3) (j := 4) (ea_one (ev_var rfl)) (sq_of hN) (fun i σ' H' => ∃ a b, σ' = [some (.ref p), some (nN t), some (.ref N), a, b, none, none, none, none, none, none] ∧ Ex H H' ∧ ∀ j k, j < i → nd[j]? = some k → ¬ (Kh430.lotAt s j).hours - t < k)
      (fun H1 e1 => ⟨none, none, rfl, e1, fun j k hj => absurd hj (Nat.not_lt_zero _)⟩) (fun i σ' H' _ ⟨_, _, _, e1, _⟩ => sq_of (e1 _ _ hN)) ?_ ?_
    · rintro i x σ' H' H2 hx ⟨a, b, rfl, e1, hno⟩ e2
      obtain ⟨k, hk, rfl⟩ := lN_inv hx
      have hi : i < s.lots.length := by rw [← hl]; exact at_lt hk
      obtain ⟨_, r, h1, _, h3, dr, hr1⟩ := hLs.item (get_lotAt hi)
      have e12 := e1.trans e2
      have hd : decide ((if ((Kh430.lotAt s i).hours : Int) - (t : Int) > 0 then ((Kh430.lotAt s i).hours : Int) - (t : Int) else 0) < (k : Int)) = decide ((Kh430.lotAt s i).hours - t < k) := by
        apply decide_eq_decide.mpr
        split <;> omega
      refine s_when (b := decide ((Kh430.lotAt s i).hours - t < k)) (et_is (et_test (ev_op (ev_var rfl) (ev_max ev_c (ev_op (ev_fld (ev_op (ev_fld (ev_var rfl) (e12 _ _ po) T.l_Planner T.n_Planner_lots p_lots) (ev_var rfl) (rv_ixL (sq_of (e12 _ _ h1)) (atI_get h3))) (e12 _ _ hr1) T.l_Lot T.n_Lot_hours lot_hours) (ev_var rfl) rv_I0)) rv_I0)) hd) (fun hb H3 e3 => ?_) (fun hb H3 e3 => ?_)
      · refine s_ret ev_c fun H4 e4 => kN ?_ H4 ((e12.trans e3).trans e4)
        exact search_over hl hf hk (of_decide_eq_true hb)
      · refine ⟨_, _, rfl, e12.trans e3, fun j k' hj hk' => ?_⟩
        by_cases q : j = i
        · subst q
          rw [hk] at hk'
          cases hk'
          exact of_decide_eq_false hb
        · exact hno j k' (by omega) hk'
    rintro σ' H1 ⟨v3, v4, rfl, e1, hno'⟩
    have hno : ∀ j k, nd[j]? = some k → ¬ (Kh430.lotAt s j).hours - t < k := fun j k hk => hno' j k (by rw [lN_len]; exact at_lt hk) hk
    -- if hour == self.hours: return []
    refine q_when (b := decide (V.int (t : Int) = V.int (Kh430.horizon s : Int))) (et_test (ev_op (ev_var rfl) (ev_fld (ev_var rfl) (e1 _ _ po) T.l_Planner T.n_Planner_hours p_hours) (rv_eq rfl))) (fun hb H2 e2 => ?_) (fun hb H2 e2 => ?_)
    · have ht : t = Kh430.horizon s := by
        have := of_decide_eq_true hb
        injection this with this
        omega
      have f0 : f = 0 := by omega
      subst f0
      refine s_retL (el_lst ea_nil (by decide)) fun r H3 h3 e3 hr3 => kL [] (search_end hl ht hno) r H3 (fresh_back (e1.trans e2) h3) ((e1.trans e2).trans e3) hr3
    have ht : t ≠ Kh430.horizon s := fun z => by
      rw [z] at hb
      exact absurd rfl (of_decide_eq_false hb)
    obtain ⟨g, rfl⟩ : ∃ g, f = g + 1 := ⟨f - 1, by omega⟩
    have hI' := hI g rfl
    subst hI'
    have sg := search_go (s := s) (f := g) hno
    -- candidates
    refine q_asgL (xs := lN (cand2 nd)) (fun Hx ex Qx qx => el_lcE (i := 3) (j := 4) (fun i => decide (0 < nd.getD i 0)) nN (ea_one (ev_var rfl)) (sq_of ((e1.trans e2) _ _ hN)) hz (fun _ _ => rfl)
      (fun i x H3 e3 hx => ?_) (fun i x H3 e3 hx _ => ev_var rfl) Hx ex Qx (fun r H3 h1 h2 h3 => qx r H3 h1 h2 ?_)) fun cA H3 _ e3 hcA => ?_
    · obtain ⟨k, hk, rfl⟩ := lN_inv hx
      rw [getD_of hk]
      exact et_is (et_test (ev_op (ev_var rfl) ev_c rv_I0)) (decide_eq_decide.mpr (by omega))
    · rw [h3, lN_len]
      rfl
    -- size = min(self.capacity, len(candidates))
    have e13 := (e1.trans e2).trans e3
    have hmin : (V.int (if (((lN (cand2 nd)).length : Nat) : Int) < (s.capacity : Int) then (((lN (cand2 nd)).length : Nat) : Int) else (s.capacity : Int))) = nN (min s.capacity (cand2 nd).length) := by
      rw [lN_len]
      unfold nN
      congr 1
      split <;> omega
    refine q_asg (ev_is (ev_min2 (ev_fld (ev_var rfl) (e13 _ _ po) T.l_Planner T.n_Planner_capacity p_cap) (ev_len2 (ev_var rfl) (sq_of hcA))) hmin) fun H4 e4 => ?_
    have e14 := e13.trans e4
    have hpow : 2 ^ nd.length ≤ 16 := by
      have : nd.length ≤ 4 := by omega
      exact Nat.pow_le_pow_right (by decide) this
    -- for mask in range(1 << len(needs))
    refine q_forR1 (j := 7) (n := ((2 ^ nd.length : Nat) : Int)) (ea_one (ev_is (ev_shl (n := nd.length) (ev_is (ev_len2 (ev_var rfl) (sq_of (e14 _ _ hN))) (by rw [lN_len])) (by omega)) rfl)) ⟨Int.natCast_nonneg _, Int.le_trans (Int.ofNat_le.mpr hpow) (by decide)⟩
      (fun i σ' H' => ∃ a b c d e g2, σ' = [some (.ref p), some (nN t), some (.ref N), a, b, some (.ref cA), some (nN (min s.capacity (cand2 nd).length)), c, d, e, g2] ∧ Ex H H' ∧ ∀ j, j < i → pick s t nd j = true → (Kh430.searchPlan s g (t + 1) (step1 nd j)).map (fun rest => j :: rest) = none)
      (fun H5 e5 => ⟨_, _, _, _, _, _, rfl, e14.trans e5, fun j hj => absurd hj (Nat.not_lt_zero _)⟩) ?_ ?_
    · rintro i σ' H5 hi ⟨v3, v4, v7, v8, v9, v10, rfl, e5, hnone⟩
      have hi' : i < 2 ^ nd.length := by omega
      have hbl : bl i ≤ nd.length := bl_le hi'
      -- members = members_of(mask)
      refine q_asgL (xs := lN (membersOf i)) (el_call (ea_one (ev_var rfl)) (spl_members (by omega))) fun mA H6 _ e6 hmA => ?_
      have e56 := e5.trans e6
      have hmem : ∀ (j : Nat) m, (membersOf i)[j]? = some m → m < nd.length := fun j m hj => by
        have := List.mem_of_getElem? hj
        rw [members_eq hi'] at this
        exact (mem_members.mp this).1
      have hall : ((membersOf i).map fun m => decide (0 < nd.getD m 0)).all id = (membersOf i).all fun m => decide (0 < nd.getD m 0) := by
        rw [List.all_map]
        rfl
      have pe := pick_eq hno hi'
      refine s_when (b := pick s t nd i) (et_is (et_and (a := decide (V.int (((lN (membersOf i)).length : Nat) : Int) = nN (min s.capacity (cand2 nd).length))) (b := (membersOf i).all fun m => decide (0 < nd.getD m 0)) (et_test (ev_op (ev_len2 (ev_var rfl) (sq_of hmA)) (ev_var rfl) (rv_eq rfl)))
          (fun _ => et_is (et_B (ev_allL (bs := (membersOf i).map fun m => decide (0 < nd.getD m 0)) (fun Hx ex Qx qx => el_lcL (j := 3) (fun _ => true) (fun j => .bl (decide (0 < nd.getD ((membersOf i).getD j 0) 0))) (ev_var rfl) (sq_of hmA) (by rw [lN_len]; have := members_len nd.length i; rw [members_eq hi']; omega) (fun _ => rfl) (fun j x H7 e7 hx => et_yes)
            (fun j x H7 e7 hx _ => ?_) Hx ex Qx (fun r H7 h1 h2 h3 => qx r H7 h1 h2 ?_)))) hall)) ?_) (fun hb H7 e7 => ?_) (fun hb H7 e7 => ?_)
      · obtain ⟨m, hm, rfl⟩ := lN_inv hx
        rw [getD_of hm]
        have hk := get_of_lt (hmem j m hm)
        exact ev_is (ev_op (ev_op (ev_var rfl) (ev_var rfl) (rv_ixL (sq_of ((e56.trans e7) _ _ hN)) (atI_get (lN_get hk)))) ev_c rv_I0) (congrArg V.bl (decide_eq_decide.mpr (by omega)))
      · rw [h3, lN_len, given_of (membersOf i) (fun m => .bl (decide (0 < nd.getD m 0))) _ (fun j m hj => by rw [getD_of hj]), List.map_map]
        rfl
      · rw [pe, lN_len]
        congr 1
        rw [Bool.eq_iff_iff, decide_eq_true_eq, decide_eq_true_eq]
        constructor
        · intro z
          injection z with z
          omega
        · intro z
          rw [z]
          rfl
      · have e57 := e56.trans e7
        have hpos : ((membersOf i).all fun m => decide (0 < nd.getD m 0)) = true := by
          rw [pe, Bool.and_eq_true] at hb
          exact hb.2
        -- left = [need - (mask >> one & 1) for one, need in enumerate(needs)]
        refine q_asgL (xs := lN (step1 nd i)) (fun Hx ex Qx qx => el_lcE (i := 3) (j := 4) (fun _ => true) (fun j => nN ((step1 nd i).getD j 0)) (ea_one (ev_var rfl)) (sq_of (e57 _ _ hN)) hz (fun _ _ => rfl)
          (fun j x H8 e8 hx => et_yes) (fun j x H8 e8 hx _ => ?_) Hx ex Qx (fun r H8 h1 h2 h3 => qx r H8 h1 h2 ?_)) fun lA H8 _ e8 hlA => ?_
        · obtain ⟨k, hk, rfl⟩ := lN_inv hx
          obtain ⟨q1, q2⟩ := step1_int hk hi' hpos
          rw [getD_of q1]
          unfold nN
          rw [← q2]
          exact ev_op (ev_var rfl) (ev_bit (ev_var rfl) (ev_var rfl)) rv_I0
        · rw [h3, lN_len, ← step1_length nd i, given_of (step1 nd i) nN _ (fun j k hk => by rw [getD_of hk])]
          rfl
        have e58 := e57.trans e8
        have hP8 := hP.mono e58
        have hl8 : (step1 nd i).length = s.lots.length := by rw [step1_length, hl]
        have hf8 : g + (t + 1) = Kh430.horizon s := by omega
        have po8 := e58 _ _ po
        -- rest = self.plan_from(hour + 1, left)
        have args : EvA (tCons (tOp (rI0 fun i j => V.int (i + j)) (tVar 1) (tC (V.int 1))) (tCons (tVar 9) tNil)) ([some (.ref p), some (nN t), some (.ref N), v3, v4, some (.ref cA), some (nN (min s.capacity (cand2 nd).length)), some (V.int (i : Int)), some (.ref mA), some (.ref lA), v10]) H8 [nN (t + 1), .ref lA] := ea_two (ev_op (ev_var rfl) ev_c rv_I0) (ev_var rfl)
        cases hsp : Kh430.searchPlan s g (t + 1) (step1 nd i) with
        | none =>
          refine q_asg (ev_meth (ev_var rfl) po8 (p_no rfl) args (spv_planFrom hP8 ok hlA hl8 hf8 hsp)) fun H9 e9 => ?_
          refine s_when (b := false) (et_is (et_test (ev_notN (ev_var rfl))) rfl) (fun z => by cases z) (fun _ H10 e10 => ?_)
          refine ⟨_, _, _, _, _, _, rfl, (e58.trans e9).trans e10, fun j hj hpj => ?_⟩
          by_cases q : j = i
          · subst q
            rw [hsp]
            rfl
          · exact hnone j (by omega) hpj
        | some rest =>
          refine q_asgN (P := fun r H => H r = some (.lst (lN rest))) (en_meth (ev_var rfl) po8 (p_no rfl) args (fun Hx ex Qx qx E => spl_planFrom hP8 ok hlA hl8 hf8 hsp Hx ex Qx qx E)) fun rA H9 _ e9 hrA => ?_
          refine s_when (b := true) (et_is (et_test (ev_notN (ev_var rfl))) rfl) (fun _ H10 e10 => ?_) (fun z => by cases z)
          have e510 := (e58.trans e9).trans e10
          have hlen : rest.length = g := search_len _ _ _ _ hsp
          have h6 := horizon_six ok
          refine s_retL (el_cat (el_lst (ea_one (ev_var rfl)) (by show 1 ≤ 100000; decide)) (ev_var rfl) (e10 _ _ hrA) (by rw [lN_len]; show 1 + rest.length ≤ 100000; omega)) fun r H11 h11 e11 hr11 => ?_
          refine kL (i :: rest) ?_ r H11 (fresh_back e510 h11) (e510.trans e11) hr11
          rw [sg]
          exact some_hit (i := i) hi' hb (by rw [hsp]; rfl) fun j hj hpj => hnone j hj hpj
      · refine ⟨_, _, _, _, _, _, rfl, e56.trans e7, fun j hj hpj => ?_⟩
        by_cases q : j = i
        · subst q
          rw [hb] at hpj
          cases hpj
        · exact hnone j (by omega) hpj
    · rintro σ' H5 ⟨v3, v4, v7, v8, v9, v10, rfl, e5, hnone⟩
      refine s_ret ev_c fun H6 e6 => kN ?_ H6 (e5.trans e6)
      rw [sg]
      exact some_miss fun j hj hpj => hnone j (by omega) hpj
/-- no promise at all -/
theorem fn_none {k : Nat} {f : Addr} {fd : FuncData} {ps : List Str} {CX : CXT} : FnOk P w K mg base CX k f fd ps (fun _ _ _ _ => False) := ⟨fun _ _ _ _ h => h.elim, fun _ _ _ _ _ _ _ _ _ _ _ _ _ h => h.elim⟩
theorem ok_pf (T : Txt K mg A) : ∀ f : Nat, FnOk P w K mg base CX0 (f + 2) A.f_Planner_plan_from A.d_Planner_plan_from ["self", "hour", "needs"] (spPlanFrom A f)
  | 0 => pf_body T 0 (fun _ _ _ _ => False) fn_none fun g h => by cases h
  | f + 1 => pf_body T (f + 1) (spPlanFrom A f) (ok_pf T f) fun g h => by cases h; rfl
def spPlanAny (A : Ad) : Sp := fun vs H Q E => ∃ f, f ≤ 6 ∧ spPlanFrom A f vs H Q E
theorem ok_Planner_plan_from (T : Txt K mg A) : FnOk P w K mg base CX0 8 A.f_Planner_plan_from A.d_Planner_plan_from ["self", "hour", "needs"] (spPlanAny A) :=
  ⟨fun vs H Q E ⟨f, _, h⟩ => (ok_pf (P := P) (w := w) (base := base) T f).len vs H Q E h, fun Ar outer s H args us vs Q E hr he hb hv ⟨f, hf, h⟩ => ((ok_pf T f).mono (by omega)).run Ar outer s H args us vs Q E hr he hb hv h⟩
theorem ok_Planner_plan_for (T : Txt K mg A) : FnOk P w K mg base CX0 9 A.f_Planner_plan_for A.d_Planner_plan_for ["self", "mask"] (spPlaFor A) := by
  refine T.F_Planner_plan_for.ok sc_Planner_plan_for (fun vs H Q E h => ?_) (fun cdv Ar outer s H vs Q E hr h => ⟨_, (pss_cons (ps_setLc (i := 2) (own := [("one", 3)]) (g := gName 3) rfl sc_Planner_plan_for.nd rfl rfl (sw_true rfl rfl rfl (by decide +kernel)) (pi_range1 rfl T.z_range (pa_cons (pe_callB call_len_seq rfl T.z_len (by decide +kernel) (by exact (pa_cons (pe_fld (pv 0) rfl) pa_nil))) pa_nil)) (blkOk_by (N := ["self", "mask", "needs", "one"]) (sc := defScope s_Planner_plan_for) (by decide +kernel)) (fun _ _ _ _ _ => pg_name (i := 3) sc_Planner_plan_for.nd rfl (Or.inl rfl)) (fun _ _ _ _ _ => (by exact (pts_nil))) (fun _ _ _ _ _ => (by exact (pe_ifExp (pt_cmpR op_eq (pe_op op_and (pe_op op_shr (pv 1) (pv 3)) pe_int) pe_int (nomark _)) (pe_ix (ix_listK (K := K) rfl) (pe_fldK (K := K) rfl (pv 0) rfl) (pv 3) (fun _ _ => rfl)) pe_int)))) (pss_cons (ps_if (pt_cmpR op_lt (pe_callBK (cr_minD rfl) rfl T.z_min (by decide +kernel) (by exact (pa_cons (pv 2) pa_nil)) (pk_cons pe_int pk_nil)) pe_int (nomark _)) (pss_one (ps_ret pe_non)) pss_nil) (pss_one (ps_ret (pe_meth (pv 0) T.l_Planner T.m_Planner_plan_from (ok_Planner_plan_from T) (hr.mono (by decide)) T.b_Planner_plan_from .nil pass0 (by exact (pa_cons pe_int (pa_cons (pv 2) pa_nil)))))))), ?_⟩)
  · obtain ⟨p, s, m, rfl, _⟩ := h
    rfl
  · obtain ⟨p, s, m, rfl, ⟨dx, L, N, po, hLs, hN⟩, ok, kN, kL⟩ := h
    obtain ⟨ws, hw, hwl⟩ := hLs.list
    have hP : PlaAt A H p s := ⟨dx, L, N, po, hLs, hN⟩
    have n4 := ok.n4
    -- needs = [self.needs[one] if mask >> one & 1 == 1 else 0 for one in range(len(self.lots))]
    refine q_asgL (xs := ((List.range s.lots.length).map (wantI s m)).map V.int) (fun Hx ex Qx qx => el_lcR1 (j := 3) (n := ((ws.length : Nat) : Int)) (fun _ => true) (fun i => .int (wantI s m i)) (ea_one (ev_len2 (ev_fld (ev_var rfl) po T.l_Planner T.n_Planner_lots p_lots) (sq_of hw))) ⟨by omega, by omega⟩ (fun _ => rfl)
      (fun i H1 e1 _ => et_yes) (fun i H1 e1 hi _ => ?_) Hx ex Qx (fun r H1 h1 h2 h3 => qx r H1 h1 h2 ?_)) fun nA H1 _ e1 hnA => ?_
    · have hi' : i < s.lots.length := by omega
      have hnv : (needsV s)[i]? = some (.int (needI s (Kh430.lotAt s i))) := by
        unfold needsV
        rw [List.getElem?_map, get_lotAt hi']
        rfl
      refine ev_if (et_bit (ev_var rfl) (ev_var rfl)) (fun hb => ?_) (fun hb => ?_)
      · have e : wantI s m i = needI s (Kh430.lotAt s i) := if_pos hb
        rw [e]
        exact ev_op (ev_fld (ev_var rfl) (e1 _ _ po) T.l_Planner T.n_Planner_needs p_needs) (ev_var rfl) (rv_ixL (sq_of (e1 _ _ hN)) (atI_get hnv))
      · have e : wantI s m i = 0 := if_neg (by rw [hb]; exact Bool.false_ne_true)
        rw [e]
        exact ev_c
    · rw [h3, Int.toNat_natCast, hwl, given_all, List.map_map]
      rfl
    -- if min(needs, default=0) < 0: return None
    obtain ⟨M, hM⟩ := minD_ex 0 ((List.range s.lots.length).map (wantI s m))
    have hb := min_bad (s := s) (m := m) (M := M) (fun z => hM.1 (by rw [z]; rfl)) (fun z => by
      obtain ⟨m1, m2⟩ := hM.2 (fun y => z (by
        have := congrArg List.length y
        rw [List.length_map, List.length_range] at this
        exact this))
      obtain ⟨i, hi, ei⟩ := List.mem_map.mp m1
      exact ⟨⟨i, List.mem_range.mp hi, ei.symm⟩, fun i hi => m2 _ (List.mem_map.mpr ⟨i, List.mem_range.mpr hi, rfl⟩)⟩)
    refine q_when (b := decide (M < 0)) (et_test (ev_op (ev_minD (ev_var rfl) (sq_of hnA) hM) ev_c rv_I0)) (fun h0 H2 e2 => ?_) (fun h0 H2 e2 => ?_)
    · refine s_ret ev_c fun H3 e3 => kN (hb.1 (of_decide_eq_true h0)) H3 ((e1.trans e2).trans e3)
    -- return self.plan_from(0, needs)
    obtain ⟨hpf, hw2⟩ := hb.2 (of_decide_eq_false h0)
    have e12 := e1.trans e2
    have hnA2 : H2 nA = some (.lst (lN (wants s m))) := by
      rw [e2 _ _ hnA]
      congr 2
      unfold lN wants
      rw [List.map_map, List.map_map]
      apply List.map_congr_left
      intro i hi
      show V.int (wantI s m i) = nN _
      rw [hw2 i (List.mem_range.mp hi)]
      rfl
    have h6 := horizon_six ok
    have args : EvA (tCons (tC (V.int 0)) (tCons (tVar 2) tNil)) ([some (.ref p), some (nN m), some (.ref nA), none]) H2 [nN 0, .ref nA] := ea_two ev_c (ev_var rfl)
    cases hsp : Kh430.searchPlan s (Kh430.horizon s) 0 (wants s m) with
    | none =>
      refine s_ret (ev_meth (ev_var rfl) (e12 _ _ po) (p_no rfl) args (fun Hx ex Qx qx E => ⟨_, h6, spv_planFrom (hP.mono e12) ok hnA2 (wants_length s m) rfl hsp Hx ex Qx qx E⟩)) fun H3 e3 => kN (by rw [hpf, hsp]) H3 (e12.trans e3)
    | some r =>
      refine s_retN (P := fun q H => H q = some (.lst (lN r))) (en_meth (ev_var rfl) (e12 _ _ po) (p_no rfl) args (fun Hx ex Qx qx E => ⟨_, h6, spl_planFrom (hP.mono e12) ok hnA2 (wants_length s m) rfl hsp Hx ex Qx qx E⟩)) fun q H3 h3 e3 hq => kL r (by rw [hpf, hsp]) q H3 (fresh_back e12 h3) (e12.trans e3) hq
theorem ok_Planner_largest_set (T : Txt K mg A) : FnOk P w K mg base CX0 10 A.f_Planner_largest_set A.d_Planner_largest_set ["self"] (spPlaLargest A) := by
  refine T.F_Planner_largest_set.ok sc_Planner_largest_set (fun vs H Q E h => ?_) (fun cdv Ar outer s H vs Q E hr h => ⟨_, (pss_cons (ps_set (i := 1) sc_Planner_largest_set.nd rfl (Or.inl rfl) pe_int) (pss_cons (ps_for PassesOwn.never rfl (pi_range1 rfl T.z_range (pa_cons (pe_op op_shl pe_int (pe_callB call_len_seq rfl T.z_len (by decide +kernel) (by exact (pa_cons (pe_fld (pv 0) rfl) pa_nil)))) pa_nil)) (pg_name (i := 2) sc_Planner_largest_set.nd rfl (Or.inl rfl)) (pss_one (ps_if (PW.pt (pw_and (pt_cmpR op_gt (pe_callB call_len_seq rfl T.z_len (by decide +kernel) (by exact (pa_cons (pe_call (ok_members_of T) (hr.mono (by decide)) rfl T.g_members_of T.F_members_of.kp T.b_members_of .nil pass0 (by exact (pa_cons (pv 2) pa_nil))) pa_nil))) (pe_callB call_len_seq rfl T.z_len (by decide +kernel) (by exact (pa_cons (pe_call (ok_members_of T) (hr.mono (by decide)) rfl T.g_members_of T.F_members_of.kp T.b_members_of .nil pass0 (by exact (pa_cons (pv 1) pa_nil))) pa_nil))) (nomark _)) (pw_and1 (pt_cmpR op_notN (pe_meth (pv 0) T.l_Planner T.m_Planner_plan_for (ok_Planner_plan_for T) (hr.mono (by decide)) T.b_Planner_plan_for .nil pass0 (by exact (pa_cons (pv 2) pa_nil))) pe_non (nomark _))))) (pss_one (ps_set (i := 1) sc_Planner_largest_set.nd rfl (Or.inl rfl) (pv 2))) pss_nil))) (pss_one (ps_ret (pv 1))))), ?_⟩)
  · obtain ⟨p, s, rfl, _⟩ := h
    rfl
  · obtain ⟨p, s, rfl, ⟨dx, L, N, po, hLs, hN⟩, ok, k⟩ := h
    obtain ⟨ws, hw, hwl⟩ := hLs.list
    have hP : PlaAt A H p s := ⟨dx, L, N, po, hLs, hN⟩
    have n4 := ok.n4
    have hpow : 2 ^ ws.length ≤ 16 := by
      have : ws.length ≤ 4 := by omega
      exact Nat.pow_le_pow_right (by decide) this
    refine q_asg ev_c fun H1 e1 => ?_
    refine q_forR1 (j := 2) (n := ((2 ^ ws.length : Nat) : Int)) (ea_one (ev_is (ev_shl (n := ws.length) (ev_len2 (ev_fld (ev_var rfl) (e1 _ _ po) T.l_Planner T.n_Planner_lots p_lots) (sq_of (e1 _ _ hw))) (by omega)) rfl)) ⟨Int.natCast_nonneg _, Int.le_trans (Int.ofNat_le.mpr hpow) (by decide)⟩
      (fun i σ' H' => ∃ a, σ' = [some (.ref p), some (nN (best s i)), a] ∧ Ex H H') (fun H2 e2 => ⟨_, rfl, e1.trans e2⟩) ?_ ?_
    · rintro i σ' H2 hi ⟨v2, rfl, e2⟩
      have hi' : i < 2 ^ s.lots.length := by rw [← hwl]; omega
      have hbest : best s i < 2 ^ s.lots.length := best_le s i (Nat.le_of_lt hi')
      have b1 : bl i ≤ s.lots.length := bl_le hi'
      have b2 : bl (best s i) ≤ s.lots.length := bl_le hbest
      have s1 : (membersOf i).length = siz s i := by rw [members_eq hi']; rfl
      have s2 : (membersOf (best s i)).length = siz s (best s i) := by rw [members_eq hbest]; rfl
      have body : ∀ t : TT, EvT t [some (.ref p), some (nN (best s i)), some (V.int (i : Int))] H2 (decide (siz s (best s i) < siz s i) && Kh430.canLast s i) → ∀ D : Ends, (D.nx = fun σ H' => ∃ a, σ = [some (V.ref p), some (nN (best s (i + 1))), a] ∧ Ex H H') →
          tIfS t (tAsg (tVar 2) (gName 1)) tNext D [some (.ref p), some (nN (best s i)), some (V.int (i : Int))] H2 := fun t ht D hD => by
        refine s_when ht (fun hb H3 e3 => ?_) (fun hb H3 e3 => ?_)
        · refine s_asg (ev_var rfl) fun H4 e4 => ?_
          rw [hD]
          have : best s (i + 1) = i := if_pos hb
          rw [this]
          exact ⟨_, rfl, (e2.trans e3).trans e4⟩
        · rw [hD]
          have : best s (i + 1) = best s i := if_neg (by rw [hb]; exact Bool.false_ne_true)
          rw [this]
          exact ⟨_, rfl, e2.trans e3⟩
      refine body _ (et_is (et_and (a := decide (siz s (best s i) < siz s i)) (b := Kh430.canLast s i) (et_is (et_test (ev_op (ev_lenL (el_call (ea_one (ev_var rfl)) (spl_members (m := i) (by omega)))) (ev_lenL (el_call (ea_one (ev_var rfl)) (spl_members (m := best s i) (by omega)))) rv_I0)) ?_) (fun _ => ?_)) rfl) _ rfl
      · rw [lN_len, lN_len, s1, s2]
        exact decide_eq_decide.mpr (by omega)
      · cases hp : Kh430.planFor s i with
        | none =>
          refine et_is (et_test (ev_notN (ev_meth (ev_var rfl) (e2 _ _ po) (p_no rfl) (ea_one (ev_var rfl)) (spv_plaFor (m := i) (hP.mono e2) ok hp)))) ?_
          unfold Kh430.canLast
          rw [hp]
          rfl
        | some r =>
          refine et_is (et_test (ev_notNn (P := fun q H => H q = some (.lst (lN r))) (en_meth (ev_var rfl) (e2 _ _ po) (p_no rfl) (ea_one (ev_var rfl)) (fun Hx ex Qx qx E => spl_plaFor (m := i) (hP.mono e2) ok hp Hx ex Qx qx E)))) ?_
          unfold Kh430.canLast
          rw [hp]
          rfl
    · rintro σ' H2 ⟨v2, rfl, e2⟩
      refine s_ret (ev_var rfl) fun H3 e3 => ?_
      have : best s ((2 ^ ws.length : Nat) : Int).toNat = Kh430.largestLastingSet s := by rw [Int.toNat_natCast, hwl, best_is]
      rw [this]
      exact k H3 (e2.trans e3)
end
end Cold

namespace Cold
open PySem PySem.Spec PyProof.Rows L2 Evl
/-! ### the storage's queries, the short ones -/
theorem lN_append (l l' : List Nat) : lN (l ++ l') = lN l ++ lN l' := by simp [lN]
section
variable {K : PySem.W.Frag} {σ : L2.St} {H : Hp} {ta te : TE} {D : Ends} {tz : TS}
/-- xs.extend(ys), ys new -/
theorem s_ext {l : Addr} {xs ys : List V} (hl : H l = some (.lst xs)) (ha : Ev ta σ H (.ref l)) (h : EvL te σ H ys) (hz : xs.length + ys.length ≤ sizeLine) (k : ∀ p H1, H p = none → Ex H H1 → H1 p = some (.lst ys) → D.nx σ (upd H1 l (.lst (xs ++ ys)))) :
    tDrop (tBM K "list" rExtend ta (tCons te tNil)) D σ H := ha H (Ex.refl H) _ fun H1 e1 =>
  ⟨Or.inl ⟨rfl, xs, sq_of (e1 l _ hl)⟩, h H1 e1 _ fun p H2 hp e2 h2 => ⟨l, p, xs, ys, rfl, rfl, e2 l _ (e1 l _ hl), h2, hz, k p H2 (fresh_back e1 hp) (e1.trans e2) h2⟩⟩
theorem s_extV {l b : Addr} {xs ys : List V} (hl : H l = some (.lst xs)) (ha : Ev ta σ H (.ref l)) (h : Ev te σ H (.ref b)) (hb : H b = some (.lst ys)) (hz : xs.length + ys.length ≤ sizeLine) (k : ∀ H1, Ex H H1 → D.nx σ (upd H1 l (.lst (xs ++ ys)))) :
    tDrop (tBM K "list" rExtend ta (tCons te tNil)) D σ H := ha H (Ex.refl H) _ fun H1 e1 =>
  ⟨Or.inl ⟨rfl, xs, sq_of (e1 l _ hl)⟩, h H1 e1 _ fun H2 e2 => ⟨l, b, xs, ys, rfl, rfl, e2 l _ (e1 l _ hl), e2 b _ (e1 b _ hb), hz, k H2 (e1.trans e2)⟩⟩
end
theorem lI_with (a : Nat) (l : List Nat) : lI (res (Kh430.withValues a l)) = nN a :: lN l := by
  rw [lN_eq]
  rfl
theorem lI_single (c : Int) : lI (res (Kh430.single c)) = [.int c] := rfl
section
variable {A : Ad} {r : Kh430.Result} {H H' : Hp} {Q : VK} {E : XK}
theorem AnsQ.yes (k : AnsQ A r H Q E) {r' : Kh430.Result} (e : r = r') (h : 0 ≤ r'.status) {xs : List V} (ex : lI (res r') = xs) : RetL xs H Q := by
  subst e ex
  exact k.1 h
theorem AnsQ.no (k : AnsQ A r H Q E) {c : Int} (e : r = Kh430.single c) (h : c < 0) : RetE A c H E := by
  subst e
  exact k.2 h
/-- a new planner, its methods -/
theorem en_pla {K : PySem.W.Frag} {σ : L2.St} {tA : TA} {a L : Addr} {s : Kh430.Store} {k : Nat} (h : StoAt A H a L s) (ok : Ok s) (ha : EvA tA σ H [.ref a, nN k]) : EvN (tMake A.c_Planner (spPlaInit A) [] E tA) σ H (fun p H2 => PlaAt A H2 p { s with capacity := k }) :=
  en_make ha (ini_pla h ok)
theorem PlaAt.obj {p : Addr} {s : Kh430.Store} (h : PlaAt A H p s) {m : Str} (hm : (["lots", "needs", "capacity", "hours"] : List Str).all (fun g => !(m == g)) = true) : ∃ dx fs, H p = some (.ins A.c_Planner dx fs) ∧ fs.lookup m = none := by
  obtain ⟨dx, L, N, po, _⟩ := h
  exact ⟨dx, _, po, p_no hm⟩
theorem ev_plan {σ : L2.St} {tm : TE} {tA : TA} {s : Kh430.Store} {m : Nat} {E : XK} (h : EvN tm σ H (fun p H2 => PlaAt A H2 p s)) (ok : Ok s) (ha : EvA tA σ H [nN m]) (e : Kh430.planFor s m = none) : Ev (tMeth A.c_Planner "plan_for" (spPlaFor A) [] E tm tA) σ H .non :=
  ev_methN h (fun p H2 e2 hp => hp.obj rfl) (fun p H2 e2 hp => ha.mono e2) (fun p H2 e2 hp => spv_plaFor hp ok e)
theorem en_plan {σ : L2.St} {tm : TE} {tA : TA} {s : Kh430.Store} {m : Nat} {E : XK} {r : List Nat} (h : EvN tm σ H (fun p H2 => PlaAt A H2 p s)) (ok : Ok s) (ha : EvA tA σ H [nN m]) (e : Kh430.planFor s m = some r) : EvN (tMeth A.c_Planner "plan_for" (spPlaFor A) [] E tm tA) σ H (fun q H2 => H2 q = some (.lst (lN r))) :=
  en_methN h (fun p H2 e2 hp => hp.obj rfl) (fun p H2 e2 hp => ha.mono e2) (fun p H2 e2 hp Hx ex Qx qx E => spl_plaFor hp ok e Hx ex Qx qx E)
theorem ev_large {σ : L2.St} {tm : TE} {s : Kh430.Store} {E : XK} (h : EvN tm σ H (fun p H2 => PlaAt A H2 p s)) (ok : Ok s) : Ev (tMeth A.c_Planner "largest_set" (spPlaLargest A) [] E tm tNil) σ H (nN (Kh430.largestLastingSet s)) :=
  ev_methN h (fun p H2 e2 hp => hp.obj rfl) (fun p H2 e2 hp => ea_nil) (fun p H2 e2 hp => spv_largest hp ok)
end
section
variable {P : Program} {w : World} {K : PySem.W.Frag} {mg : Str → Option Value} {base : Heap} {A : Ad}
theorem ok_Storage_plan_for (T : Txt K mg A) : FnOk P w K mg base (L2.CX P w) 11 A.f_Storage_plan_for A.d_Storage_plan_for ["self", "mask"] (spQ1 A .planFor) := by
  refine T.F_Storage_plan_for.okX sc_Storage_plan_for (fun vs H Q E h => ?_) (fun cdv Ar outer s H vs Q E hr h => ⟨_, (pss_cons (ps_expr (pe_call (ok_check_mask T) (hr.mono (by decide)) rfl T.g_check_mask T.F_check_mask.kp T.b_check_mask .nil (passes_call (takes_of rfl rfl rfl rfl) (fun _ _ _ _ z => z)) (by exact (pa_cons (pv 1) (pa_cons (pe_callB call_len_seq rfl T.z_len (by decide +kernel) (by exact (pa_cons (pe_fld (pv 0) rfl) pa_nil))) pa_nil))))) (pss_cons (ps_set (i := 2) sc_Storage_plan_for.nd rfl (Or.inl rfl) (pe_meth (pe_make T.m_Planner (ok_Planner_init T) (hr.mono (by decide)) rfl T.g_Planner T.b_Planner_init .nil pass0 (by exact (pa_cons (pv 0) (pa_cons (pe_fld (pv 0) rfl) pa_nil)))) T.l_Planner T.m_Planner_plan_for (ok_Planner_plan_for T) (hr.mono (by decide)) T.b_Planner_plan_for .nil pass0 (by exact (pa_cons (pv 1) pa_nil)))) (pss_cons (ps_expr (pe_call (ok_check T) (hr.mono (by decide)) rfl T.g_check T.F_check.kp T.b_check .nil (passes_call (takes_of rfl rfl rfl rfl) (fun _ _ _ _ z => z)) (by exact (pa_cons (pe_cmpR op_notN (pv 2) pe_non (nomark _)) (pa_cons (pe_gint rfl T.k_IMPOSSIBLE) pa_nil))))) (pss_one (ps_ret (pe_op op_cat (pe_lst (pa_cons (pe_callB call_len_seq rfl T.z_len (by decide +kernel) (by exact (pa_cons (pv 2) pa_nil))) pa_nil)) (pv 2))))))), ?_⟩)
  · obtain ⟨a, L, s, m, rfl, _⟩ := h
    rfl
  · obtain ⟨a, L, s, m, rfl, hS, ok, k⟩ := h
    obtain ⟨dx, so⟩ := hS.obj
    obtain ⟨ws, hw, hwl⟩ := hS.lots.list
    have n4 := ok.n4
    refine q_chk (ea_two (ev_var rfl) (ev_len2 (ev_fld (ev_var rfl) so T.l_Storage T.n_Storage_lots s_lots) (sq_of hw))) (chk_mask (n := ws.length) (by omega)) (fun hm H1 e1 => ?_) (fun hm => k.no (if_pos (decide_eq_false (by rw [← hwl]; exact of_decide_eq_false hm))) (by decide))
    have hm' : m < 2 ^ s.lots.length := by rw [← hwl]; exact of_decide_eq_true hm
    have er : (Kh430.apply s (.planFor m)).2 = Kh430.planResult (Kh430.planFor s m) := if_neg (by unfold Kh430.isSet; rw [decide_eq_true hm']; exact Bool.noConfusion)
    have hpl := en_pla (K := K) (E := E0) (hS.mono e1) ok (tA := tCons (tVar 0) (tCons (tFld K (tVar 0) "capacity") tNil)) (σ := [some (.ref a), some (nN m), none]) (ea_two (ev_var rfl) (ev_fld (ev_var rfl) (e1 _ _ so) T.l_Storage T.n_Storage_capacity s_cap))
    cases hp : Kh430.planFor s m with
    | none =>
      refine q_asg (ev_plan hpl ok (ea_one (ev_var rfl)) hp) fun H2 e2 => ?_
      refine q_chk (ok := false) (ea_two (ev_is (ev_notN (ev_var rfl)) rfl) ev_c) chk_check (fun z => by cases z) (fun _ => ((k.no (by rw [er, hp]; rfl) (by decide)).mono e1).mono e2)
    | some r =>
      refine q_asgN (en_plan hpl ok (ea_one (ev_var rfl)) hp) fun q H2 hq e2 h2 => ?_
      refine q_chk (ok := true) (ea_two (ev_is (ev_notN (ev_var rfl)) rfl) ev_c) chk_check (fun _ H3 e3 => ?_) (fun z => by cases z)
      have hlen : r.length ≤ 6 := by rw [planFor_len hp]; exact horizon_six ok
      refine s_retL (el_cat (el_lst (ea_one (ev_len2 (ev_var rfl) (sq_of (e3 _ _ h2)))) (by show 1 ≤ 100000; decide)) (ev_var rfl) (e3 _ _ h2) (by rw [lN_len]; show 1 + r.length ≤ 100000; omega)) ?_
      refine fun p H4 hp4 e4 h4 => (k.yes (r' := Kh430.withValues r.length r) (by rw [er, hp]; rfl) (Int.natCast_nonneg _) (lI_with _ _)) p H4 (fresh_back ((e1.trans e2).trans e3) hp4) (((e1.trans e2).trans e3).trans e4) ?_
      rw [h4, lN_len]
      rfl
theorem ok_Storage_can_last (T : Txt K mg A) : FnOk P w K mg base (L2.CX P w) 11 A.f_Storage_can_last A.d_Storage_can_last ["self", "mask"] (spQ1 A .canLast) := by
  refine T.F_Storage_can_last.okX sc_Storage_can_last (fun vs H Q E h => ?_) (fun cdv Ar outer s H vs Q E hr h => ⟨_, (pss_cons (ps_expr (pe_call (ok_check_mask T) (hr.mono (by decide)) rfl T.g_check_mask T.F_check_mask.kp T.b_check_mask .nil (passes_call (takes_of rfl rfl rfl rfl) (fun _ _ _ _ z => z)) (by exact (pa_cons (pv 1) (pa_cons (pe_callB call_len_seq rfl T.z_len (by decide +kernel) (by exact (pa_cons (pe_fld (pv 0) rfl) pa_nil))) pa_nil))))) (pss_one (ps_ret (pe_lst (pa_cons (pe_ifExp (pt_cmpR op_isN (pe_meth (pe_make T.m_Planner (ok_Planner_init T) (hr.mono (by decide)) rfl T.g_Planner T.b_Planner_init .nil pass0 (by exact (pa_cons (pv 0) (pa_cons (pe_fld (pv 0) rfl) pa_nil)))) T.l_Planner T.m_Planner_plan_for (ok_Planner_plan_for T) (hr.mono (by decide)) T.b_Planner_plan_for .nil pass0 (by exact (pa_cons (pv 1) pa_nil))) pe_non (nomark _)) pe_int pe_int) pa_nil))))), ?_⟩)
  · obtain ⟨a, L, s, m, rfl, _⟩ := h
    rfl
  · obtain ⟨a, L, s, m, rfl, hS, ok, k⟩ := h
    obtain ⟨dx, so⟩ := hS.obj
    obtain ⟨ws, hw, hwl⟩ := hS.lots.list
    have n4 := ok.n4
    refine q_chk (ea_two (ev_var rfl) (ev_len2 (ev_fld (ev_var rfl) so T.l_Storage T.n_Storage_lots s_lots) (sq_of hw))) (chk_mask (n := ws.length) (by omega)) (fun hm H1 e1 => ?_) (fun hm => k.no (if_pos (decide_eq_false (by rw [← hwl]; exact of_decide_eq_false hm))) (by decide))
    have hm' : m < 2 ^ s.lots.length := by rw [← hwl]; exact of_decide_eq_true hm
    have er : (Kh430.apply s (.canLast m)).2 = Kh430.ofBool (Kh430.canLast s m) := if_neg (by unfold Kh430.isSet; rw [decide_eq_true hm']; exact Bool.noConfusion)
    have hpl := en_pla (K := K) (E := E0) (hS.mono e1) ok (tA := tCons (tVar 0) (tCons (tFld K (tVar 0) "capacity") tNil)) (σ := [some (.ref a), some (nN m)]) (ea_two (ev_var rfl) (ev_fld (ev_var rfl) (e1 _ _ so) T.l_Storage T.n_Storage_capacity s_cap))
    have hv : Kh430.canLast s m = (Kh430.planFor s m).isSome := rfl
    cases hp : Kh430.planFor s m with
    | none =>
      refine s_retL (el_lst (ea_one (ev_if (b := true) (et_is (et_test (ev_isN (ev_plan hpl ok (ea_one (ev_var rfl)) hp))) rfl) (fun _ => ev_c) (fun z => by cases z))) (by show 1 ≤ 100000; decide)) fun p H2 h2 e2 hp2 => ?_
      exact (k.yes (r' := Kh430.single 0) (by rw [er, hv, hp]; rfl) (by decide) rfl) p H2 (fresh_back e1 h2) (e1.trans e2) hp2
    | some r =>
      refine s_retL (el_lst (ea_one (ev_if (b := false) (et_is (et_test (ev_isNn (en_plan hpl ok (ea_one (ev_var rfl)) hp))) rfl) (fun z => by cases z) (fun _ => ev_c))) (by show 1 ≤ 100000; decide)) fun p H2 h2 e2 hp2 => ?_
      exact (k.yes (r' := Kh430.single 1) (by rw [er, hv, hp]; rfl) (by decide) rfl) p H2 (fresh_back e1 h2) (e1.trans e2) hp2
theorem ok_Storage_largest_set (T : Txt K mg A) : FnOk P w K mg base CX0 11 A.f_Storage_largest_set A.d_Storage_largest_set ["self"] (spQ0 A .largestLastingSet) := by
  refine T.F_Storage_largest_set.ok sc_Storage_largest_set (fun vs H Q E h => ?_) (fun cdv Ar outer s H vs Q E hr h => ⟨_, (pss_cons (ps_set (i := 1) sc_Storage_largest_set.nd rfl (Or.inl rfl) (pe_call (ok_members_of T) (hr.mono (by decide)) rfl T.g_members_of T.F_members_of.kp T.b_members_of .nil pass0 (by exact (pa_cons (pe_meth0 (pe_make T.m_Planner (ok_Planner_init T) (hr.mono (by decide)) rfl T.g_Planner T.b_Planner_init .nil pass0 (by exact (pa_cons (pv 0) (pa_cons (pe_fld (pv 0) rfl) pa_nil)))) T.l_Planner T.m_Planner_largest_set (ok_Planner_largest_set T) (hr.mono (by decide)) T.b_Planner_largest_set .nil pass0) pa_nil)))) (pss_one (ps_ret (pe_op op_cat (pe_lst (pa_cons (pe_callB call_len_seq rfl T.z_len (by decide +kernel) (by exact (pa_cons (pv 1) pa_nil))) pa_nil)) (pv 1))))), ?_⟩)
  · obtain ⟨a, L, s, rfl, _⟩ := h
    rfl
  · obtain ⟨a, L, s, rfl, hS, ok, k⟩ := h
    obtain ⟨dx, so⟩ := hS.obj
    have n4 := ok.n4
    have hpl := en_pla (K := K) (E := E0) hS ok (tA := tCons (tVar 0) (tCons (tFld K (tVar 0) "capacity") tNil)) (σ := [some (.ref a), none]) (ea_two (ev_var rfl) (ev_fld (ev_var rfl) so T.l_Storage T.n_Storage_capacity s_cap))
    have hlt := largest_lt s
    have hbl := bl_le hlt
    refine q_asgL (el_call (ea_one (ev_large hpl ok)) (spl_members (m := Kh430.largestLastingSet s) (by omega))) fun q H1 hq e1 h1 => ?_
    have hle := members_len s.lots.length (Kh430.largestLastingSet s)
    have hme := members_eq hlt
    refine s_retL (el_cat (el_lst (ea_one (ev_len2 (ev_var rfl) (sq_of h1))) (by show 1 ≤ 100000; decide)) (ev_var rfl) h1 (by rw [lN_len, hme]; show 1 + _ ≤ 100000; omega)) fun p H4 hp4 e4 h4 => ?_
    refine (k.yes (r' := Kh430.withValues (Kh430.members s.lots.length (Kh430.largestLastingSet s)).length (Kh430.members s.lots.length (Kh430.largestLastingSet s))) rfl (Int.natCast_nonneg _) (lI_with _ _)) p H4 (fresh_back e1 hp4) (e1.trans e4) ?_
    rw [h4, lN_len, hme]
    rfl
theorem ok_Storage_largest_if_capacity (T : Txt K mg A) : FnOk P w K mg base (L2.CX P w) 11 A.f_Storage_largest_if_capacity A.d_Storage_largest_if_capacity ["self", "capacity"] (spQ1 A .largestSetIfCapacity) := by
  refine T.F_Storage_largest_if_capacity.okX sc_Storage_largest_if_capacity (fun vs H Q E h => ?_) (fun cdv Ar outer s H vs Q E hr h => ⟨_, (pss_cons (ps_expr (pe_call (ok_check T) (hr.mono (by decide)) rfl T.g_check T.F_check.kp T.b_check .nil (passes_call (takes_of rfl rfl rfl rfl) (fun _ _ _ _ z => z)) (by exact (pa_cons (pe_cmpR op_le (pv 1) (pe_gint rfl T.k_CAPACITY_AT_MOST) (nomark _)) (pa_cons (pe_gint rfl T.k_OUT_OF_RANGE) pa_nil))))) (pss_cons (ps_set (i := 2) sc_Storage_largest_if_capacity.nd rfl (Or.inl rfl) (pe_meth0 (pe_make T.m_Planner (ok_Planner_init T) (hr.mono (by decide)) rfl T.g_Planner T.b_Planner_init .nil pass0 (by exact (pa_cons (pv 0) (pa_cons (pv 1) pa_nil)))) T.l_Planner T.m_Planner_largest_set (ok_Planner_largest_set T) (hr.mono (by decide)) T.b_Planner_largest_set .nil pass0)) (pss_one (ps_ret (pe_lst (pa_cons (pe_callB call_len_seq rfl T.z_len (by decide +kernel) (by exact (pa_cons (pe_call (ok_members_of T) (hr.mono (by decide)) rfl T.g_members_of T.F_members_of.kp T.b_members_of .nil pass0 (by exact (pa_cons (pv 2) pa_nil))) pa_nil))) (pa_cons (pv 2) pa_nil))))))), ?_⟩)
  · obtain ⟨a, L, s, m, rfl, _⟩ := h
    rfl
  · obtain ⟨a, L, s, m, rfl, hS, ok, k⟩ := h
    have n4 := ok.n4
    refine q_chk (ok := decide ((m : Int) ≤ 4)) (ea_two (ev_op (ev_var rfl) ev_c rv_I0) ev_c) chk_check (fun hm H1 e1 => ?_) (fun hm => k.no (if_pos (by have := of_decide_eq_false hm; show 4 < m; omega)) (by decide))
    have hm' : m ≤ 4 := by have := of_decide_eq_true hm; omega
    have er : (Kh430.apply s (.largestSetIfCapacity m)).2 = Kh430.withValues (Kh430.members s.lots.length (Kh430.largestLastingSet { s with capacity := m })).length [Kh430.largestLastingSet { s with capacity := m }] := if_neg (by show ¬ 4 < m; omega)
    have ok2 := ok_cap ok hm'
    have hpl := en_pla (K := K) (E := E0) (hS.mono e1) ok (tA := tCons (tVar 0) (tCons (tVar 1) tNil)) (σ := [some (.ref a), some (nN m), none]) (ea_two (ev_var rfl) (ev_var rfl))
    have hlt := largest_lt { s with capacity := m }
    have hbl := bl_le hlt
    refine q_asg (ev_large hpl ok2) fun H2 e2 => ?_
    refine s_retL (el_lst (ea_two (ev_lenL (el_call (ea_one (ev_var rfl)) (spl_members (m := Kh430.largestLastingSet { s with capacity := m }) (by have : bl (Kh430.largestLastingSet { s with capacity := m }) ≤ s.lots.length := hbl; omega)))) (ev_var rfl)) (by show 2 ≤ 100000; decide)) fun p H4 hp4 e4 h4 => ?_
    refine (k.yes er (Int.natCast_nonneg _) (lI_with _ _)) p H4 (fresh_back (e1.trans e2) hp4) ((e1.trans e2).trans e4) ?_
    rw [h4, lN_len, members_eq hlt]
    rfl
theorem ok_Storage_min_capacity (T : Txt K mg A) : FnOk P w K mg base (L2.CX P w) 11 A.f_Storage_min_capacity A.d_Storage_min_capacity ["self"] (spQ0 A .minCapacity) := by
  refine T.F_Storage_min_capacity.okX sc_Storage_min_capacity (fun vs H Q E h => ?_) (fun cdv Ar outer s H vs Q E hr h => ⟨_, (pss_cons (ps_for (passes_of rfl) rfl (pi_range1 rfl T.z_range (pa_cons (pe_op op_add (pe_gint rfl T.k_LOTS_AT_MOST) pe_int) pa_nil)) (pg_name (i := 1) sc_Storage_min_capacity.nd rfl (Or.inl rfl)) (pss_one (ps_if (pt_cmpR op_notN (pe_meth (pe_make T.m_Planner (ok_Planner_init T) (hr.mono (by decide)) rfl T.g_Planner T.b_Planner_init .nil pass0 (by exact (pa_cons (pv 0) (pa_cons (pv 1) pa_nil)))) T.l_Planner T.m_Planner_plan_for (ok_Planner_plan_for T) (hr.mono (by decide)) T.b_Planner_plan_for .nil pass0 (by exact (pa_cons (pe_meth0 (pv 0) T.l_Storage T.m_Storage_all_lots (ok_Storage_all_lots T) (hr.mono (by decide)) T.b_Storage_all_lots .nil pass0) pa_nil))) pe_non (nomark _)) (pss_one (ps_ret (pe_lst (pa_cons (pv 1) pa_nil)))) pss_nil))) (pss_cons (ps_expr (pe_call (ok_check T) (hr.mono (by decide)) rfl T.g_check T.F_check.kp T.b_check .nil (passes_call (takes_of rfl rfl rfl rfl) (fun _ _ _ _ z => z)) (by exact (pa_cons pe_bl (pa_cons (pe_gint rfl T.k_IMPOSSIBLE) pa_nil))))) (pss_one (ps_ret (pe_lst pa_nil))))), ?_⟩)
  · obtain ⟨a, L, s, rfl, _⟩ := h
    rfl
  · obtain ⟨a, L, s, rfl, hS, ok, k⟩ := h
    obtain ⟨dx, so⟩ := hS.obj
    have er : (Kh430.apply s .minCapacity).2 = match (List.range 5).find? fun capacity => Kh430.canLast { s with capacity := capacity } (Kh430.allLots s) with
      | none => Kh430.single (-33)
      | some capacity => Kh430.single capacity := rfl
    refine q_forR1 (j := 1) (n := 5) (ea_one (ev_op ev_c ev_c rv_I0)) ⟨by decide, by decide⟩ (fun i σ' H' => ∃ v, σ' = [some (.ref a), v] ∧ Ex H H' ∧ ∀ j, j < i → Kh430.canLast { s with capacity := j } (Kh430.allLots s) = false)
      (fun H1 e1 => ⟨none, rfl, e1, fun j hj => absurd hj (Nat.not_lt_zero _)⟩) ?_ ?_
    · rintro i σ' H1 hi ⟨v, rfl, e1, hno⟩
      have hi' : i ≤ 4 := by omega
      have ok2 := ok_cap ok hi'
      have hpl := en_pla (K := K) (E := E0) (hS.mono e1) ok (tA := tCons (tVar 0) (tCons (tVar 1) tNil)) (σ := [some (.ref a), some (nN i)]) (ea_two (ev_var rfl) (ev_var rfl))
      have hall : EvA (tCons (tMeth A.c_Storage "all_lots" (spAllLots A) [] E0 (tVar 0) tNil) tNil) [some (.ref a), some (nN i)] H1 [nN (Kh430.allLots s)] := ea_one (ev_meth (ev_var rfl) (e1 _ _ so) (s_no rfl) ea_nil (spv_all (hS.mono e1) ok))
      have hv : Kh430.canLast { s with capacity := i } (Kh430.allLots s) = (Kh430.planFor { s with capacity := i } (Kh430.allLots s)).isSome := rfl
      cases hp : Kh430.planFor { s with capacity := i } (Kh430.allLots s) with
      | none =>
        refine s_when (b := false) (et_is (et_test (ev_notN (ev_plan hpl ok2 hall hp))) rfl) (fun z => by cases z) (fun _ H2 e2 => ⟨_, rfl, e1.trans e2, fun j hj => ?_⟩)
        by_cases q : j = i
        · rw [q, hv, hp]
          rfl
        · exact hno j (by omega)
      | some r =>
        refine s_when (b := true) (et_is (et_test (ev_notNn (en_plan hpl ok2 hall hp))) rfl) (fun _ H2 e2 => ?_) (fun z => by cases z)
        refine s_retL (el_lst (ea_one (ev_var rfl)) (by show 1 ≤ 100000; decide)) fun p H4 hp4 e4 h4 => ?_
        refine (k.yes (r' := Kh430.single (i : Nat)) ?_ (Int.natCast_nonneg _) rfl) p H4 (fresh_back (e1.trans e2) hp4) ((e1.trans e2).trans e4) h4
        rw [er, find_hit (p := fun capacity => Kh430.canLast { s with capacity := capacity } (Kh430.allLots s)) (i := i) (by omega) (by rw [hv, hp]; rfl) hno]
    · rintro σ' H1 ⟨v, rfl, e1, hno⟩
      have hnone : (List.range 5).find? (fun capacity => Kh430.canLast { s with capacity := capacity } (Kh430.allLots s)) = none := find_miss fun j hj => hno j hj
      refine q_chk (ok := false) (ea_two ev_c ev_c) chk_check (fun z => by cases z) (fun _ => (k.no (by rw [er, hnone]) (by decide)).mono e1)
theorem ok_Storage_needed_by (T : Txt K mg A) : FnOk P w K mg base (L2.CX P w) 11 A.f_Storage_needed_by A.d_Storage_needed_by ["self", "number"] (spQ1 A .coldHoursNeededBy) := by
  refine T.F_Storage_needed_by.okX sc_Storage_needed_by (fun vs H Q E h => ?_) (fun cdv Ar outer s H vs Q E hr h => ⟨_, (pss_cons (ps_expr (pe_call (ok_check T) (hr.mono (by decide)) rfl T.g_check T.F_check.kp T.b_check .nil (passes_call (takes_of rfl rfl rfl rfl) (fun _ _ _ _ z => z)) (by exact (pa_cons (pe_cmpR op_lt (pv 1) (pe_callB call_len_seq rfl T.z_len (by decide +kernel) (by exact (pa_cons (pe_fld (pv 0) rfl) pa_nil))) (nomark _)) (pa_cons (pe_gint rfl T.k_NOT_THERE) pa_nil))))) (pss_cons (ps_set (i := 2) sc_Storage_needed_by.nd rfl (Or.inl rfl) (pe_meth (pv 0) T.l_Storage T.m_Storage_cold_hours_needed (ok_Storage_cold_hours_needed T) (hr.mono (by decide)) T.b_Storage_cold_hours_needed .nil pass0 (by exact (pa_cons (pe_ix ix_list (pe_fld (pv 0) rfl) (pv 1) (fun _ _ => rfl)) pa_nil)))) (pss_cons (ps_expr (pe_call (ok_check T) (hr.mono (by decide)) rfl T.g_check T.F_check.kp T.b_check .nil (passes_call (takes_of rfl rfl rfl rfl) (fun _ _ _ _ z => z)) (by exact (pa_cons (pe_cmpR op_ge (pv 2) pe_int (nomark _)) (pa_cons (pe_gint rfl T.k_IMPOSSIBLE) pa_nil))))) (pss_one (ps_ret (pe_lst (pa_cons (pv 2) pa_nil))))))), ?_⟩)
  · obtain ⟨a, L, s, m, rfl, _⟩ := h
    rfl
  · obtain ⟨a, L, s, m, rfl, hS, ok, k⟩ := h
    obtain ⟨dx, so⟩ := hS.obj
    obtain ⟨ws, hw, hwl⟩ := hS.lots.list
    refine q_chk (ok := decide ((m : Int) < (ws.length : Nat))) (ea_two (ev_op (ev_var rfl) (ev_len2 (ev_fld (ev_var rfl) so T.l_Storage T.n_Storage_lots s_lots) (sq_of hw)) rv_I0) ev_c) chk_check (fun hm H1 e1 => ?_) (fun hm => k.no (if_pos (decide_eq_false (by have := of_decide_eq_false hm; omega))) (by decide))
    have hm' : m < s.lots.length := by have := of_decide_eq_true hm; omega
    have er : (Kh430.apply s (.coldHoursNeededBy m)).2 = match Kh430.coldHoursNeeded s (Kh430.lotAt s m) with
      | none => Kh430.single (-33)
      | some k => Kh430.single k := if_neg (by unfold Kh430.isLot; rw [decide_eq_true hm']; exact Bool.noConfusion)
    obtain ⟨_, r, h1, _, h3, hr1⟩ := hS.lots.item (get_lotAt hm')
    have hx := ok.hrs _ (lotAt_mem hm')
    refine q_asg (ev_meth (ev_var rfl) (e1 _ _ so) (s_no rfl) (ea_one (ev_op (ev_fld (ev_var rfl) (e1 _ _ so) T.l_Storage T.n_Storage_lots s_lots) (ev_var rfl) (rv_ixL (sq_of (e1 _ _ h1)) (atI_get h3)))) (spv_need (e1 _ _ so) (hr1.mono e1) (by omega) (by have := ok.cw; have := ok.w20; omega) (by have := ok.w20; omega))) fun H2 e2 => ?_
    refine q_chk (ok := decide (0 ≤ needI s (Kh430.lotAt s m))) (ea_two (ev_op (ev_var rfl) ev_c rv_I0) ev_c) chk_check (fun hb H3 e3 => ?_) (fun hb => ?_)
    · cases hc : Kh430.coldHoursNeeded s (Kh430.lotAt s m) with
      | none =>
        have := needI_neg.mpr hc
        have := of_decide_eq_true hb
        omega
      | some c =>
        refine s_retL (el_lst (ea_one (ev_var rfl)) (by show 1 ≤ 100000; decide)) fun p H4 hp4 e4 h4 => ?_
        refine (k.yes (r' := Kh430.single (c : Nat)) (by rw [er, hc]) (Int.natCast_nonneg _) rfl) p H4 (fresh_back ((e1.trans e2).trans e3) hp4) (((e1.trans e2).trans e3).trans e4) ?_
        rw [h4]
        unfold needI
        rw [hc]
        rfl
    · refine ((k.no ?_ (by decide)).mono e1).mono e2
      rw [er, needI_neg.mp (by have := of_decide_eq_false hb; omega)]
theorem ok_Storage_list_lots (T : Txt K mg A) : FnOk P w K mg base CX0 11 A.f_Storage_list_lots A.d_Storage_list_lots ["self"] (spQ0 A .listLots) := by
  refine T.F_Storage_list_lots.ok sc_Storage_list_lots (fun vs H Q E h => ?_) (fun cdv Ar outer s H vs Q E hr h => ⟨_, (pss_cons (ps_set (i := 1) sc_Storage_list_lots.nd rfl (Or.inl rfl) (pe_lst (pa_cons (pe_callB call_len_seq rfl T.z_len (by decide +kernel) (by exact (pa_cons (pe_fld (pv 0) rfl) pa_nil))) pa_nil))) (pss_cons (ps_for PassesOwn.never rfl (pi_list (pe_fld (pv 0) rfl)) (pg_name (i := 2) sc_Storage_list_lots.nd rfl (Or.inl rfl)) (pss_one (ps_expr (pe_bm PySem.F.plainAttrs_list PySem.F.slot_list_extend PySem.F.type_list_extend mt_extend (pv 1) (pa_cons (pe_lst (pa_cons (pe_fld (pv 2) rfl) (pa_cons (pe_fld (pv 2) rfl) pa_nil))) pa_nil))))) (pss_one (ps_ret (pv 1))))), ?_⟩)
  · obtain ⟨a, L, s, rfl, _⟩ := h
    rfl
  · obtain ⟨a, L, s, rfl, hS, ok, k⟩ := h
    obtain ⟨dx, so⟩ := hS.obj
    obtain ⟨ws, hw, hwl⟩ := hS.lots.list
    have n4 := ok.n4
    refine q_asgL (el_lst (ea_one (ev_len2 (ev_fld (ev_var rfl) so T.l_Storage T.n_Storage_lots s_lots) (sq_of hw))) (by show 1 ≤ 100000; decide)) fun p H1 hp e1 h1 => ?_
    refine q_forLn (j := 2) (ev_fld (ev_var rfl) (e1 _ _ so) T.l_Storage T.n_Storage_lots s_lots) (sq_of (e1 _ _ hw)) (fun i σ' H' => ∃ v, σ' = [some (.ref a), some (.ref p), v] ∧ Ex H H' ∧ H' p = some (.lst (nN s.lots.length :: lN ((s.lots.take i).flatMap fun x => [x.life, x.hours]))))
      (fun H2 e2 => ⟨none, rfl, e1.trans e2, by rw [e2 _ _ h1, hwl]; rfl⟩) (fun i σ' H' _ ⟨_, _, e2, _⟩ => sq_of (e2 _ _ hw)) ?_ ?_
    · rintro i x σ' H2 hx ⟨v, rfl, e2, h2⟩
      obtain ⟨r, y, rfl, hy, dr, hr1⟩ := hS.lots.get hw hx
      refine s_ext h2 (ev_var rfl) (el_lst (ea_two (ev_fld (ev_var rfl) (e2 _ _ hr1) T.l_Lot T.n_Lot_life lot_life) (ev_fld (ev_var rfl) (e2 _ _ hr1) T.l_Lot T.n_Lot_hours lot_hours)) (by show 2 ≤ 100000; decide)) ?_ fun q H3 hq e3 h3 => ?_
      · have h5 : ∀ l : List Kh430.Lot, (l.flatMap fun x => [x.life, x.hours]).length = 2 * l.length := fun l => by
          induction l with
          | nil => rfl
          | cons z l ih =>
            rw [List.flatMap_cons, List.length_append, ih]
            show 2 + 2 * l.length = 2 * (l.length + 1)
            omega
        have h4 : (s.lots.take i).length ≤ 4 := by rw [List.length_take]; omega
        rw [sizeLine_eq, List.length_cons, lN_len, h5]
        show _ + 2 ≤ _
        omega
      · refine ⟨_, rfl, Ex.mut (e2.trans e3) hp, ?_⟩
        rw [upd_same]
        have ht : s.lots.take (i + 1) = s.lots.take i ++ [y] := by rw [List.take_add_one, hy]; rfl
        rw [ht, List.flatMap_append, lN_append]
        rfl
    · rintro σ' H2 ⟨v, rfl, e2, h2⟩
      refine s_ret (ev_var rfl) fun H3 e3 => ?_
      refine (k.yes (r' := Kh430.withValues s.lots.length (s.lots.flatMap fun x => [x.life, x.hours])) rfl (Int.natCast_nonneg _) (lI_with _ _)) p H3 hp (e2.trans e3) ?_
      rw [e3 _ _ h2, hwl, List.take_of_length_le (Nat.le_refl _)]
theorem cut_take (xs : List V) (k : Nat) : cutV xs none (some (k : Int)) = xs.take k := by
  unfold cutV
  rw [HT.sIx_nat]
  show (xs.drop 0).take (min k xs.length - 0) = xs.take k
  rw [List.drop_zero, Nat.sub_zero]
  rcases Nat.le_total k xs.length with h | h
  · rw [Nat.min_eq_left h]
  · rw [Nat.min_eq_right h, List.take_of_length_le (Nat.le_refl _), List.take_of_length_le h]
theorem given_count {α : Type} (l : List α) (p : α → Bool) (f : Nat → Bool) (v : Nat → V) (h : ∀ (i : Nat) x, l[i]? = some x → f i = p x) : (given l.length f v).length = (l.filter p).length := by
  have key : ∀ k, k ≤ l.length → ((List.range k).filter f).length = ((l.take k).filter p).length := by
    intro k
    induction k with
    | zero => intro _; simp
    | succ k ih =>
      intro hk
      have hlt : k < l.length := hk
      rw [List.range_succ, List.take_add_one, List.filter_append, List.filter_append, List.length_append, List.length_append, ih (Nat.le_of_lt hlt), List.getElem?_eq_getElem hlt]
      congr 1
      have := h k l[k] (List.getElem?_eq_getElem hlt)
      show ([k].filter f).length = ([l[k]].filter p).length
      rw [List.filter_cons, List.filter_cons, this]
      cases p l[k] <;> rfl
  unfold given
  rw [List.length_map, key l.length (Nat.le_refl _), List.take_of_length_le (Nat.le_refl _)]
theorem isPlan_iff {s : Kh430.Store} {plan : List Nat} : Kh430.isPlan s plan = true ↔ plan.length ≤ 6 ∧ ∀ m ∈ plan, m < 2 ^ s.lots.length := by
  unfold Kh430.isPlan Kh430.isSet
  rw [Bool.and_eq_true, decide_eq_true_eq, List.all_eq_true]
  constructor
  · rintro ⟨h1, h2⟩
    exact ⟨h1, fun m hm => of_decide_eq_true (h2 m hm)⟩
  · rintro ⟨h1, h2⟩
    exact ⟨h1, fun m hm => decide_eq_true (h2 m hm)⟩
theorem ok_Storage_loss_under_plan (T : Txt K mg A) : FnOk P w K mg base (L2.CX P w) 11 A.f_Storage_loss_under_plan A.d_Storage_loss_under_plan ["self", "number", "plan"] (spQR A .lossUnderPlan) := by
  refine T.F_Storage_loss_under_plan.okX sc_Storage_loss_under_plan (fun vs H Q E h => ?_) (fun cdv Ar outer s H vs Q E hr h => ⟨_, (pss_cons (ps_expr (pe_call (ok_check T) (hr.mono (by decide)) rfl T.g_check T.F_check.kp T.b_check .nil (passes_call (takes_of rfl rfl rfl rfl) (fun _ _ _ _ z => z)) (by exact (pa_cons (pe_cmpR op_lt (pv 1) (pe_callB call_len_seq rfl T.z_len (by decide +kernel) (by exact (pa_cons (pe_fld (pv 0) rfl) pa_nil))) (nomark _)) (pa_cons (pe_gint rfl T.k_NOT_THERE) pa_nil))))) (pss_cons (ps_expr (pe_call (ok_check T) (hr.mono (by decide)) rfl T.g_check T.F_check.kp T.b_check .nil (passes_call (takes_of rfl rfl rfl rfl) (fun _ _ _ _ z => z)) (by exact (pa_cons (pe_cmpR op_le (pe_callB call_len_seq rfl T.z_len (by decide +kernel) (by exact (pa_cons (pv 2) pa_nil))) (pe_gint rfl T.k_HOURS_AT_MOST) (nomark _)) (pa_cons (pe_gint rfl T.k_OUT_OF_RANGE) pa_nil))))) (pss_cons (ps_for (passes_of rfl) rfl (pi_list (pv 2)) (pg_name (i := 3) sc_Storage_loss_under_plan.nd rfl (Or.inl rfl)) (pss_one (ps_expr (pe_call (ok_check_mask T) (hr.mono (by decide)) rfl T.g_check_mask T.F_check_mask.kp T.b_check_mask .nil (passes_call (takes_of rfl rfl rfl rfl) (fun _ _ _ _ z => z)) (by exact (pa_cons (pv 3) (pa_cons (pe_callB call_len_seq rfl T.z_len (by decide +kernel) (by exact (pa_cons (pe_fld (pv 0) rfl) pa_nil))) pa_nil))))))) (pss_cons (ps_set (i := 4) sc_Storage_loss_under_plan.nd rfl (Or.inl rfl) (pe_ix ix_list (pe_fld (pv 0) rfl) (pv 1) (fun _ _ => rfl))) (pss_cons (ps_set (i := 5) sc_Storage_loss_under_plan.nd rfl (Or.inl rfl) (pe_callB call_len_seq rfl T.z_len (by decide +kernel) (by exact (pa_cons (pe_lc (own := [("mask", 3)]) (g := gName 3) rfl sc_Storage_loss_under_plan.nd (pi_list (pe_slice sl_list (pv 2) po_none (po_some (pe_fld (pv 4) rfl)))) (blkOk_by (N := ["self", "number", "plan", "mask", "lot", "cold", "loss"]) (sc := defScope s_Storage_loss_under_plan) (by decide +kernel)) (fun _ _ _ _ _ => pg_name (i := 3) sc_Storage_loss_under_plan.nd rfl (Or.inl rfl)) (fun _ _ _ _ _ => (by exact (pts_one (pt_cmpR op_eq (pe_op op_and (pe_op op_shr (pv 3) (pv 1)) pe_int) pe_int (nomark _))))) (fun _ _ _ _ _ => (by exact (pv 3)))) pa_nil)))) (pss_cons (ps_set (i := 6) sc_Storage_loss_under_plan.nd rfl (Or.inl rfl) (pe_op op_add (pe_op op_mul (pv 5) (pe_fld (pv 0) rfl)) (pe_op op_mul (pe_op op_sub (pe_fld (pv 4) rfl) (pv 5)) (pe_fld (pv 0) rfl)))) (pss_one (ps_ret (pe_lst (pa_cons (pv 6) (pa_cons (pe_ifExp (pt_cmpR op_le (pv 6) (pe_fld (pv 4) rfl) (nomark _)) pe_int pe_int) pa_nil))))))))))), ?_⟩)
  · obtain ⟨a, L, r, s, m, rs, rfl, _⟩ := h
    rfl
  · obtain ⟨a, L, r, s, m, rs, rfl, hS, ok, hR, hRl, k⟩ := h
    obtain ⟨dx, so⟩ := hS.obj
    obtain ⟨ws, hw, hwl⟩ := hS.lots.list
    have n4 := ok.n4
    have e0 : (Kh430.apply s (.lossUnderPlan m rs)).2 = if Kh430.isLot s m = false then Kh430.single (-2) else if Kh430.isPlan s rs = false then Kh430.single (-22) else Kh430.withValues (Kh430.lossUnderPlan s m rs) [if Kh430.lossUnderPlan s m rs ≤ (Kh430.lotAt s m).life then 1 else 0] := rfl
    refine q_chk (ok := decide ((m : Int) < (ws.length : Nat))) (ea_two (ev_op (ev_var rfl) (ev_len2 (ev_fld (ev_var rfl) so T.l_Storage T.n_Storage_lots s_lots) (sq_of hw)) rv_I0) ev_c) chk_check (fun hm H1 e1 => ?_) (fun hm => k.no (by rw [e0]; exact if_pos (decide_eq_false (by have := of_decide_eq_false hm; omega))) (by decide))
    have hm' : m < s.lots.length := by have := of_decide_eq_true hm; omega
    have hlot : Kh430.isLot s m ≠ false := by unfold Kh430.isLot; rw [decide_eq_true hm']; exact Bool.noConfusion
    rw [if_neg hlot] at e0
    have bad : Kh430.isPlan s rs = false → RetE A (-22) H E := fun z => k.no (by rw [e0, if_pos z]) (by decide)
    refine q_chk (ok := decide (((lN rs).length : Int) ≤ 6)) (ea_two (ev_op (ev_len2 (ev_var rfl) (sq_of (e1 _ _ hR))) ev_c rv_I0) ev_c) chk_check (fun h6 H2 e2 => ?_) (fun h6 => (bad (by
      rw [← Bool.not_eq_true, isPlan_iff]
      intro z
      have := of_decide_eq_false h6
      rw [lN_len] at this
      omega)).mono e1)
    have h6' : rs.length ≤ 6 := by have := of_decide_eq_true h6; rw [lN_len] at this; omega
    have e12 := e1.trans e2
    refine q_forLn (j := 3) (ev_var rfl) (sq_of (e12 _ _ hR)) (fun i σ' H' => ∃ v, σ' = [some (.ref a), some (nN m), some (.ref r), v, none, none, none] ∧ Ex H H' ∧ ∀ (j x : Nat), j < i → rs[j]? = some x → x < 2 ^ s.lots.length)
      (fun H3 e3 => ⟨none, rfl, e12.trans e3, fun j x hj => absurd hj (Nat.not_lt_zero _)⟩) (fun i σ' H' _ ⟨_, _, e3, _⟩ => sq_of (e3 _ _ hR)) ?_ ?_
    · rintro i x σ' H3 hx ⟨v, rfl, e3, hall⟩
      obtain ⟨z, hz, rfl⟩ := lN_inv hx
      refine s_chk (ea_two (ev_var rfl) (ev_len2 (ev_fld (ev_var rfl) (e3 _ _ so) T.l_Storage T.n_Storage_lots s_lots) (sq_of (e3 _ _ hw)))) (chk_mask (m := z) (n := ws.length) (by omega)) (fun hb H4 e4 => ⟨_, rfl, e3.trans e4, fun j y hj hy => ?_⟩) (fun hb => (bad ?_).mono e3)
      · by_cases q : j = i
        · subst q
          rw [hz] at hy
          cases hy
          rw [← hwl]
          exact of_decide_eq_true hb
        · exact hall j y (by omega) hy
      · rw [← Bool.not_eq_true, isPlan_iff]
        intro y
        have := y.2 z (List.mem_of_getElem? hz)
        rw [← hwl] at this
        exact absurd this (of_decide_eq_false hb)
    rintro σ' H3 ⟨v, rfl, e3, hall⟩
    have hset : ∀ x ∈ rs, x < 2 ^ s.lots.length := fun x hx => by
      obtain ⟨j, hj⟩ := List.mem_iff_getElem?.mp hx
      exact hall j x (by rw [lN_len]; exact at_lt hj) hj
    have er : (Kh430.apply s (.lossUnderPlan m rs)).2 = Kh430.withValues (Kh430.lossUnderPlan s m rs) [if Kh430.lossUnderPlan s m rs ≤ (Kh430.lotAt s m).life then 1 else 0] := by
      rw [e0, if_neg]
      rw [isPlan_iff.mpr ⟨h6', hset⟩]
      exact Bool.noConfusion
    obtain ⟨_, l, h1, _, h3, dl, hl1⟩ := hS.lots.item (get_lotAt hm')
    have hh := ok.hrs _ (lotAt_mem hm')
    refine q_asg (ev_op (ev_fld (ev_var rfl) (e3 _ _ so) T.l_Storage T.n_Storage_lots s_lots) (ev_var rfl) (rv_ixL (sq_of (e3 _ _ h1)) (atI_get h3))) fun H4 e4 => ?_
    have e34 := e3.trans e4
    -- cold = len([mask for mask in plan[:lot.hours] if mask >> number & 1 == 1])
    have hcut : cutV (lN rs) none (some ((Kh430.lotAt s m).hours : Int)) = lN (rs.take (Kh430.lotAt s m).hours) := by
      rw [cut_take]
      unfold lN
      rw [List.map_take]
    have hcold : ∀ z, z = cutV (lN rs) none (some ((Kh430.lotAt s m).hours : Int)) → (given z.length (fun j => Kh430.isMember ((rs.take (Kh430.lotAt s m).hours).getD j 0) m) (fun j => nN ((rs.take (Kh430.lotAt s m).hours).getD j 0))).length = coldOf (rs.take (Kh430.lotAt s m).hours) m := fun z hz => by
      rw [hz, hcut, lN_len]
      exact given_count _ (fun x => Kh430.isMember x m) _ _ fun i x hx => by rw [getD_of hx]
    have hc6 := coldOf_le rs m (Kh430.lotAt s m).hours
    refine q_asg (ev_is (ev_lenL (el_lcNL (j := 3) (fun j => Kh430.isMember ((rs.take (Kh430.lotAt s m).hours).getD j 0) m) (fun j => nN ((rs.take (Kh430.lotAt s m).hours).getD j 0)) (el_sl (ev_var rfl) eo_none (eo_some (ev_fld (ev_var rfl) (e34 _ _ hl1) T.l_Lot T.n_Lot_hours lot_hours)) (sq_of (e34 _ _ hR))) (by rw [hcut, lN_len, List.length_take]; omega) (fun _ => rfl)
      (fun j x H5 e5 hx => ?_) (fun j x H5 e5 hx _ => ?_))) (congrArg (fun n : Nat => V.int (n : Int)) (hcold _ rfl))) fun H5 e5 => ?_
    · rw [hcut] at hx
      obtain ⟨z, hz, rfl⟩ := lN_inv hx
      rw [getD_of hz]
      exact et_bit (ev_var rfl) (ev_var rfl)
    · rw [hcut] at hx
      obtain ⟨z, hz, rfl⟩ := lN_inv hx
      rw [getD_of hz]
      exact ev_var rfl
    have e35 := e34.trans e5
    have c1 : CMul (coldOf (rs.take (Kh430.lotAt s m).hours) m : Int) (s.coldLoss : Int) := Or.inl ⟨by omega, by omega⟩
    have c2 : CMul (((Kh430.lotAt s m).hours : Int) - (coldOf (rs.take (Kh430.lotAt s m).hours) m : Int)) (s.warmLoss : Int) := Or.inl ⟨by omega, by omega⟩
    refine q_asg (ev_is (ev_op (ev_op (ev_var rfl) (ev_fld (ev_var rfl) (e35 _ _ so) T.l_Storage T.n_Storage_cold_loss s_cold) (rv_I c1)) (ev_op (ev_op (ev_fld (ev_var rfl) (e35 _ _ hl1) T.l_Lot T.n_Lot_hours lot_hours) (ev_var rfl) rv_I0) (ev_fld (ev_var rfl) (e35 _ _ so) T.l_Storage T.n_Storage_warm_loss s_warm) (rv_I c2)) rv_I0) (congrArg V.int (loss_int s rs m).symm)) fun H6 e6 => ?_
    have e36 := e35.trans e6
    refine s_retL (el_lst (ea_two (ev_var rfl) (ev_if (b := decide (Kh430.lossUnderPlan s m rs ≤ (Kh430.lotAt s m).life)) (v := nN (if Kh430.lossUnderPlan s m rs ≤ (Kh430.lotAt s m).life then 1 else 0)) (et_is (et_test (ev_op (ev_var rfl) (ev_fld (ev_var rfl) (e36 _ _ hl1) T.l_Lot T.n_Lot_life lot_life) rv_I0)) (decide_eq_decide.mpr Int.ofNat_le)) (fun hb => by rw [if_pos (of_decide_eq_true hb)]; exact ev_c) (fun hb => by rw [if_neg (of_decide_eq_false hb)]; exact ev_c))) (by show 2 ≤ 100000; decide)) fun p H7 hp7 e7 h7 => ?_
    refine (k.yes er (Int.natCast_nonneg _) (lI_with _ _)) p H7 (fresh_back e36 hp7) (e36.trans e7) ?_
    rw [h7]
    rfl
end
end Cold

namespace Cold
open PySem PySem.Spec PyProof.Rows L2 Evl
/-! ### the storage's queries, the longer ones -/
theorem search_same {s s' : Kh430.Store} (hl : s'.lots = s.lots) (hc : s'.capacity = s.capacity) : ∀ (f t : Nat) (nd : List Nat), Kh430.searchPlan s' f t nd = Kh430.searchPlan s f t nd
  | 0, _, _ => rfl
  | f + 1, t, nd => by
    have hlot : ∀ i, Kh430.lotAt s' i = Kh430.lotAt s i := fun i => by unfold Kh430.lotAt; rw [hl]
    have ho : over s' t nd = over s t nd := by funext i; unfold over; rw [hlot]
    have hca : cands s' t nd = cands s t nd := by unfold cands; simp only [hlot]
    have hp : pick s' t nd = pick s t nd := by funext m; unfold pick; rw [hca, hc]
    rw [search_succ, search_succ, ho, hp]
    simp only [search_same hl hc f]
theorem plan_same {s s' : Kh430.Store} (hl : s'.lots = s.lots) (hc : s'.capacity = s.capacity) (hw : s'.warmLoss = s.warmLoss) (hk : s'.coldLoss = s.coldLoss) (m : Nat) : Kh430.planFor s' m = Kh430.planFor s m := by
  have hlot : ∀ i, Kh430.lotAt s' i = Kh430.lotAt s i := fun i => by unfold Kh430.lotAt; rw [hl]
  have hn : ∀ x, Kh430.coldHoursNeeded s' x = Kh430.coldHoursNeeded s x := fun x => by unfold Kh430.coldHoursNeeded; rw [hw, hk]
  have hwo : wantO s' m = wantO s m := by funext i; unfold wantO; rw [hlot, hn]
  have hws : wants s' m = wants s m := by unfold wants; rw [hl, hwo]
  have hh : Kh430.horizon s' = Kh430.horizon s := by unfold Kh430.horizon; rw [hl]
  rw [planFor_eq, planFor_eq, hwo, hl, hh, hws, search_same hl hc]
theorem largest_same {s s' : Kh430.Store} (hl : s'.lots = s.lots) (hc : s'.capacity = s.capacity) (hw : s'.warmLoss = s.warmLoss) (hk : s'.coldLoss = s.coldLoss) : Kh430.largestLastingSet s' = Kh430.largestLastingSet s := by
  have h : Kh430.canLast s' = Kh430.canLast s := by funext m; unfold Kh430.canLast; rw [plan_same hl hc hw hk]
  unfold Kh430.largestLastingSet
  rw [h, hl]
theorem sum_range_succ (g : Nat → Nat) (i : Nat) : ((List.range (i + 1)).map g).sum = ((List.range i).map g).sum + g i := by
  rw [List.range_succ, List.map_append, List.sum_append]
  simp
section
variable {A : Ad} {H : Hp}
theorem ini_sto {w c k : Nat} : IniOk (spStoInit A) A.c_Storage [nN w, nN c, nN k] H (fun p H2 => ∃ L, StoAt A H2 p L ⟨w, c, k, [], 0, 0, 0⟩) := fun H1 e1 p dx hp hd ne Q E q =>
  have up : Ex H1 (upd (upd H1 dx (.own p)) p (.ins A.c_Storage dx [])) := (Ex.new hd).trans (Ex.new (by rw [upd_ne (Ne.symm ne), hp]))
  ⟨p, dx, w, c, k, rfl, upd_same, fun H2 L hL h2 hl keep => q H2 (fun b o hb => keep b o (up b o hb) (ne_of_none hb hp)) ⟨L, ⟨dx, h2⟩, [], hl, rfl, fun i x hi => by simp at hi⟩⟩
end
section
variable {P : Program} {w : World} {K : PySem.W.Frag} {mg : Str → Option Value} {base : Heap} {A : Ad}
theorem ok_Storage_count_if_warm_loss (T : Txt K mg A) : FnOk P w K mg base (L2.CX P w) 11 A.f_Storage_count_if_warm_loss A.d_Storage_count_if_warm_loss ["self", "warm_loss"] (spQ1 A .lastingCountIfWarmLoss) := by
  refine T.F_Storage_count_if_warm_loss.okX sc_Storage_count_if_warm_loss (fun vs H Q E h => ?_) (fun cdv Ar outer s H vs Q E hr h => ⟨_, (pss_cons (ps_expr (pe_call (ok_check_losses T) (hr.mono (by decide)) rfl T.g_check_losses T.F_check_losses.kp T.b_check_losses .nil (passes_call (takes_of rfl rfl rfl rfl) (fun _ _ _ _ z => z)) (by exact (pa_cons (pv 1) (pa_cons (pe_fld (pv 0) rfl) pa_nil))))) (pss_cons (ps_set (i := 2) sc_Storage_count_if_warm_loss.nd rfl (Or.inl rfl) (pe_make T.m_Storage (ok_Storage_init T) (hr.mono (by decide)) rfl T.g_Storage T.b_Storage_init .nil pass0 (by exact (pa_cons (pv 1) (pa_cons (pe_fld (pv 0) rfl) (pa_cons (pe_fld (pv 0) rfl) pa_nil)))))) (pss_cons (ps_fld (pv 2) (pe_fld (pv 0) rfl) rfl) (pss_one (ps_ret (pe_lst (pa_cons (pe_callB call_len_seq rfl T.z_len (by decide +kernel) (by exact (pa_cons (pe_call (ok_members_of T) (hr.mono (by decide)) rfl T.g_members_of T.F_members_of.kp T.b_members_of .nil pass0 (by exact (pa_cons (pe_meth0 (pe_make T.m_Planner (ok_Planner_init T) (hr.mono (by decide)) rfl T.g_Planner T.b_Planner_init .nil pass0 (by exact (pa_cons (pv 2) (pa_cons (pe_fld (pv 0) rfl) pa_nil)))) T.l_Planner T.m_Planner_largest_set (ok_Planner_largest_set T) (hr.mono (by decide)) T.b_Planner_largest_set .nil pass0) pa_nil))) pa_nil))) pa_nil))))))), ?_⟩)
  · obtain ⟨a, L, s, m, rfl, _⟩ := h
    rfl
  · obtain ⟨a, L, s, m, rfl, hS, ok, k⟩ := h
    obtain ⟨dx, so⟩ := hS.obj
    have n4 := ok.n4
    have e0 : (Kh430.apply s (.lastingCountIfWarmLoss m)).2 = if Kh430.areValidLosses m s.coldLoss = false then Kh430.single (-22) else Kh430.single (Kh430.members s.lots.length (Kh430.largestLastingSet { s with warmLoss := m })).length := rfl
    refine q_chk (ea_two (ev_var rfl) (ev_fld (ev_var rfl) so T.l_Storage T.n_Storage_cold_loss s_cold)) (chk_losses (w := m) (c := s.coldLoss)) (fun hm H1 e1 => ?_) (fun hm => k.no (by rw [e0, if_pos hm]) (by decide))
    rw [if_neg (by rw [hm]; exact Bool.noConfusion)] at e0
    have so1 := e1 _ _ so
    refine q_asgN (en_make (ea_cons (ev_var rfl) (ea_two (ev_fld (ev_var rfl) so1 T.l_Storage T.n_Storage_cold_loss s_cold) (ev_fld (ev_var rfl) so1 T.l_Storage T.n_Storage_capacity s_cap))) (ini_sto (w := m) (c := s.coldLoss) (k := s.capacity))) fun o H2 ho e2 h2 => ?_
    obtain ⟨L2, ⟨d2, oo⟩, _⟩ := h2
    have so2 := e2 _ _ so1
    refine q_fld (ev_fld (ev_var rfl) so2 T.l_Storage T.n_Storage_lots s_lots) (ev_var rfl) oo T.l_Storage T.n_Storage_lots (by show 7 < 1000; decide) fun H3 e3 => ?_
    have ho0 : H o = none := fresh_back e1 ho
    have e13 : Ex H H3 := (e1.trans e2).trans e3
    have e4 : Ex H (upd H3 o (.ins A.c_Storage d2 (putF "lots" (.ref L) (sF ⟨m, s.coldLoss, s.capacity, [], 0, 0, 0⟩ L2)))) := Ex.mut e13 ho0
    have so4 := e4 _ _ so
    have hl4 := hS.lots.mono e4
    have hS2 : StoAt A (upd H3 o (.ins A.c_Storage d2 (putF "lots" (.ref L) (sF ⟨m, s.coldLoss, s.capacity, [], 0, 0, 0⟩ L2)))) o L ⟨m, s.coldLoss, s.capacity, s.lots, 0, 0, 0⟩ := ⟨⟨d2, by rw [upd_same, put_lots (ls := s.lots)]⟩, hl4⟩
    generalize upd H3 o (.ins A.c_Storage d2 (putF "lots" (.ref L) (sF ⟨m, s.coldLoss, s.capacity, [], 0, 0, 0⟩ L2))) = H4 at e4 so4 hl4 hS2 ⊢
    have ok2 : Ok (⟨m, s.coldLoss, s.capacity, s.lots, 0, 0, 0⟩ : Kh430.Store) := by
      obtain ⟨l1, l2, l3⟩ := losses_ok.mp hm
      exact ⟨l1, l2, l3, ok.cap, ok.n4, ok.hrs, ok.life⟩
    have hpl := en_pla (K := K) (E := E0) hS2 ok2 (tA := tCons (tVar 2) (tCons (tFld K (tVar 0) "capacity") tNil)) (σ := [some (.ref a), some (nN m), some (.ref o)]) (ea_two (ev_var rfl) (ev_fld (ev_var rfl) so4 T.l_Storage T.n_Storage_capacity s_cap))
    have same : Kh430.largestLastingSet (⟨m, s.coldLoss, s.capacity, s.lots, 0, 0, 0⟩ : Kh430.Store) = Kh430.largestLastingSet { s with warmLoss := m } := largest_same (s := { s with warmLoss := m }) rfl rfl rfl rfl
    have hlt : Kh430.largestLastingSet (⟨m, s.coldLoss, s.capacity, s.lots, 0, 0, 0⟩ : Kh430.Store) < 2 ^ s.lots.length := largest_lt ⟨m, s.coldLoss, s.capacity, s.lots, 0, 0, 0⟩
    have hbl := bl_le hlt
    refine s_retL (el_lst (ea_one (ev_lenL (el_call (ea_one (ev_large hpl ok2)) (spl_members (m := Kh430.largestLastingSet ⟨m, s.coldLoss, s.capacity, s.lots, 0, 0, 0⟩) (by omega))))) (by show 1 ≤ 100000; decide)) fun p H5 hp5 e5 h5 => ?_
    refine (k.yes e0 (Int.natCast_nonneg _) rfl) p H5 (fresh_back e4 hp5) (e4.trans e5) ?_
    rw [h5, lN_len, members_eq hlt, same]
    rfl
theorem ok_Storage_balance (T : Txt K mg A) : FnOk P w K mg base CX0 11 A.f_Storage_balance A.d_Storage_balance ["self"] (spQ0 A .coldHourBalance) := by
  refine T.F_Storage_balance.ok sc_Storage_balance (fun vs H Q E h => ?_) (fun cdv Ar outer s H vs Q E hr h => ⟨_, (pss_cons (ps_set (i := 1) sc_Storage_balance.nd rfl (Or.inl rfl) (pe_callB (cr_sum rfl) rfl T.z_sum (by decide +kernel) (by exact (pa_cons (pe_lc (own := [("lot", 4)]) (g := gName 4) rfl sc_Storage_balance.nd (pi_list (pe_fld (pv 0) rfl)) (blkOk_by (N := ["self", "needed", "available", "hour", "lot"]) (sc := defScope s_Storage_balance) (by decide +kernel)) (fun _ _ _ _ _ => pg_name (i := 4) sc_Storage_balance.nd rfl (Or.inl rfl)) (fun _ _ _ _ _ => (by exact (pts_nil))) (fun _ _ _ _ _ => (by exact (pe_callB (call_max2 rfl) rfl T.z_max (by decide +kernel) (by exact (pa_cons pe_int (pa_cons (pe_meth (pv 0) T.l_Storage T.m_Storage_cold_hours_needed (ok_Storage_cold_hours_needed T) (hr.mono (by decide)) T.b_Storage_cold_hours_needed .nil pass0 (by exact (pa_cons (pv 4) pa_nil))) pa_nil))))))) pa_nil)))) (pss_cons (ps_set (i := 2) sc_Storage_balance.nd rfl (Or.inl rfl) pe_int) (pss_cons (ps_for PassesOwn.never rfl (pi_range1 rfl T.z_range (pa_cons (pe_gint rfl T.k_HOURS_AT_MOST) pa_nil)) (pg_name (i := 3) sc_Storage_balance.nd rfl (Or.inr rfl)) (pss_one (ps_aug (i := 2) sc_Storage_balance.nd rfl (Or.inl rfl) (pe_callB (call_min2 rfl) rfl T.z_min (by decide +kernel) (by exact (pa_cons (pe_fld (pv 0) rfl) (pa_cons (pe_callB call_len_seq rfl T.z_len (by decide +kernel) (by exact (pa_cons (pe_lc (own := [("lot", 4)]) (g := gName 4) rfl sc_Storage_balance.nd (pi_list (pe_fld (pv 0) rfl)) (blkOk_by (N := ["self", "needed", "available", "hour", "lot"]) (sc := defScope s_Storage_balance) (by decide +kernel)) (fun _ _ _ _ _ => pg_name (i := 4) sc_Storage_balance.nd rfl (Or.inl rfl)) (fun _ _ _ _ _ => (by exact (pts_one (pt_cmpR op_gt (pe_fldK (K := K) rfl (pv 4) rfl) (pv 3) (nomark _))))) (fun _ _ _ _ _ => (by exact (pv 4)))) pa_nil))) pa_nil)))) ip_add))) (pss_one (ps_ret (pe_lst (pa_cons (pv 1) (pa_cons (pv 2) pa_nil)))))))), ?_⟩)
  · obtain ⟨a, L, s, rfl, _⟩ := h
    rfl
  · obtain ⟨a, L, s, rfl, hS, ok, k⟩ := h
    obtain ⟨dx, so⟩ := hS.obj
    obtain ⟨ws, hw, hwl⟩ := hS.lots.list
    have n4 := ok.n4
    have hz : ws.length ≤ 40000 := by omega
    have hb : ∀ (i : Nat) y, s.lots[i]? = some y → y.hours ≤ 6 := fun i y hy => (ok.hrs y (List.mem_of_getElem? hy)).2
    -- needed
    refine q_asg (ev_sumL (ns := s.lots.map fun x => if needI s x > 0 then needI s x else 0) (fun Hx ex Qx qx => el_lcL (j := 4) (fun _ => true) (fun i => .int (if needI s (Kh430.lotAt s i) > 0 then needI s (Kh430.lotAt s i) else 0)) (ev_fld (ev_var rfl) so T.l_Storage T.n_Storage_lots s_lots) (sq_of hw) hz (fun _ => rfl)
      (fun i x H1 e1 hx => et_yes) (fun i x H1 e1 hx _ => ?_) Hx ex Qx (fun r H1 h1 h2 h3 => qx r H1 h1 h2 ?_))) fun H1 e1 => ?_
    · obtain ⟨l, y, rfl, hy, hl1⟩ := hS.lots.get hw hx
      rw [lotAt_get hy]
      exact ev_max ev_c (ev_meth (ev_var rfl) (e1 _ _ so) (s_no rfl) (ea_one (ev_var rfl)) (spv_need (e1 _ _ so) (hl1.mono e1) (by have := hb i y hy; omega) (by have := ok.cw; have := ok.w20; omega) (by have := ok.w20; omega)))
    · rw [h3, hwl, given_of s.lots (fun x => .int (if needI s x > 0 then needI s x else 0)) _ (fun i y hy => by rw [lotAt_get hy]), List.map_map]
      rfl
    refine q_asg ev_c fun H2 e2 => ?_
    have e12 := e1.trans e2
    have hneed := balance_need s s.lots
    -- available
    refine q_forR1 (j := 3) (n := 6) (ea_one ev_c) ⟨by decide, by decide⟩ (fun i σ' H' => ∃ v, σ' = [some (.ref a), some (.int (s.lots.map fun x => if needI s x > 0 then needI s x else 0).sum), some (nN ((List.range i).map (coldAt s)).sum), v, none] ∧ Ex H H')
      (fun H3 e3 => ⟨none, rfl, e12.trans e3⟩) ?_ ?_
    · rintro i σ' H3 hi ⟨v, rfl, e3⟩
      have hcount : ((given ws.length (fun j => decide (i < (Kh430.lotAt s j).hours)) (fun j => ws.getD j .non)).length) = (s.lots.filter fun x => decide (i < x.hours)).length := by
        rw [hwl]
        exact given_count s.lots (fun x => decide (i < x.hours)) _ _ fun j y hy => by rw [lotAt_get hy]
      have hmin : (V.int (if (((given ws.length (fun j => decide (i < (Kh430.lotAt s j).hours)) (fun j => ws.getD j .non)).length : Nat) : Int) < (s.capacity : Int) then (((given ws.length (fun j => decide (i < (Kh430.lotAt s j).hours)) (fun j => ws.getD j .non)).length : Nat) : Int) else (s.capacity : Int))) = V.int (coldAt s i : Int) := by
        rw [hcount]
        unfold coldAt
        congr 1
        split <;> omega
      refine s_aug (i := 2) (a := ((((List.range i).map (coldAt s)).sum : Nat) : Int)) (b := (coldAt s i : Int)) rfl (ev_is (ev_min2 (ev_fld (ev_var rfl) (e3 _ _ so) T.l_Storage T.n_Storage_capacity s_cap) (ev_lenL (el_lcL (j := 4) (fun j => decide (i < (Kh430.lotAt s j).hours)) (fun j => ws.getD j .non) (ev_fld (ev_var rfl) (e3 _ _ so) T.l_Storage T.n_Storage_lots s_lots) (sq_of (e3 _ _ hw)) hz (fun _ => rfl)
        (fun j x H4 e4 hx => ?_) (fun j x H4 e4 hx _ => ?_)))) hmin) fun H4 e4 => ?_
      · obtain ⟨l, y, rfl, hy, dl, hl1⟩ := hS.lots.get hw hx
        rw [lotAt_get hy]
        exact et_is (et_test (ev_op (ev_fld (ev_var rfl) ((e3.trans e4) _ _ hl1) T.l_Lot T.n_Lot_hours lot_hours) (ev_var rfl) rv_I0)) (decide_eq_decide.mpr (by omega))
      · have : ws.getD j .non = x := by rw [List.getD_eq_getElem?_getD, hx]; rfl
        rw [this]
        exact ev_var rfl
      · refine ⟨some (.int (i : Int)), ?_, e3.trans e4⟩
        rw [sum_range_succ]
        rfl
    · rintro σ' H3 ⟨v, rfl, e3⟩
      refine s_retL (el_lst (ea_two (ev_var rfl) (ev_var rfl)) (by show 2 ≤ 100000; decide)) fun p H4 hp4 e4 h4 => ?_
      refine (k.yes (r' := Kh430.withValues (s.lots.map fun x => (Kh430.coldHoursNeeded s x).getD 0).sum [((List.range (Kh430.horizon s)).map (coldAt s)).sum]) rfl (Int.natCast_nonneg _) (lI_with _ _)) p H4 (fresh_back e3 hp4) (e3.trans e4) ?_
      rw [h4, hneed, ← balance_six ok]
      rfl
theorem ok_Storage_check_plan (T : Txt K mg A) : FnOk P w K mg base (L2.CX P w) 11 A.f_Storage_check_plan A.d_Storage_check_plan ["self", "mask", "plan"] (spQR A .checkPlan) := by
  refine T.F_Storage_check_plan.okX sc_Storage_check_plan (fun vs H Q E h => ?_) (fun cdv Ar outer s H vs Q E hr h => ⟨_, (pss_cons (ps_expr (pe_call (ok_check T) (hr.mono (by decide)) rfl T.g_check T.F_check.kp T.b_check .nil (passes_call (takes_of rfl rfl rfl rfl) (fun _ _ _ _ z => z)) (by exact (pa_cons (pe_cmpR op_le (pe_callB call_len_seq rfl T.z_len (by decide +kernel) (by exact (pa_cons (pv 2) pa_nil))) (pe_gint rfl T.k_HOURS_AT_MOST) (nomark _)) (pa_cons (pe_gint rfl T.k_OUT_OF_RANGE) pa_nil))))) (pss_cons (ps_for (passes_of rfl) rfl (pi_list (pe_op op_cat (pe_lst (pa_cons (pv 1) pa_nil)) (pv 2))) (pg_name (i := 3) sc_Storage_check_plan.nd rfl (Or.inl rfl)) (pss_one (ps_expr (pe_call (ok_check_mask T) (hr.mono (by decide)) rfl T.g_check_mask T.F_check_mask.kp T.b_check_mask .nil (passes_call (takes_of rfl rfl rfl rfl) (fun _ _ _ _ z => z)) (by exact (pa_cons (pv 3) (pa_cons (pe_callB call_len_seq rfl T.z_len (by decide +kernel) (by exact (pa_cons (pe_fld (pv 0) rfl) pa_nil))) pa_nil))))))) (pss_cons (ps_for (passes_of rfl) rfl (pi_enum rfl T.z_enumerate (pa_cons (pv 2) pa_nil)) (pg_tup rfl (pgs_cons (pg_name (i := 4) sc_Storage_check_plan.nd rfl (Or.inr rfl)) (pgs_cons (pg_name (i := 3) sc_Storage_check_plan.nd rfl (Or.inl rfl)) pgs_nil))) (pss_cons (ps_set (i := 5) sc_Storage_check_plan.nd rfl (Or.inl rfl) (pe_call (ok_members_of T) (hr.mono (by decide)) rfl T.g_members_of T.F_members_of.kp T.b_members_of .nil pass0 (by exact (pa_cons (pv 3) pa_nil)))) (pss_one (ps_if (PW.pt (pw_or (pt_cmpR op_gt (pe_callB call_len_seq rfl T.z_len (by decide +kernel) (by exact (pa_cons (pv 5) pa_nil))) (pe_fld (pv 0) rfl) (nomark _)) (pw_or1 (pt_val (pe_callB (cr_any rfl) rfl T.z_any (by decide +kernel) (by exact (pa_cons (pe_lc (own := [("lot", 6)]) (g := gName 6) rfl sc_Storage_check_plan.nd (pi_list (pv 5)) (blkOk_by (N := ["self", "mask", "plan", "one", "hour", "members", "lot", "cold", "need"]) (sc := defScope s_Storage_check_plan) (by decide +kernel)) (fun _ _ _ _ _ => pg_name (i := 6) sc_Storage_check_plan.nd rfl (Or.inl rfl)) (fun _ _ _ _ _ => (by exact (pts_nil))) (fun _ _ _ _ _ => (by exact (pe_cmpR op_ge (pv 4) (pe_fldK (K := K) rfl (pe_ix (ix_listK (K := K) rfl) (pe_fldK (K := K) rfl (pv 0) rfl) (pv 6) (fun _ _ => rfl)) rfl) (nomark _))))) pa_nil))))))) (pss_one (ps_ret (pe_lst (pa_cons pe_int pa_nil)))) pss_nil)))) (pss_cons (ps_for (passes_of rfl) rfl (pi_list (pe_call (ok_members_of T) (hr.mono (by decide)) rfl T.g_members_of T.F_members_of.kp T.b_members_of .nil pass0 (by exact (pa_cons (pv 1) pa_nil)))) (pg_name (i := 6) sc_Storage_check_plan.nd rfl (Or.inr rfl)) (pss_cons (ps_set (i := 7) sc_Storage_check_plan.nd rfl (Or.inl rfl) (pe_callB call_len_seq rfl T.z_len (by decide +kernel) (by exact (pa_cons (pe_lc (own := [("one", 3)]) (g := gName 3) rfl sc_Storage_check_plan.nd (pi_list (pv 2)) (blkOk_by (N := ["self", "mask", "plan", "one", "hour", "members", "lot", "cold", "need"]) (sc := defScope s_Storage_check_plan) (by decide +kernel)) (fun _ _ _ _ _ => pg_name (i := 3) sc_Storage_check_plan.nd rfl (Or.inl rfl)) (fun _ _ _ _ _ => (by exact (pts_one (pt_cmpR op_eq (pe_op op_and (pe_op op_shr (pv 3) (pv 6)) pe_int) pe_int (nomark _))))) (fun _ _ _ _ _ => (by exact (pv 3)))) pa_nil)))) (pss_cons (ps_set (i := 8) sc_Storage_check_plan.nd rfl (Or.inl rfl) (pe_meth (pv 0) T.l_Storage T.m_Storage_cold_hours_needed (ok_Storage_cold_hours_needed T) (hr.mono (by decide)) T.b_Storage_cold_hours_needed .nil pass0 (by exact (pa_cons (pe_ix ix_list (pe_fld (pv 0) rfl) (pv 6) (fun _ _ => rfl)) pa_nil)))) (pss_one (ps_if (PW.pt (pw_or (pt_cmpR op_lt (pv 8) pe_int (nomark _)) (pw_or1 (pt_cmpR op_lt (pv 7) (pv 8) (nomark _))))) (pss_one (ps_ret (pe_lst (pa_cons pe_int pa_nil)))) pss_nil))))) (pss_one (ps_ret (pe_lst (pa_cons pe_int pa_nil)))))))), ?_⟩)
  · obtain ⟨a, L, r, s, m, rs, rfl, _⟩ := h
    rfl
  · obtain ⟨a, L, r, s, m, rs, rfl, hS, ok, hR, hRl, k⟩ := h
    obtain ⟨dx, so⟩ := hS.obj
    obtain ⟨ws, hw, hwl⟩ := hS.lots.list
    have n4 := ok.n4
    have e0 : (Kh430.apply s (.checkPlan m rs)).2 = if Kh430.isSet s m = false ∨ Kh430.isPlan s rs = false then Kh430.single (-22) else Kh430.ofBool (Kh430.isPlanFor s m rs) := rfl
    have bad : ¬ (m < 2 ^ s.lots.length ∧ rs.length ≤ 6 ∧ ∀ x ∈ rs, x < 2 ^ s.lots.length) → RetE A (-22) H E := fun z => k.no (by
      rw [e0, if_pos]
      by_cases y : Kh430.isSet s m = false
      · exact .inl y
      · refine .inr ?_
        rw [← Bool.not_eq_true, isPlan_iff]
        intro q
        refine z ⟨?_, q⟩
        unfold Kh430.isSet at y
        rw [Bool.not_eq_false, decide_eq_true_eq] at y
        exact y) (by decide)
    refine q_chk (ok := decide (((lN rs).length : Int) ≤ 6)) (ea_two (ev_op (ev_len2 (ev_var rfl) (sq_of hR)) ev_c rv_I0) ev_c) chk_check (fun h6 H2 e2 => ?_) (fun h6 => bad (fun z => by
      have := of_decide_eq_false h6
      rw [lN_len] at this
      omega))
    have h6' : rs.length ≤ 6 := by have := of_decide_eq_true h6; rw [lN_len] at this; omega
    -- for one in [mask] + plan: check_mask(one, len(self.lots))
    refine q_forNLn (xs := lN (m :: rs)) (j := 3) (fun Hx ex Qx qx => el_cat (xs := [nN m]) (el_lst (ea_one (ev_var rfl)) (by show 1 ≤ 100000; decide)) (ev_var rfl) (e2 _ _ hR) (by rw [lN_len]; show 1 + rs.length ≤ 100000; omega) Hx ex Qx qx)
      (fun q i σ' H' => ∃ v, σ' = [some (.ref a), some (nN m), some (.ref r), v, none, none, none, none, none] ∧ Ex H H' ∧ H' q = some (.lst (lN (m :: rs))) ∧ ∀ (j x : Nat), j < i → (m :: rs)[j]? = some x → x < 2 ^ s.lots.length)
      (fun q H3 _ e3 h3 => ⟨none, rfl, e2.trans e3, h3, fun j x hj => absurd hj (Nat.not_lt_zero _)⟩) (fun q i σ' H' _ ⟨_, _, _, h3, _⟩ => sq_of h3) ?_ ?_
    · rintro q i x σ' H3 hx ⟨v, rfl, e3, h3, hall⟩
      obtain ⟨z, hz, rfl⟩ := lN_inv hx
      refine s_chk (ea_two (ev_var rfl) (ev_len2 (ev_fld (ev_var rfl) (e3 _ _ so) T.l_Storage T.n_Storage_lots s_lots) (sq_of (e3 _ _ hw)))) (chk_mask (m := z) (n := ws.length) (by omega)) (fun hb H4 e4 => ⟨_, rfl, e3.trans e4, e4 _ _ h3, fun j y hj hy => ?_⟩) (fun hb => (bad ?_).mono e3)
      · by_cases qq : j = i
        · subst qq
          rw [hz] at hy
          cases hy
          rw [← hwl]
          exact of_decide_eq_true hb
        · exact hall j y (by omega) hy
      · rintro ⟨y1, _, y2⟩
        have hnot := of_decide_eq_false hb
        rw [hwl] at hnot
        rcases List.mem_cons.mp (List.mem_of_getElem? hz) with y | y
        · rw [y] at hnot; exact hnot y1
        · exact hnot (y2 z y)
    rintro q σ' H3 ⟨v, rfl, e3, _, hall'⟩
    have hall : ∀ x ∈ (m :: rs), x < 2 ^ s.lots.length := fun x hx => by
      obtain ⟨j, hj⟩ := List.mem_iff_getElem?.mp hx
      exact hall' j x (by rw [lN_len]; exact at_lt hj) hj
    have hm := hall m List.mem_cons_self
    have hrs : ∀ x ∈ rs, x < 2 ^ s.lots.length := fun x hx => hall x (List.mem_cons_of_mem _ hx)
    have er : (Kh430.apply s (.checkPlan m rs)).2 = Kh430.ofBool (Kh430.isPlanFor s m rs) := by
      rw [e0, if_neg]
      rintro (z | z)
      · unfold Kh430.isSet at z
        rw [decide_eq_true hm] at z
        cases z
      · rw [isPlan_iff.mpr ⟨h6', hrs⟩] at z
        cases z
    -- for hour, one in enumerate(plan)
    refine q_forE (i := 4) (j := 3) (ea_one (ev_var rfl)) (sq_of (e3 _ _ hR)) (fun i σ' H' => ∃ v3 v4 v5 v6, σ' = [some (.ref a), some (nN m), some (.ref r), v3, v4, v5, v6, none, none] ∧ Ex H H' ∧ ∀ (j x : Nat), j < i → rs[j]? = some x → badHour s j x = false)
      (fun H4 e4 => ⟨_, _, _, _, rfl, e3.trans e4, fun j x hj => absurd hj (Nat.not_lt_zero _)⟩) (fun i σ' H' _ ⟨_, _, _, _, _, e4, _⟩ => sq_of (e4 _ _ hR)) ?_ ?_
    · rintro i x σ' H4 H5 hx ⟨v3, v4, v5, v6, rfl, e4, hno⟩ e5
      obtain ⟨z, hz, rfl⟩ := lN_inv hx
      have e45 := e4.trans e5
      have hzlt := hrs z (List.mem_of_getElem? hz)
      have hbl := bl_le hzlt
      have hzm : ∀ (j : Nat) l, (membersOf z)[j]? = some l → l < s.lots.length := fun j l hj => by
        have := List.mem_of_getElem? hj
        rw [members_eq hzlt] at this
        exact (mem_members.mp this).1
      refine q_asgL (xs := lN (membersOf z)) (el_call (ea_one (ev_var rfl)) (spl_members (by omega))) fun mA H6 _ e6 hmA => ?_
      have e46 := e45.trans e6
      have hany : ((membersOf z).map fun l => decide ((Kh430.lotAt s l).hours ≤ i)).any id = (membersOf z).any fun l => decide ((Kh430.lotAt s l).hours ≤ i) := by
        rw [List.any_map]
        rfl
      refine s_when (b := badHour s i z) (et_is (et_or (a := decide (s.capacity < (membersOf z).length)) (b := (membersOf z).any fun l => decide ((Kh430.lotAt s l).hours ≤ i)) (et_is (et_test (ev_op (ev_len2 (ev_var rfl) (sq_of hmA)) (ev_fld (ev_var rfl) (e46 _ _ so) T.l_Storage T.n_Storage_capacity s_cap) rv_I0)) (decide_eq_decide.mpr (by rw [lN_len]; omega)))
        (fun _ => et_is (et_B (ev_anyL (bs := (membersOf z).map fun l => decide ((Kh430.lotAt s l).hours ≤ i)) (fun Hx ex Qx qx => el_lcL (j := 6) (fun _ => true) (fun j => .bl (decide ((Kh430.lotAt s ((membersOf z).getD j 0)).hours ≤ i))) (ev_var rfl) (sq_of hmA) (by rw [lN_len]; have := members_len s.lots.length z; rw [members_eq hzlt]; omega) (fun _ => rfl) (fun j x H7 e7 hx => et_yes)
          (fun j x H7 e7 hx _ => ?_) Hx ex Qx (fun rA H7 h1 h2 h3 => qx rA H7 h1 h2 ?_)))) hany)) rfl) (fun hb H7 e7 => ?_) (fun hb H7 e7 => ?_)
      · obtain ⟨l, hl, rfl⟩ := lN_inv hx
        rw [getD_of hl]
        obtain ⟨_, la, h1, _, h3, dl, hl1⟩ := hS.lots.item (get_lotAt (hzm j l hl))
        have e47 := e46.trans e7
        exact ev_is (ev_op (ev_var rfl) (ev_fld (ev_op (ev_fld (ev_var rfl) (e47 _ _ so) T.l_Storage T.n_Storage_lots s_lots) (ev_var rfl) (rv_ixL (sq_of (e47 _ _ h1)) (atI_get h3))) (e47 _ _ hl1) T.l_Lot T.n_Lot_hours lot_hours) rv_I0) (congrArg V.bl (decide_eq_decide.mpr (by omega)))
      · rw [h3, lN_len, given_of (membersOf z) (fun l => .bl (decide ((Kh430.lotAt s l).hours ≤ i))) _ (fun j l hl => by rw [getD_of hl]), List.map_map]
        rfl
      · have e47 := e46.trans e7
        refine s_retL (el_lst (ea_one ev_c) (by show 1 ≤ 100000; decide)) fun p H8 hp8 e8 h8 => ?_
        exact (k.yes (r' := Kh430.single 0) (by rw [er, plan_bad hrs hz hb]; rfl) (by decide) rfl) p H8 (fresh_back e47 hp8) (e47.trans e8) h8
      · refine ⟨_, _, _, _, rfl, e46.trans e7, fun j y hj hy => ?_⟩
        by_cases qq : j = i
        · subst qq
          rw [hz] at hy
          cases hy
          exact hb
        · exact hno j y (by omega) hy
    rintro σ' H4 ⟨v3, v4, v5, v6, rfl, e4, hno'⟩
    have hno : ∀ h x, rs[h]? = some x → badHour s h x = false := fun h x hx => hno' h x (by rw [lN_len]; exact at_lt hx) hx
    have hmb := bl_le hm
    -- for lot in members_of(mask)
    refine q_forNLn (xs := lN (membersOf m)) (j := 6) (el_call (ea_one (ev_var rfl)) (spl_members (m := m) (by omega))) (fun q i σ' H' => ∃ w3 w4 w5 w6 w7 w8, σ' = [some (.ref a), some (nN m), some (.ref r), w3, w4, w5, w6, w7, w8] ∧ Ex H H' ∧ H' q = some (.lst (lN (membersOf m))) ∧
        ∀ (j l : Nat), j < i → (membersOf m)[j]? = some l → (decide (needI s (Kh430.lotAt s l) < 0) || decide ((coldOf rs l : Int) < needI s (Kh430.lotAt s l))) = false)
      (fun q H5 _ e5 h5 => ⟨_, _, _, _, _, _, rfl, e4.trans e5, h5, fun j l hj => absurd hj (Nat.not_lt_zero _)⟩) (fun q i σ' H' _ ⟨_, _, _, _, _, _, _, _, h5, _⟩ => sq_of h5) ?_ ?_
    · rintro q i x σ' H5 hx ⟨w3, w4, w5, w6, w7, w8, rfl, e5, h5, hall⟩
      obtain ⟨l, hl, rfl⟩ := lN_inv hx
      have hln : l < s.lots.length := by
        have := List.mem_of_getElem? hl
        rw [members_eq hm] at this
        exact (mem_members.mp this).1
      obtain ⟨_, la, h1, _, h3, hl1⟩ := hS.lots.item (get_lotAt hln)
      have hh := ok.hrs _ (lotAt_mem hln)
      have hcount : (given (lN rs).length (fun j => Kh430.isMember (rs.getD j 0) l) (fun j => nN (rs.getD j 0))).length = coldOf rs l := by
        rw [lN_len]
        exact given_count rs (fun x => Kh430.isMember x l) _ _ fun j x hx => by rw [getD_of hx]
      -- cold = len([one for one in plan if one >> lot & 1 == 1])
      refine q_asg (ev_is (ev_lenL (el_lcL (j := 3) (fun j => Kh430.isMember (rs.getD j 0) l) (fun j => nN (rs.getD j 0)) (ev_var rfl) (sq_of (e5 _ _ hR)) (by rw [lN_len]; omega) (fun _ => rfl) (fun j x H6 e6 hx => ?_) (fun j x H6 e6 hx _ => ?_))) (congrArg (fun n : Nat => V.int (n : Int)) hcount)) fun H6 e6 => ?_
      · obtain ⟨z, hz, rfl⟩ := lN_inv hx
        rw [getD_of hz]
        exact et_bit (ev_var rfl) (ev_var rfl)
      · obtain ⟨z, hz, rfl⟩ := lN_inv hx
        rw [getD_of hz]
        exact ev_var rfl
      have e56 := e5.trans e6
      refine q_asg (ev_meth (ev_var rfl) (e56 _ _ so) (s_no rfl) (ea_one (ev_op (ev_fld (ev_var rfl) (e56 _ _ so) T.l_Storage T.n_Storage_lots s_lots) (ev_var rfl) (rv_ixL (sq_of (e56 _ _ h1)) (atI_get h3)))) (spv_need (e56 _ _ so) (hl1.mono e56) (by omega) (by have := ok.cw; have := ok.w20; omega) (by have := ok.w20; omega))) fun H7 e7 => ?_
      have e57 := e56.trans e7
      refine s_when (b := decide (needI s (Kh430.lotAt s l) < 0) || decide ((coldOf rs l : Int) < needI s (Kh430.lotAt s l))) (et_or (et_test (ev_op (ev_var rfl) ev_c rv_I0)) (fun _ => et_test (ev_op (ev_var rfl) (ev_var rfl) rv_I0))) (fun hb H8 e8 => ?_) (fun hb H8 e8 => ?_)
      · have e58 := e57.trans e8
        refine s_retL (el_lst (ea_one ev_c) (by show 1 ≤ 100000; decide)) fun p H9 hp9 e9 h9 => ?_
        exact (k.yes (r' := Kh430.single 0) (by rw [er, check_bad ok hm hrs hno hl hb]; rfl) (by decide) rfl) p H9 (fresh_back e58 hp9) (e58.trans e9) h9
      · refine ⟨_, _, _, _, _, _, rfl, e57.trans e8, ((e6.trans e7).trans e8) _ _ h5, fun j l' hj hl' => ?_⟩
        by_cases qq : j = i
        · subst qq
          rw [hl] at hl'
          cases hl'
          exact hb
        · exact hall j l' (by omega) hl'
    · rintro q σ' H5 ⟨w3, w4, w5, w6, w7, w8, rfl, e5, h5, hall⟩
      refine s_retL (el_lst (ea_one ev_c) (by show 1 ≤ 100000; decide)) fun p H9 hp9 e9 h9 => ?_
      refine (k.yes (r' := Kh430.single 1) (by rw [er, check_good ok hm hrs hno (fun j l hl => hall j l (by rw [lN_len]; exact at_lt hl) hl)]; rfl) (by decide) rfl) p H9 (fresh_back e5 hp9) (e5.trans e9) h9
end
end Cold

namespace Cold
open PySem PySem.Spec PyProof.Rows L2 Evl
/-! ### the calls that change the storage -/
section
variable {A : Ad} {H H' : Hp} {a L r : Addr} {s : Kh430.Store} {x : Kh430.Lot} {ls : List Kh430.Lot} {vs : List V} {dx : Addr}
theorem lot_ne_list (h : LotAt A H r x) (hL : H L = some (.lst vs)) : r ≠ L := fun z => by
  obtain ⟨d, o⟩ := h
  rw [z, hL] at o
  injection o with o
  cases o
theorem lot_ne_sto (h : LotAt A H r x) (ha : H a = some (.ins A.c_Storage dx (sF s L))) : r ≠ a := fun z => by
  obtain ⟨d, o⟩ := h
  rw [z, ha] at o
  injection o with o
  injection o with _ _ o
  unfold sF lotF at o
  injection o with _ o
  injection o with _ o
  cases o
theorem sto_ne_list (ha : H a = some (.ins A.c_Storage dx (sF s L))) (hL : H r = some (.lst vs)) : a ≠ r := fun z => by
  rw [z, hL] at ha
  injection ha with ha
  cases ha
/-- the storage's own fields change -/
theorem StoAt.set {s' : Kh430.Store} {L' : Addr} (ha : H a = some (.ins A.c_Storage dx (sF s L))) (hl : LotsAt A H L' s'.lots) : StoAt A (upd H a (.ins A.c_Storage dx (sF s' L'))) a L' s' := by
  obtain ⟨vs, h1, h2, h3⟩ := hl
  refine ⟨⟨dx, upd_same⟩, vs, ?_, h2, fun i x hi => ?_⟩
  · rw [upd_ne (Ne.symm (sto_ne_list ha h1))]
    exact h1
  · obtain ⟨r, h4, d, h5⟩ := h3 i x hi
    have : r ≠ a := lot_ne_sto ⟨d, h5⟩ ha
    exact ⟨r, h4, d, by rw [upd_ne this]; exact h5⟩
/-- the list of lots changes -/
theorem StoAt.relist {s' : Kh430.Store} {ws : List V} (ha : H a = some (.ins A.c_Storage dx (sF s L))) (hL : H L = some (.lst vs)) (hf : sF s' L = sF s L) (hlen : ws.length = s'.lots.length) (hi : ∀ (i : Nat) x, s'.lots[i]? = some x → ∃ r, ws[i]? = some (.ref r) ∧ LotAt A H r x) :
    StoAt A (upd H L (.lst ws)) a L s' := by
  refine ⟨⟨dx, ?_⟩, ws, upd_same, hlen, fun i x hx => ?_⟩
  · rw [upd_ne (sto_ne_list ha hL), hf]
    exact ha
  · obtain ⟨r, h4, d, h5⟩ := hi i x hx
    have : r ≠ L := lot_ne_list ⟨d, h5⟩ hL
    exact ⟨r, h4, d, by rw [upd_ne this]; exact h5⟩
end
section
variable {A : Ad} {r : Kh430.Store × Kh430.Result} {H : Hp} {a L : Addr} {Q : VK} {E : XK}
theorem AnsM.no (k : AnsM A r H a L Q E) {c : Int} (e : r.2 = Kh430.single c) (h : c < 0) : RetE A c H E := by
  have k2 := k.2
  rw [e] at k2
  exact k2 h
theorem AnsM.yes (k : AnsM A r H a L Q E) {s' : Kh430.Store} {r' : Kh430.Result} (e : r = (s', r')) (h : 0 ≤ r'.status) {xs : List V} (ex : lI (res r') = xs) {p : Addr} {H2 : Hp} {L2 : Addr} (hp : H p = none) (hS : StoAt A H2 a L2 s') (hL : L2 = L ∨ H L2 = none)
    (keep : ∀ b o, H b = some o → b ≠ a → b ≠ L → H2 b = some o) (h2 : H2 p = some (.lst xs)) : Q (.ref p) H2 := by
  subst e ex
  exact k.1 h p H2 L2 hp hS hL keep h2
end
section
variable {K : PySem.W.Frag} {σ : L2.St} {H : Hp} {ta tb tc te tv : TE} {D : Ends} {tz : TS} {P : Addr → Hp → Prop}
theorem ev_chain {i j k : Int} (ha : Ev ta σ H (.int i)) (hb : Ev tb σ H (.int j)) (hc : Ev tc σ H (.int k)) : Ev (tChain (rI0 fun i j => .bl (decide (i ≤ j))) (rI0 fun i j => .bl (decide (i ≤ j))) ta tb tc) σ H (.bl (decide (i ≤ j) && decide (j ≤ k))) := fun H1 e Q q =>
  ha H1 e _ fun H2 e2 => hb H2 (e.trans e2) _ fun H3 e3 => ⟨i, j, rfl, rfl, decide (i ≤ j), rfl, by
    cases h : decide (i ≤ j) with
    | true =>
      refine iteT (hc H3 ((e.trans e2).trans e3) _ fun H4 e4 => ⟨j, k, rfl, rfl, ?_⟩)
      have := q H4 ((e2.trans e3).trans e4)
      rw [h, Bool.true_and] at this
      exact this
    | false =>
      refine iteF ?_
      have := q H3 (e2.trans e3)
      rw [h, Bool.false_and] at this
      exact this⟩
/-- xs.append(e), e new -/
theorem s_appN {l : Addr} {xs : List V} (hl : H l = some (.lst xs)) (ha : Ev ta σ H (.ref l)) (h : EvN te σ H P) (hz : xs.length < 100000) (k : ∀ p H1, H p = none → Ex H H1 → P p H1 → D.nx σ (upd H1 l (.lst (xs ++ [.ref p])))) :
    tDrop (tBM K "list" rAppend ta (tCons te tNil)) D σ H := ha H (Ex.refl H) _ fun H1 e1 =>
  ⟨Or.inl ⟨rfl, xs, sq_of (e1 l _ hl)⟩, h H1 e1 _ fun p H2 hp e2 h2 => ⟨l, xs, .ref p, rfl, rfl, e2 l _ (e1 l _ hl), sz_lt hz, k p H2 (fresh_back e1 hp) (e1.trans e2) h2⟩⟩
theorem q_appN {l : Addr} {xs : List V} (hl : H l = some (.lst xs)) (ha : Ev ta σ H (.ref l)) (h : EvN te σ H P) (hz : xs.length < 100000) (k : ∀ p H1, H p = none → Ex H H1 → P p H1 → tz D σ (upd H1 l (.lst (xs ++ [.ref p])))) :
    tSeq (tDrop (tBM K "list" rAppend ta (tCons te tNil))) tz D σ H := s_appN (D := { D with nx := tz D }) hl ha h hz k
theorem seq_nat {i n : Nat} (h : i < n) : seqIndex? (i : Int) n = some i := by
  unfold seqIndex?
  simp only [Int.natCast_nonneg, decide_true, Bool.and_true]
  split
  · omega
  · simp
    omega
/-- xs.pop(i) -/
theorem q_pop {l : Addr} {xs : List V} {i : Nat} {y : V} (hl : H l = some (.lst xs)) (ha : Ev ta σ H (.ref l)) (h : Ev te σ H (nN i)) (hi : xs[i]? = some y) (hz : i < 100000) (k : ∀ H1, Ex H H1 → tz D σ (upd H1 l (.lst (xs.eraseIdx i)))) :
    tSeq (tDrop (tBM K "list" rPopAt ta (tCons te tNil))) tz D σ H := ha H (Ex.refl H) _ fun H1 e1 =>
  ⟨Or.inl ⟨rfl, xs, sq_of (e1 l _ hl)⟩, h H1 e1 _ fun H2 e2 => ⟨l, xs, (i : Int), i, y, rfl, rfl, e2 l _ (e1 l _ hl), by omega, by omega, seq_nat (at_lt hi), hi, k H2 (e1.trans e2)⟩⟩
/-- o.f += e -/
theorem q_fldaug {a C dx : Addr} {fs : List (Str × V)} {f : Str} {i j : Int} (ha : Ev ta σ H (.ref a)) (hH : H a = some (.ins C dx fs)) (c : Cls K C) (n : NoAttr K C f) (l : fs.lookup f = some (.int i)) (hv : Ev tv σ H (.int j)) (hl : fs.length < 1000)
    (k : ∀ H1, Ex H H1 → tz D σ (upd H1 a (.ins C dx (putF f (.int (i + j)) fs)))) : tSeq (sFldAug K ta tv L2.rAdd f) tz D σ H :=
  ha H (Ex.refl H) _ fun H1 e1 => ⟨a, C, dx, fs, .int i, rfl, e1 a _ hH, c, n, l, hv H1 e1 _ fun H2 e2 => ⟨i, j, rfl, rfl, dx, fs, e2 a _ (e1 a _ hH), hl, k H2 (e1.trans e2)⟩⟩
/-- self.pass_hour(mask) -/
theorem q_pass {A : Ad} {a L : Addr} {s : Kh430.Store} {m i : Nat} (hS : StoAt A H a L s) (ok : Ok s) (ha : Ev ta σ H (.ref a)) (hm : Ev tb σ H (nN m))
    (k : ∀ p H2 L2, H p = none → StoAt A H2 a L2 (Kh430.afterHour s m) → H L2 = none → (∀ b o, H b = some o → b ≠ a → H2 b = some o) → H2 p = some (.lst [nN (leftTo s m s.lots.length), nN (spoiledTo s m s.lots.length)]) → tz D (σ.set i (some (.ref p))) H2) :
    tSeq (tAsg (tMeth A.c_Storage "pass_hour" (spPass A) [] E0 ta (tCons tb tNil)) (gName i)) tz D σ H :=
  ha H (Ex.refl H) _ fun H1 e1 => by
    obtain ⟨d1, o1⟩ := (hS.mono e1).obj
    refine ⟨a, d1, _, rfl, o1, s_no rfl, hm H1 e1 _ fun H2 e2 => ?_⟩
    have e12 := e1.trans e2
    exact ⟨a, L, s, m, rfl, hS.mono e12, ok, fun p H3 L3 hp hS3 hL3 keep h3 => k p H3 L3 (fresh_back e12 hp) hS3 (fresh_back e12 hL3) (fun b o hb ne => keep b o (e12 _ _ hb) ne) h3⟩
end
section
variable {P : Program} {w : World} {K : PySem.W.Frag} {mg : Str → Option Value} {base : Heap} {A : Ad}
theorem ok_Storage_add_lot (T : Txt K mg A) : FnOk P w K mg base (L2.CX P w) 11 A.f_Storage_add_lot A.d_Storage_add_lot ["self", "life", "hours"] (spM2 A .addLot) := by
  refine T.F_Storage_add_lot.okX sc_Storage_add_lot (fun vs H Q E h => ?_) (fun cdv Ar outer s H vs Q E hr h => ⟨_, (pss_cons (ps_expr (pe_call (ok_check T) (hr.mono (by decide)) rfl T.g_check T.F_check.kp T.b_check .nil (passes_call (takes_of rfl rfl rfl rfl) (fun _ _ _ _ z => z)) (by exact (pa_cons (pe_and (pe_chain op_le op_le pe_int (pv 1) (pe_gint rfl T.k_LIFE_AT_MOST)) (pe_one (pe_chain op_le op_le pe_int (pv 2) (pe_gint rfl T.k_HOURS_AT_MOST)))) (pa_cons (pe_gint rfl T.k_OUT_OF_RANGE) pa_nil))))) (pss_cons (ps_expr (pe_call (ok_check T) (hr.mono (by decide)) rfl T.g_check T.F_check.kp T.b_check .nil (passes_call (takes_of rfl rfl rfl rfl) (fun _ _ _ _ z => z)) (by exact (pa_cons (pe_cmpR op_lt (pe_callB call_len_seq rfl T.z_len (by decide +kernel) (by exact (pa_cons (pe_fld (pv 0) rfl) pa_nil))) (pe_gint rfl T.k_LOTS_AT_MOST) (nomark _)) (pa_cons (pe_gint rfl T.k_FULL) pa_nil))))) (pss_cons (ps_expr (pe_bm PySem.F.plainAttrs_list PySem.F.slot_list_append PySem.F.type_list_append mt_append (pe_fld (pv 0) rfl) (pa_cons (pe_make T.m_Lot (ok_Lot_init T) (hr.mono (by decide)) rfl T.g_Lot T.b_Lot_init .nil pass0 (by exact (pa_cons (pv 1) (pa_cons (pv 2) pa_nil)))) pa_nil))) (pss_one (ps_ret (pe_lst (pa_cons (pe_op op_sub (pe_callB call_len_seq rfl T.z_len (by decide +kernel) (by exact (pa_cons (pe_fld (pv 0) rfl) pa_nil))) pe_int) pa_nil))))))), ?_⟩)
  · obtain ⟨a, L, s, m, n, rfl, _⟩ := h
    rfl
  · obtain ⟨a, L, s, m, n, rfl, hS, ok, k⟩ := h
    obtain ⟨dx, so⟩ := hS.obj
    obtain ⟨ws, hw, hwl⟩ := hS.lots.list
    have n4 := ok.n4
    have e0 : Kh430.apply s (.addLot m n) = if m < 1 ∨ 99 < m ∨ n < 1 ∨ Kh430.maxHours < n then (s, Kh430.single (-22)) else if Kh430.maxLots ≤ s.lots.length then (s, Kh430.single (-28)) else ({ s with lots := s.lots ++ [⟨m, n⟩] }, Kh430.single s.lots.length) := rfl
    have m6 : Kh430.maxHours = 6 := rfl
    have m4 : Kh430.maxLots = 4 := rfl
    refine q_chk (ok := (decide (1 ≤ (m : Int)) && decide ((m : Int) ≤ 99)) && (decide (1 ≤ (n : Int)) && decide ((n : Int) ≤ 6))) (ea_two (ev_andV (ev_chain ev_c (ev_var rfl) ev_c) (fun _ => ev_chain ev_c (ev_var rfl) ev_c)) ev_c) chk_check (fun h1 H1 e1 => ?_) (fun h1 => k.no (by
      rw [e0, if_pos]
      by_cases z : m < 1 ∨ 99 < m ∨ n < 1 ∨ Kh430.maxHours < n
      · exact z
      · rw [m6] at z
        have z1 : (1 ≤ (m : Int)) := by omega
        have z2 : ((m : Int) ≤ 99) := by omega
        have z3 : (1 ≤ (n : Int)) := by omega
        have z4 : ((n : Int) ≤ 6) := by omega
        rw [decide_eq_true z1, decide_eq_true z2, decide_eq_true z3, decide_eq_true z4] at h1
        cases h1) (by decide))
    have h1' : ¬ (m < 1 ∨ 99 < m ∨ n < 1 ∨ Kh430.maxHours < n) := by
      rw [Bool.and_eq_true, Bool.and_eq_true, Bool.and_eq_true, decide_eq_true_eq, decide_eq_true_eq, decide_eq_true_eq, decide_eq_true_eq] at h1
      rw [m6]
      omega
    rw [if_neg h1'] at e0
    refine q_chk (ok := decide (((ws.length : Nat) : Int) < 4)) (ea_two (ev_op (ev_len2 (ev_fld (ev_var rfl) (e1 _ _ so) T.l_Storage T.n_Storage_lots s_lots) (sq_of (e1 _ _ hw))) ev_c rv_I0) ev_c) chk_check (fun h2 H2 e2 => ?_) (fun h2 => (k.no (by rw [e0, if_pos]; rw [m4]; have := of_decide_eq_false h2; omega) (by decide)).mono e1)
    have h2' : ¬ Kh430.maxLots ≤ s.lots.length := by rw [m4]; have := of_decide_eq_true h2; omega
    rw [if_neg h2'] at e0
    have e12 := e1.trans e2
    -- self.lots.append(Lot(life, hours))
    refine q_appN (P := fun p H => LotAt A H p ⟨m, n⟩) (e12 _ _ hw) (ev_fld (ev_var rfl) (e12 _ _ so) T.l_Storage T.n_Storage_lots s_lots) (en_make (ea_two (ev_var rfl) (ev_var rfl)) (ini_lot (x := ⟨m, n⟩))) (by omega) fun p H3 hp e3 h3 => ?_
    have e13 := e12.trans e3
    have hS4 : StoAt A (upd H3 L (.lst (ws ++ [.ref p]))) a L { s with lots := s.lots ++ [⟨m, n⟩] } := by
      refine StoAt.relist (e13 _ _ so) (e13 _ _ hw) rfl (by rw [List.length_append, List.length_append, hwl]; rfl) fun i x hx => ?_
      rcases Nat.lt_or_ge i s.lots.length with hi | hi
      · have hx' : s.lots[i]? = some x := by
          have : (s.lots ++ [(⟨m, n⟩ : Kh430.Lot)])[i]? = some x := hx
          rw [List.getElem?_append_left hi] at this
          exact this
        obtain ⟨_, r, q1, _, q3, q4⟩ := hS.lots.item hx'
        rw [hw] at q1
        cases q1
        exact ⟨r, by rw [List.getElem?_append_left (by omega)]; exact q3, q4.mono e13⟩
      · have hx' : (s.lots ++ [(⟨m, n⟩ : Kh430.Lot)])[i]? = some x := hx
        rw [List.getElem?_append_right hi] at hx'
        have hi0 : i - s.lots.length = 0 := by
          have := at_lt hx'
          rw [List.length_singleton] at this
          omega
        rw [hi0] at hx'
        have hx2 : (⟨m, n⟩ : Kh430.Lot) = x := Option.some.inj hx'
        refine ⟨p, ?_, by rw [← hx2]; exact h3⟩
        rw [List.getElem?_append_right (by omega), hwl, hi0]
        rfl
    have hwL : (upd H3 L (.lst (ws ++ [.ref p]))) L = some (.lst (ws ++ [.ref p])) := upd_same
    have keep4 : ∀ b o, H b = some o → b ≠ L → (upd H3 L (.lst (ws ++ [.ref p]))) b = some o := fun b o hb ne => by
      rw [upd_ne ne]
      exact e13 _ _ hb
    generalize upd H3 L (.lst (ws ++ [.ref p])) = H4 at hS4 hwL keep4 ⊢
    obtain ⟨d4, o4⟩ := hS4.obj
    have hn1 : (((ws ++ [V.ref p]).length : Nat) : Int) - 1 = (s.lots.length : Int) := by
      rw [List.length_append, hwl]
      show ((s.lots.length + 1 : Nat) : Int) - 1 = _
      omega
    refine s_retL (el_lst (ea_one (ev_op (ev_len2 (ev_fld (ev_var rfl) o4 T.l_Storage T.n_Storage_lots s_lots) (sq_of hwL)) ev_c rv_I0)) (by show 1 ≤ 100000; decide)) fun q H5 hq e5 h5 => ?_
    have hq0 : H q = none := by
      cases z : H q with
      | none => rfl
      | some o =>
        by_cases y : q = L
        · rw [y, hwL] at hq
          cases hq
        · rw [keep4 q o z y] at hq
          cases hq
    refine k.yes e0 (Int.natCast_nonneg _) rfl hq0 (hS4.mono e5) (.inl rfl) (fun b o hb _ ne => e5 _ _ (keep4 b o hb ne)) ?_
    rw [h5, hn1]
    rfl
theorem ok_Storage_remove_lot (T : Txt K mg A) : FnOk P w K mg base (L2.CX P w) 11 A.f_Storage_remove_lot A.d_Storage_remove_lot ["self", "lot"] (spM1 A .removeLot) := by
  refine T.F_Storage_remove_lot.okX sc_Storage_remove_lot (fun vs H Q E h => ?_) (fun cdv Ar outer s H vs Q E hr h => ⟨_, (pss_cons (ps_expr (pe_call (ok_check T) (hr.mono (by decide)) rfl T.g_check T.F_check.kp T.b_check .nil (passes_call (takes_of rfl rfl rfl rfl) (fun _ _ _ _ z => z)) (by exact (pa_cons (pe_cmpR op_lt (pv 1) (pe_callB call_len_seq rfl T.z_len (by decide +kernel) (by exact (pa_cons (pe_fld (pv 0) rfl) pa_nil))) (nomark _)) (pa_cons (pe_gint rfl T.k_NOT_THERE) pa_nil))))) (pss_cons (ps_expr (pe_bm PySem.F.plainAttrs_list PySem.F.slot_list_pop PySem.F.type_list_pop mt_popAt (pe_fld (pv 0) rfl) (pa_cons (pv 1) pa_nil))) (pss_one (ps_ret (pe_lst (pa_cons (pe_callB call_len_seq rfl T.z_len (by decide +kernel) (by exact (pa_cons (pe_fld (pv 0) rfl) pa_nil))) pa_nil)))))), ?_⟩)
  · obtain ⟨a, L, s, m, rfl, _⟩ := h
    rfl
  · obtain ⟨a, L, s, m, rfl, hS, ok, k⟩ := h
    obtain ⟨dx, so⟩ := hS.obj
    obtain ⟨ws, hw, hwl⟩ := hS.lots.list
    have n4 := ok.n4
    have e0 : Kh430.apply s (.removeLot m) = if Kh430.isLot s m = false then (s, Kh430.single (-2)) else ({ s with lots := s.lots.eraseIdx m }, Kh430.single (s.lots.length - 1 : Nat)) := rfl
    refine q_chk (ok := decide ((m : Int) < (ws.length : Nat))) (ea_two (ev_op (ev_var rfl) (ev_len2 (ev_fld (ev_var rfl) so T.l_Storage T.n_Storage_lots s_lots) (sq_of hw)) rv_I0) ev_c) chk_check (fun hm H1 e1 => ?_) (fun hm => k.no (by rw [e0, if_pos (show Kh430.isLot s m = false from decide_eq_false (by have := of_decide_eq_false hm; omega))]) (by decide))
    have hm' : m < s.lots.length := by have := of_decide_eq_true hm; omega
    rw [if_neg (show ¬ Kh430.isLot s m = false by unfold Kh430.isLot; rw [decide_eq_true hm']; exact Bool.noConfusion)] at e0
    obtain ⟨_, r0, q1, _, q3, _⟩ := hS.lots.item (get_lotAt hm')
    rw [hw] at q1
    cases q1
    refine q_pop (i := m) (e1 _ _ hw) (ev_fld (ev_var rfl) (e1 _ _ so) T.l_Storage T.n_Storage_lots s_lots) (ev_var rfl) q3 (by omega) fun H3 e3 => ?_
    have e13 := e1.trans e3
    have hlen : (ws.eraseIdx m).length = s.lots.length - 1 := by rw [List.length_eraseIdx_of_lt (by omega), hwl]
    have hS4 : StoAt A (upd H3 L (.lst (ws.eraseIdx m))) a L { s with lots := s.lots.eraseIdx m } := by
      refine StoAt.relist (e13 _ _ so) (e13 _ _ hw) rfl (by rw [hlen]; show _ = (s.lots.eraseIdx m).length; rw [List.length_eraseIdx_of_lt hm']) fun i x hx => ?_
      have hx' : (s.lots.eraseIdx m)[i]? = some x := hx
      rw [List.getElem?_eraseIdx] at hx'
      rw [List.getElem?_eraseIdx]
      split at hx'
      · rename_i hi
        rw [if_pos hi]
        obtain ⟨_, r, q1, _, q3, q4⟩ := hS.lots.item hx'
        rw [hw] at q1
        cases q1
        exact ⟨r, q3, q4.mono e13⟩
      · rename_i hi
        rw [if_neg hi]
        obtain ⟨_, r, q1, _, q3, q4⟩ := hS.lots.item hx'
        rw [hw] at q1
        cases q1
        exact ⟨r, q3, q4.mono e13⟩
    have hwL : (upd H3 L (.lst (ws.eraseIdx m))) L = some (.lst (ws.eraseIdx m)) := upd_same
    have keep4 : ∀ b o, H b = some o → b ≠ L → (upd H3 L (.lst (ws.eraseIdx m))) b = some o := fun b o hb ne => by
      rw [upd_ne ne]
      exact e13 _ _ hb
    generalize upd H3 L (.lst (ws.eraseIdx m)) = H4 at hS4 hwL keep4 ⊢
    obtain ⟨d4, o4⟩ := hS4.obj
    refine s_retL (el_lst (ea_one (ev_len2 (ev_fld (ev_var rfl) o4 T.l_Storage T.n_Storage_lots s_lots) (sq_of hwL))) (by show 1 ≤ 100000; decide)) fun q H5 hq e5 h5 => ?_
    have hq0 : H q = none := by
      cases z : H q with
      | none => rfl
      | some o =>
        by_cases y : q = L
        · rw [y, hwL] at hq
          cases hq
        · rw [keep4 q o z y] at hq
          cases hq
    refine k.yes e0 (Int.natCast_nonneg _) rfl hq0 (hS4.mono e5) (.inl rfl) (fun b o hb _ ne => e5 _ _ (keep4 b o hb ne)) ?_
    rw [h5, hlen]
    rfl
theorem ok_Storage_set_capacity (T : Txt K mg A) : FnOk P w K mg base (L2.CX P w) 11 A.f_Storage_set_capacity A.d_Storage_set_capacity ["self", "capacity"] (spM1 A .setCapacity) := by
  refine T.F_Storage_set_capacity.okX sc_Storage_set_capacity (fun vs H Q E h => ?_) (fun cdv Ar outer s H vs Q E hr h => ⟨_, (pss_cons (ps_expr (pe_call (ok_check T) (hr.mono (by decide)) rfl T.g_check T.F_check.kp T.b_check .nil (passes_call (takes_of rfl rfl rfl rfl) (fun _ _ _ _ z => z)) (by exact (pa_cons (pe_cmpR op_le (pv 1) (pe_gint rfl T.k_CAPACITY_AT_MOST) (nomark _)) (pa_cons (pe_gint rfl T.k_OUT_OF_RANGE) pa_nil))))) (pss_cons (ps_set (i := 2) sc_Storage_set_capacity.nd rfl (Or.inl rfl) (pe_fld (pv 0) rfl)) (pss_cons (ps_fld (pv 0) (pv 1) rfl) (pss_one (ps_ret (pe_lst (pa_cons (pv 2) pa_nil))))))), ?_⟩)
  · obtain ⟨a, L, s, m, rfl, _⟩ := h
    rfl
  · obtain ⟨a, L, s, m, rfl, hS, ok, k⟩ := h
    obtain ⟨dx, so⟩ := hS.obj
    have m4 : Kh430.maxLots = 4 := rfl
    have e0 : Kh430.apply s (.setCapacity m) = if Kh430.maxLots < m then (s, Kh430.single (-22)) else ({ s with capacity := m }, Kh430.single s.capacity) := rfl
    refine q_chk (ok := decide ((m : Int) ≤ 4)) (ea_two (ev_op (ev_var rfl) ev_c rv_I0) ev_c) chk_check (fun hm H1 e1 => ?_) (fun hm => k.no (by rw [e0, if_pos (by have := of_decide_eq_false hm; rw [m4]; omega)]) (by decide))
    rw [if_neg (by have := of_decide_eq_true hm; rw [m4]; omega)] at e0
    refine q_asg (ev_fld (ev_var rfl) (e1 _ _ so) T.l_Storage T.n_Storage_capacity s_cap) fun H2 e2 => ?_
    refine q_fld (ev_var rfl) (ev_var rfl) ((e1.trans e2) _ _ so) T.l_Storage T.n_Storage_capacity (by show 7 < 1000; decide) fun H3 e3 => ?_
    have e13 := (e1.trans e2).trans e3
    rw [put_cap]
    have hS4 : StoAt A (upd H3 a (.ins A.c_Storage dx (sF { s with capacity := m } L))) a L { s with capacity := m } := StoAt.set (s' := { s with capacity := m }) (e13 _ _ so) (hS.lots.mono e13)
    have o4 : (upd H3 a (.ins A.c_Storage dx (sF { s with capacity := m } L))) a = some (.ins A.c_Storage dx (sF { s with capacity := m } L)) := upd_same
    have keep4 : ∀ b o, H b = some o → b ≠ a → (upd H3 a (.ins A.c_Storage dx (sF { s with capacity := m } L))) b = some o := fun b o hb ne => by
      rw [upd_ne ne]
      exact e13 _ _ hb
    generalize upd H3 a (.ins A.c_Storage dx (sF { s with capacity := m } L)) = H4 at hS4 o4 keep4 ⊢
    refine s_retL (el_lst (ea_one (ev_var rfl)) (by show 1 ≤ 100000; decide)) fun q H5 hq e5 h5 => ?_
    have hq0 : H q = none := by
      cases z : H q with
      | none => rfl
      | some o =>
        by_cases y : q = a
        · rw [y, o4] at hq
          cases hq
        · rw [keep4 q o z y] at hq
          cases hq
    exact k.yes e0 (Int.natCast_nonneg _) rfl hq0 (hS4.mono e5) (.inl rfl) (fun b o hb ne _ => e5 _ _ (keep4 b o hb ne)) h5
theorem ok_Storage_set_losses (T : Txt K mg A) : FnOk P w K mg base (L2.CX P w) 11 A.f_Storage_set_losses A.d_Storage_set_losses ["self", "warm_loss", "cold_loss"] (spM2 A .setLosses) := by
  refine T.F_Storage_set_losses.okX sc_Storage_set_losses (fun vs H Q E h => ?_) (fun cdv Ar outer s H vs Q E hr h => ⟨_, (pss_cons (ps_expr (pe_call (ok_check_losses T) (hr.mono (by decide)) rfl T.g_check_losses T.F_check_losses.kp T.b_check_losses .nil (passes_call (takes_of rfl rfl rfl rfl) (fun _ _ _ _ z => z)) (by exact (pa_cons (pv 1) (pa_cons (pv 2) pa_nil))))) (pss_cons (ps_set (i := 3) sc_Storage_set_losses.nd rfl (Or.inl rfl) (pe_fld (pv 0) rfl)) (pss_cons (ps_fld (pv 0) (pv 1) rfl) (pss_cons (ps_fld (pv 0) (pv 2) rfl) (pss_one (ps_ret (pe_lst (pa_cons (pv 3) pa_nil)))))))), ?_⟩)
  · obtain ⟨a, L, s, m, n, rfl, _⟩ := h
    rfl
  · obtain ⟨a, L, s, m, n, rfl, hS, ok, k⟩ := h
    obtain ⟨dx, so⟩ := hS.obj
    have e0 : Kh430.apply s (.setLosses m n) = if Kh430.areValidLosses m n = false then (s, Kh430.single (-22)) else ({ s with warmLoss := m, coldLoss := n }, Kh430.single s.warmLoss) := rfl
    refine q_chk (ea_two (ev_var rfl) (ev_var rfl)) (chk_losses (w := m) (c := n)) (fun hm H1 e1 => ?_) (fun hm => k.no (by rw [e0, if_pos hm]) (by decide))
    rw [if_neg (by rw [hm]; exact Bool.noConfusion)] at e0
    refine q_asg (ev_fld (ev_var rfl) (e1 _ _ so) T.l_Storage T.n_Storage_warm_loss s_warm) fun H2 e2 => ?_
    refine q_fld (ev_var rfl) (ev_var rfl) ((e1.trans e2) _ _ so) T.l_Storage T.n_Storage_warm_loss (by show 7 < 1000; decide) fun H3 e3 => ?_
    have e13 := (e1.trans e2).trans e3
    rw [put_warm]
    refine q_fld (ev_var rfl) (ev_var rfl) upd_same T.l_Storage T.n_Storage_cold_loss (by show 7 < 1000; decide) fun H4 e4 => ?_
    rw [put_cold]
    have keep4 : ∀ b o, H b = some o → b ≠ a → H4 b = some o := fun b o hb ne => e4 _ _ (by rw [upd_ne ne]; exact e13 _ _ hb)
    have o4 : H4 a = some (.ins A.c_Storage dx (sF { s with warmLoss := m } L)) := e4 _ _ upd_same
    have hl4 : LotsAt A H4 L s.lots := by
      have := (StoAt.set (s' := { s with warmLoss := m }) (e13 _ _ so) (hS.lots.mono e13)).lots
      exact this.mono e4
    have hS5 : StoAt A (upd H4 a (.ins A.c_Storage dx (sF { s with warmLoss := m, coldLoss := n } L))) a L { s with warmLoss := m, coldLoss := n } := StoAt.set (s' := { s with warmLoss := m, coldLoss := n }) o4 hl4
    have o5 : (upd H4 a (.ins A.c_Storage dx (sF { s with warmLoss := m, coldLoss := n } L))) a = some (.ins A.c_Storage dx (sF { s with warmLoss := m, coldLoss := n } L)) := upd_same
    have keep5 : ∀ b o, H b = some o → b ≠ a → (upd H4 a (.ins A.c_Storage dx (sF { s with warmLoss := m, coldLoss := n } L))) b = some o := fun b o hb ne => by
      rw [upd_ne ne]
      exact keep4 b o hb ne
    generalize upd H4 a (.ins A.c_Storage dx (sF { s with warmLoss := m, coldLoss := n } L)) = H5 at hS5 o5 keep5 ⊢
    refine s_retL (el_lst (ea_one (ev_var rfl)) (by show 1 ≤ 100000; decide)) fun q H6 hq e6 h6 => ?_
    have hq0 : H q = none := by
      cases z : H q with
      | none => rfl
      | some o =>
        by_cases y : q = a
        · rw [y, o5] at hq
          cases hq
        · rw [keep5 q o z y] at hq
          cases hq
    exact k.yes e0 (Int.natCast_nonneg _) rfl hq0 (hS5.mono e6) (.inl rfl) (fun b o hb ne _ => e6 _ _ (keep5 b o hb ne)) h6
end
end Cold

namespace Cold
open PySem PySem.Spec PyProof.Rows L2 Evl
/-! ### hours that pass -/
section
variable {P : Program} {w : World} {K : PySem.W.Frag} {mg : Str → Option Value} {base : Heap} {A : Ad}
theorem ok_Storage_pass_hour (T : Txt K mg A) : FnOk P w K mg base CX0 11 A.f_Storage_pass_hour A.d_Storage_pass_hour ["self", "mask"] (spPass A) := by
  refine T.F_Storage_pass_hour.ok sc_Storage_pass_hour (fun vs H Q E h => ?_) (fun cdv Ar outer s H vs Q E hr h => ⟨_, (pss_cons (ps_set (i := 2) sc_Storage_pass_hour.nd rfl (Or.inl rfl) (pe_lst pa_nil)) (pss_cons (ps_set (i := 3) sc_Storage_pass_hour.nd rfl (Or.inl rfl) pe_int) (pss_cons (ps_set (i := 4) sc_Storage_pass_hour.nd rfl (Or.inl rfl) pe_int) (pss_cons (ps_for PassesOwn.never rfl (pi_enum rfl T.z_enumerate (pa_cons (pe_fld (pv 0) rfl) pa_nil)) (pg_tup rfl (pgs_cons (pg_name (i := 5) sc_Storage_pass_hour.nd rfl (Or.inl rfl)) (pgs_cons (pg_name (i := 6) sc_Storage_pass_hour.nd rfl (Or.inl rfl)) pgs_nil))) (pss_cons (ps_set (i := 7) sc_Storage_pass_hour.nd rfl (Or.inl rfl) (pe_ifExp (pt_cmpR op_eq (pe_op op_and (pe_op op_shr (pv 1) (pv 5)) pe_int) pe_int (nomark _)) (pe_fld (pv 0) rfl) (pe_fld (pv 0) rfl))) (pss_one (ps_if (pt_cmpR op_lt (pe_fld (pv 6) rfl) (pv 7) (nomark _)) (pss_one (ps_aug (i := 4) sc_Storage_pass_hour.nd rfl (Or.inl rfl) pe_int ip_add)) (pss_one (ps_if (pt_cmpR op_eq (pe_fld (pv 6) rfl) pe_int (nomark _)) (pss_one (ps_aug (i := 3) sc_Storage_pass_hour.nd rfl (Or.inl rfl) pe_int ip_add)) (pss_one (ps_expr (pe_bm PySem.F.plainAttrs_list PySem.F.slot_list_append PySem.F.type_list_append mt_append (pv 2) (pa_cons (pe_make T.m_Lot (ok_Lot_init T) (hr.mono (by decide)) rfl T.g_Lot T.b_Lot_init .nil pass0 (by exact (pa_cons (pe_op op_sub (pe_fld (pv 6) rfl) (pv 7)) (pa_cons (pe_op op_sub (pe_fld (pv 6) rfl) pe_int) pa_nil)))) pa_nil)))))))))) (pss_cons (ps_fld (pv 0) (pv 2) rfl) (pss_cons (ps_fldaug (pv 0) pe_int in_add) (pss_cons (ps_fldaug (pv 0) (pv 3) in_add) (pss_cons (ps_fldaug (pv 0) (pv 4) in_add) (pss_one (ps_ret (pe_lst (pa_cons (pv 3) (pa_cons (pv 4) pa_nil))))))))))))), ?_⟩)
  · obtain ⟨a, L, s, m, rfl, _⟩ := h
    rfl
  · obtain ⟨a, L, s, m, rfl, hS, ok, k⟩ := h
    obtain ⟨dx, so⟩ := hS.obj
    obtain ⟨ws, hw, hwl⟩ := hS.lots.list
    have n4 := ok.n4
    refine q_asgL (el_lst ea_nil (by decide)) fun kp H1 hkp e1 hk1 => ?_
    refine q_asg ev_c fun H2 e2 => ?_
    refine q_asg ev_c fun H3 e3 => ?_
    have e13 := (e1.trans e2).trans e3
    refine q_forE (i := 5) (j := 6) (ea_one (ev_fld (ev_var rfl) (e13 _ _ so) T.l_Storage T.n_Storage_lots s_lots)) (sq_of (e13 _ _ hw)) (fun i σ' H' => ∃ v5 v6 v7, σ' = [some (.ref a), some (nN m), some (.ref kp), some (nN (leftTo s m i)), some (nN (spoiledTo s m i)), v5, v6, v7] ∧ Ex H H' ∧ LotsAt A H' kp (keptTo s m i))
      (fun H4 e4 => ⟨_, _, _, rfl, e13.trans e4, [], e4 _ _ (e3 _ _ (e2 _ _ hk1)), rfl, fun i x hi => by rw [keptTo_zero] at hi; simp at hi⟩) (fun i σ' H' _ ⟨_, _, _, _, e4, _⟩ => sq_of (e4 _ _ hw)) ?_ ?_
    · rintro i x σ' H4 H5 hx ⟨v5, v6, v7, rfl, e4, hkl⟩ e5
      obtain ⟨r, y, rfl, hy, dr, hr1⟩ := hS.lots.get hw hx
      have hyl := lotAt_get hy
      have hh := ok.hrs _ (List.mem_of_getElem? hy)
      have e45 := e4.trans e5
      have hkl5 := hkl.mono e5
      -- loss
      refine q_asg (v := nN (lossOf s m i)) (ev_if (et_bit (ev_var rfl) (ev_var rfl)) (fun hb => ?_) (fun hb => ?_)) fun H6 e6 => ?_
      · unfold lossOf
        rw [if_pos hb]
        exact ev_fld (ev_var rfl) (e45 _ _ so) T.l_Storage T.n_Storage_cold_loss s_cold
      · unfold lossOf
        rw [if_neg (by rw [hb]; exact Bool.false_ne_true)]
        exact ev_fld (ev_var rfl) (e45 _ _ so) T.l_Storage T.n_Storage_warm_loss s_warm
      have e46 := e45.trans e6
      have hkl6 := hkl5.mono e6
      refine s_if (b := decide (y.life < lossOf s m i)) (et_is (et_test (ev_op (ev_fld (ev_var rfl) (e46 _ _ hr1) T.l_Lot T.n_Lot_life lot_life) (ev_var rfl) rv_I0)) (decide_eq_decide.mpr Int.ofNat_lt)) (fun hb H7 e7 => ?_) (fun hb H7 e7 => ?_)
      · -- it spoils
        obtain ⟨q1, q2, q3⟩ := hour_spoils (s := s) (m := m) (i := i) (by rw [hyl]; exact of_decide_eq_true hb)
        refine s_aug (i := 4) (a := (spoiledTo s m i : Int)) (b := 1) rfl ev_c fun H8 e8 => ?_
        refine ⟨some (.int (i : Int)), some (.ref r), some (nN (lossOf s m i)), ?_, (e46.trans e7).trans e8, by rw [q1]; exact (hkl6.mono e7).mono e8⟩
        rw [q2, q3]
        rfl
      have hb' : ¬ (Kh430.lotAt s i).life < lossOf s m i := by rw [hyl]; exact of_decide_eq_false hb
      have e47 := e46.trans e7
      have hkl7 := hkl6.mono e7
      refine s_if (b := decide (V.int (y.hours : Int) = V.int 1)) (et_test (ev_op (ev_fld (ev_var rfl) (e47 _ _ hr1) T.l_Lot T.n_Lot_hours lot_hours) ev_c (rv_eq rfl))) (fun hc H8 e8 => ?_) (fun hc H8 e8 => ?_)
      · -- it leaves
        have h1 : y.hours = 1 := by
          have := of_decide_eq_true hc
          injection this with this
          omega
        obtain ⟨q1, q2, q3⟩ := hour_leaves hb' (by rw [hyl]; exact h1)
        refine s_aug (i := 3) (a := (leftTo s m i : Int)) (b := 1) rfl ev_c fun H9 e9 => ?_
        refine ⟨some (.int (i : Int)), some (.ref r), some (nN (lossOf s m i)), ?_, (e47.trans e8).trans e9, by rw [q1]; exact (hkl7.mono e8).mono e9⟩
        rw [q2, q3]
        rfl
      · -- it stays
        have h1 : y.hours ≠ 1 := fun z => by
          rw [z] at hc
          exact absurd rfl (of_decide_eq_false hc)
        obtain ⟨q1, q2, q3⟩ := hour_stays hb' (by rw [hyl]; exact h1) (by rw [hyl]; exact hh.1)
        have e48 := e47.trans e8
        obtain ⟨ks, hk8, hkl8, hki8⟩ := hkl7.mono e8
        have hlife : V.int ((y.life : Int) - (lossOf s m i : Int)) = nN (y.life - lossOf s m i) := by
          unfold nN
          rw [hyl] at hb'
          congr 1
          omega
        have hhours : V.int ((y.hours : Int) - 1) = nN (y.hours - 1) := by
          unfold nN
          congr 1
          omega
        have hklen := keptTo_len s m i
        have hin := at_lt hy
        refine s_appN (P := fun p H => LotAt A H p ⟨y.life - lossOf s m i, y.hours - 1⟩) hk8 (ev_var rfl) (en_make (ea_two (ev_is (ev_op (ev_fld (ev_var rfl) (e48 _ _ hr1) T.l_Lot T.n_Lot_life lot_life) (ev_var rfl) rv_I0) hlife) (ev_is (ev_op (ev_fld (ev_var rfl) (e48 _ _ hr1) T.l_Lot T.n_Lot_hours lot_hours) ev_c rv_I0) hhours)) (ini_lot (x := ⟨y.life - lossOf s m i, y.hours - 1⟩))) (by omega) fun p H9 hp e9 h9 => ?_
        refine ⟨some (.int (i : Int)), some (.ref r), some (nN (lossOf s m i)), ?_, Ex.mut (e48.trans e9) hkp, ?_⟩
        · rw [q2, q3]
          rfl
        · rw [q1, hyl]
          refine ⟨ks ++ [.ref p], upd_same, by rw [List.length_append, List.length_append, hkl8]; rfl, fun j z hz => ?_⟩
          rcases Nat.lt_or_ge j (keptTo s m i).length with hj | hj
          · rw [List.getElem?_append_left hj] at hz
            obtain ⟨l, h4, h5⟩ := hki8 j z hz
            obtain ⟨d5, o5⟩ := h5.mono e9
            have nl : l ≠ kp := lot_ne_list ⟨d5, o5⟩ (e9 _ _ hk8)
            exact ⟨l, by rw [List.getElem?_append_left (by omega)]; exact h4, d5, by rw [upd_ne nl]; exact o5⟩
          · rw [List.getElem?_append_right hj] at hz
            have hj0 : j - (keptTo s m i).length = 0 := by
              have := at_lt hz
              rw [List.length_singleton] at this
              omega
            rw [hj0] at hz
            have hz2 := Option.some.inj hz
            obtain ⟨d9, o9⟩ := h9
            have np : p ≠ kp := lot_ne_list ⟨d9, o9⟩ (e9 _ _ hk8)
            refine ⟨p, by rw [List.getElem?_append_right (by omega), hkl8, hj0]; rfl, d9, ?_⟩
            rw [upd_ne np, ← hz2]
            exact o9
    rintro σ' H4 ⟨v5, v6, v7, rfl, e4, hkl'⟩
    rw [hwl] at hkl'
    have hkl := hkl'
    have len0 : ws.length = s.lots.length := hwl
    rw [len0]
    obtain ⟨ks0, hks0, _⟩ := hkl'
    have ne_a : kp ≠ a := fun z => by
      rw [z, so] at hkp
      cases hkp
    -- self.lots = kept
    refine q_fld (ev_var rfl) (ev_var rfl) (e4 _ _ so) T.l_Storage T.n_Storage_lots (by show 7 < 1000; decide) fun H5 e5 => ?_
    have e45 := e4.trans e5
    rw [put_lots (ls := keptTo s m s.lots.length)]
    have S5 : StoAt A (upd H5 a (.ins A.c_Storage dx (sF { s with lots := keptTo s m s.lots.length } kp))) a kp { s with lots := keptTo s m s.lots.length } := StoAt.set (s' := { s with lots := keptTo s m s.lots.length }) (e45 _ _ so) (hkl.mono e5)
    have o5 : (upd H5 a (.ins A.c_Storage dx (sF { s with lots := keptTo s m s.lots.length } kp))) a = some (.ins A.c_Storage dx (sF { s with lots := keptTo s m s.lots.length } kp)) := upd_same
    have k5 : ∀ b o, H b = some o → b ≠ a → (upd H5 a (.ins A.c_Storage dx (sF { s with lots := keptTo s m s.lots.length } kp))) b = some o := fun b o hb ne => by
      rw [upd_ne ne]
      exact e45 _ _ hb
    generalize upd H5 a (.ins A.c_Storage dx (sF { s with lots := keptTo s m s.lots.length } kp)) = G5 at S5 o5 k5 ⊢
    -- self.time += 1
    refine q_fldaug (i := (s.clock : Int)) (j := 1) (ev_var rfl) o5 T.l_Storage T.n_Storage_time s_time ev_c (by show 7 < 1000; decide) fun H6 e6 => ?_
    have et : V.int ((s.clock : Int) + 1) = nN (s.clock + 1) := rfl
    rw [et, put_time]
    have S6 : StoAt A (upd H6 a (.ins A.c_Storage dx (sF { s with lots := keptTo s m s.lots.length, clock := s.clock + 1 } kp))) a kp { s with lots := keptTo s m s.lots.length, clock := s.clock + 1 } := StoAt.set (s' := { s with lots := keptTo s m s.lots.length, clock := s.clock + 1 }) (e6 _ _ o5) (S5.lots.mono e6)
    have o6 : (upd H6 a (.ins A.c_Storage dx (sF { s with lots := keptTo s m s.lots.length, clock := s.clock + 1 } kp))) a = some (.ins A.c_Storage dx (sF { s with lots := keptTo s m s.lots.length, clock := s.clock + 1 } kp)) := upd_same
    have k6 : ∀ b o, H b = some o → b ≠ a → (upd H6 a (.ins A.c_Storage dx (sF { s with lots := keptTo s m s.lots.length, clock := s.clock + 1 } kp))) b = some o := fun b o hb ne => by
      rw [upd_ne ne]
      exact e6 _ _ (k5 b o hb ne)
    generalize upd H6 a (.ins A.c_Storage dx (sF { s with lots := keptTo s m s.lots.length, clock := s.clock + 1 } kp)) = G6 at S6 o6 k6 ⊢
    -- self.left += left
    refine q_fldaug (i := (s.leftFresh : Int)) (j := (leftTo s m s.lots.length : Int)) (ev_var rfl) o6 T.l_Storage T.n_Storage_left s_left (ev_var rfl) (by show 7 < 1000; decide) fun H7 e7 => ?_
    have el : V.int ((s.leftFresh : Int) + (leftTo s m s.lots.length : Int)) = nN (s.leftFresh + leftTo s m s.lots.length) := rfl
    rw [el, put_left]
    have S7 : StoAt A (upd H7 a (.ins A.c_Storage dx (sF { s with lots := keptTo s m s.lots.length, clock := s.clock + 1, leftFresh := s.leftFresh + leftTo s m s.lots.length } kp))) a kp { s with lots := keptTo s m s.lots.length, clock := s.clock + 1, leftFresh := s.leftFresh + leftTo s m s.lots.length } := StoAt.set (s' := { s with lots := keptTo s m s.lots.length, clock := s.clock + 1, leftFresh := s.leftFresh + leftTo s m s.lots.length }) (e7 _ _ o6) (S6.lots.mono e7)
    have o7 : (upd H7 a (.ins A.c_Storage dx (sF { s with lots := keptTo s m s.lots.length, clock := s.clock + 1, leftFresh := s.leftFresh + leftTo s m s.lots.length } kp))) a = some (.ins A.c_Storage dx (sF { s with lots := keptTo s m s.lots.length, clock := s.clock + 1, leftFresh := s.leftFresh + leftTo s m s.lots.length } kp)) := upd_same
    have k7 : ∀ b o, H b = some o → b ≠ a → (upd H7 a (.ins A.c_Storage dx (sF { s with lots := keptTo s m s.lots.length, clock := s.clock + 1, leftFresh := s.leftFresh + leftTo s m s.lots.length } kp))) b = some o := fun b o hb ne => by
      rw [upd_ne ne]
      exact e7 _ _ (k6 b o hb ne)
    generalize upd H7 a (.ins A.c_Storage dx (sF { s with lots := keptTo s m s.lots.length, clock := s.clock + 1, leftFresh := s.leftFresh + leftTo s m s.lots.length } kp)) = G7 at S7 o7 k7 ⊢
    -- self.spoiled += spoiled
    refine q_fldaug (i := (s.spoiled : Int)) (j := (spoiledTo s m s.lots.length : Int)) (ev_var rfl) o7 T.l_Storage T.n_Storage_spoiled s_spoiled (ev_var rfl) (by show 7 < 1000; decide) fun H8 e8 => ?_
    have es : V.int ((s.spoiled : Int) + (spoiledTo s m s.lots.length : Int)) = nN (s.spoiled + spoiledTo s m s.lots.length) := rfl
    rw [es, put_spoiled]
    have S8 : StoAt A (upd H8 a (.ins A.c_Storage dx (sF (Kh430.afterHour s m) kp))) a kp (Kh430.afterHour s m) := StoAt.set (s' := Kh430.afterHour s m) (e8 _ _ o7) (S7.lots.mono e8)
    have o8 : (upd H8 a (.ins A.c_Storage dx (sF (Kh430.afterHour s m) kp))) a = some (.ins A.c_Storage dx (sF (Kh430.afterHour s m) kp)) := upd_same
    have k8 : ∀ b o, H b = some o → b ≠ a → (upd H8 a (.ins A.c_Storage dx (sF (Kh430.afterHour s m) kp))) b = some o := fun b o hb ne => by
      rw [upd_ne ne]
      exact e8 _ _ (k7 b o hb ne)
    have last : ∀ z, z = sF (Kh430.afterHour s m) kp → tRet (tLst (tCons (tVar 3) (tCons (tVar 4) tNil))) { nx := fun _ H' => Q .non H', rt := Q } [some (.ref a), some (nN m), some (.ref kp), some (nN (leftTo s m s.lots.length)), some (nN (spoiledTo s m s.lots.length)), v5, v6, v7] (upd H8 a (.ins A.c_Storage dx z)) := fun z ez => by
      subst ez
      refine s_retL (el_lst (ea_two (ev_var rfl) (ev_var rfl)) (by show 2 ≤ 100000; decide)) fun p H9 hp e9 h9 => ?_
      have hp0 : H p = none := by
        cases z : H p with
        | none => rfl
        | some o =>
          by_cases y : p = a
          · rw [y, o8] at hp
            cases hp
          · rw [k8 p o z y] at hp
            cases hp
      exact k p H9 kp hp0 (S8.mono e9) hkp (fun b o hb ne => e9 _ _ (k8 b o hb ne)) h9
    exact last _ rfl
theorem ok_Storage_run_hour (T : Txt K mg A) : FnOk P w K mg base (L2.CX P w) 12 A.f_Storage_run_hour A.d_Storage_run_hour ["self", "mask"] (spM1 A .runHour) := by
  refine T.F_Storage_run_hour.okX sc_Storage_run_hour (fun vs H Q E h => ?_) (fun cdv Ar outer s H vs Q E hr h => ⟨_, (pss_cons (ps_expr (pe_call (ok_check_mask T) (hr.mono (by decide)) rfl T.g_check_mask T.F_check_mask.kp T.b_check_mask .nil (passes_call (takes_of rfl rfl rfl rfl) (fun _ _ _ _ z => z)) (by exact (pa_cons (pv 1) (pa_cons (pe_callB call_len_seq rfl T.z_len (by decide +kernel) (by exact (pa_cons (pe_fld (pv 0) rfl) pa_nil))) pa_nil))))) (pss_cons (ps_expr (pe_call (ok_check T) (hr.mono (by decide)) rfl T.g_check T.F_check.kp T.b_check .nil (passes_call (takes_of rfl rfl rfl rfl) (fun _ _ _ _ z => z)) (by exact (pa_cons (pe_cmpR op_le (pe_callB call_len_seq rfl T.z_len (by decide +kernel) (by exact (pa_cons (pe_call (ok_members_of T) (hr.mono (by decide)) rfl T.g_members_of T.F_members_of.kp T.b_members_of .nil pass0 (by exact (pa_cons (pv 1) pa_nil))) pa_nil))) (pe_fld (pv 0) rfl) (nomark _)) (pa_cons (pe_gint rfl T.k_FULL) pa_nil))))) (pss_cons (ps_expr (pe_call (ok_check T) (hr.mono (by decide)) rfl T.g_check T.F_check.kp T.b_check .nil (passes_call (takes_of rfl rfl rfl rfl) (fun _ _ _ _ z => z)) (by exact (pa_cons (pe_cmpR op_gt (pe_callB call_len_seq rfl T.z_len (by decide +kernel) (by exact (pa_cons (pe_fld (pv 0) rfl) pa_nil))) pe_int (nomark _)) (pa_cons (pe_gint rfl T.k_MISSING) pa_nil))))) (pss_cons (ps_set (i := 2) sc_Storage_run_hour.nd rfl (Or.inl rfl) (pe_meth (pv 0) T.l_Storage T.m_Storage_pass_hour (ok_Storage_pass_hour T) (hr.mono (by decide)) T.b_Storage_pass_hour .nil pass0 (by exact (pa_cons (pv 1) pa_nil)))) (pss_one (ps_ret (pe_op op_cat (pe_lst (pa_cons (pe_callB call_len_seq rfl T.z_len (by decide +kernel) (by exact (pa_cons (pe_fld (pv 0) rfl) pa_nil))) pa_nil)) (pv 2)))))))), ?_⟩)
  · obtain ⟨a, L, s, m, rfl, _⟩ := h
    rfl
  · obtain ⟨a, L, s, m, rfl, hS, ok, k⟩ := h
    obtain ⟨dx, so⟩ := hS.obj
    obtain ⟨ws, hw, hwl⟩ := hS.lots.list
    have n4 := ok.n4
    have e0 : Kh430.apply s (.runHour m) = if Kh430.isSet s m = false then (s, Kh430.single (-22)) else if s.capacity < (Kh430.members s.lots.length m).length then (s, Kh430.single (-28)) else if s.lots = [] then (s, Kh430.single (-6)) else (Kh430.afterHour s m, Kh430.withValues (Kh430.afterHour s m).lots.length [(Kh430.afterHour s m).leftFresh - s.leftFresh, (Kh430.afterHour s m).spoiled - s.spoiled]) := rfl
    refine q_chk (ea_two (ev_var rfl) (ev_len2 (ev_fld (ev_var rfl) so T.l_Storage T.n_Storage_lots s_lots) (sq_of hw))) (chk_mask (m := m) (n := ws.length) (by omega)) (fun hm H1 e1 => ?_) (fun hm => k.no (by rw [e0, if_pos (show Kh430.isSet s m = false from decide_eq_false (by rw [← hwl]; exact of_decide_eq_false hm))]) (by decide))
    have hm' : m < 2 ^ s.lots.length := by rw [← hwl]; exact of_decide_eq_true hm
    rw [if_neg (show ¬ Kh430.isSet s m = false by unfold Kh430.isSet; rw [decide_eq_true hm']; exact Bool.noConfusion)] at e0
    have hbl := bl_le hm'
    have hme := members_eq hm'
    refine q_chk (ok := decide ((((lN (membersOf m)).length : Nat) : Int) ≤ (s.capacity : Int))) (ea_two (ev_op (ev_lenL (el_call (ea_one (ev_var rfl)) (spl_members (m := m) (by omega)))) (ev_fld (ev_var rfl) (e1 _ _ so) T.l_Storage T.n_Storage_capacity s_cap) rv_I0) ev_c) chk_check (fun hc H2 e2 => ?_) (fun hc => (k.no (by
      rw [e0, if_pos]
      have := of_decide_eq_false hc
      rw [lN_len, hme] at this
      omega) (by decide)).mono e1)
    rw [if_neg (by have := of_decide_eq_true hc; rw [lN_len, hme] at this; omega)] at e0
    have e12 := e1.trans e2
    refine q_chk (ok := decide (0 < ((ws.length : Nat) : Int))) (ea_two (ev_op (ev_len2 (ev_fld (ev_var rfl) (e12 _ _ so) T.l_Storage T.n_Storage_lots s_lots) (sq_of (e12 _ _ hw))) ev_c rv_I0) ev_c) chk_check (fun hl H3 e3 => ?_) (fun hl => (k.no (by
      rw [e0, if_pos]
      have := of_decide_eq_false hl
      exact List.eq_nil_of_length_eq_zero (by omega)) (by decide)).mono e12)
    rw [if_neg (by intro z; have := of_decide_eq_true hl; rw [hwl, z] at this; exact absurd this (by decide))] at e0
    have e13 := e12.trans e3
    refine q_pass (i := 2) (hS.mono e13) ok (ev_var rfl) (ev_var rfl) fun p H4 L4 hp hS4 hL4 keep h4 => ?_
    obtain ⟨d4, o4⟩ := hS4.obj
    obtain ⟨ws4, hw4, hwl4⟩ := hS4.lots.list
    refine s_retL (el_cat (el_lst (ea_one (ev_len2 (ev_fld (ev_var rfl) o4 T.l_Storage T.n_Storage_lots s_lots) (sq_of hw4))) (by show 1 ≤ 100000; decide)) (ev_var rfl) h4 (by show 1 + 2 ≤ 100000; decide)) fun q H5 hq e5 h5 => ?_
    have hq0 : H q = none := by
      cases z : H q with
      | none => rfl
      | some o =>
        by_cases y : q = a
        · rw [y, o4] at hq
          cases hq
        · rw [keep q o (e13 _ _ z) y] at hq
          cases hq
    refine k.yes e0 (Int.natCast_nonneg _) (lI_with _ _) hq0 (hS4.mono e5) (.inr (fresh_back e13 hL4)) (fun b o hb ne _ => e5 _ _ (keep b o (e13 _ _ hb) ne)) ?_
    have q1 : (Kh430.afterHour s m).leftFresh - s.leftFresh = leftTo s m s.lots.length := by rw [after_eq]; show s.leftFresh + _ - _ = _; omega
    have q2 : (Kh430.afterHour s m).spoiled - s.spoiled = spoiledTo s m s.lots.length := by rw [after_eq]; show s.spoiled + _ - _ = _; omega
    rw [h5, q1, q2, hwl4]
    rfl
theorem ok_Storage_run_best (T : Txt K mg A) : FnOk P w K mg base (L2.CX P w) 12 A.f_Storage_run_best A.d_Storage_run_best ["self"] (spM0 A .runBest) := by
  refine T.F_Storage_run_best.okX sc_Storage_run_best (fun vs H Q E h => ?_) (fun cdv Ar outer s H vs Q E hr h => ⟨_, (pss_cons (ps_expr (pe_call (ok_check T) (hr.mono (by decide)) rfl T.g_check T.F_check.kp T.b_check .nil (passes_call (takes_of rfl rfl rfl rfl) (fun _ _ _ _ z => z)) (by exact (pa_cons (pe_cmpR op_gt (pe_callB call_len_seq rfl T.z_len (by decide +kernel) (by exact (pa_cons (pe_fld (pv 0) rfl) pa_nil))) pe_int (nomark _)) (pa_cons (pe_gint rfl T.k_MISSING) pa_nil))))) (pss_cons (ps_set (i := 1) sc_Storage_run_best.nd rfl (Or.inl rfl) pe_int) (pss_cons (ps_set (i := 2) sc_Storage_run_best.nd rfl (Or.inl rfl) pe_int) (pss_cons (ps_while (passes_of rfl) (pt_truth (pe_fld (pv 0) rfl) (by intro _; rfl)) (pss_cons (ps_set (i := 3) sc_Storage_run_best.nd rfl (Or.inl rfl) (pe_make T.m_Planner (ok_Planner_init T) (hr.mono (by decide)) rfl T.g_Planner T.b_Planner_init .nil pass0 (by exact (pa_cons (pv 0) (pa_cons (pe_fld (pv 0) rfl) pa_nil))))) (pss_cons (ps_set (i := 4) sc_Storage_run_best.nd rfl (Or.inl rfl) (pe_meth (pv 3) T.l_Planner T.m_Planner_plan_for (ok_Planner_plan_for T) (hr.mono (by decide)) T.b_Planner_plan_for .nil pass0 (by exact (pa_cons (pe_meth0 (pv 3) T.l_Planner T.m_Planner_largest_set (ok_Planner_largest_set T) (hr.mono (by decide)) T.b_Planner_largest_set .nil pass0) pa_nil)))) (pss_cons (ps_set (i := 5) sc_Storage_run_best.nd rfl (Or.inl rfl) (pe_meth (pv 0) T.l_Storage T.m_Storage_pass_hour (ok_Storage_pass_hour T) (hr.mono (by decide)) T.b_Storage_pass_hour .nil pass0 (by exact (pa_cons (pe_ix ix_list (pv 4) pe_int (fun _ _ => rfl)) pa_nil)))) (pss_cons (ps_aug (i := 1) sc_Storage_run_best.nd rfl (Or.inl rfl) (pe_ix ix_list (pv 5) pe_int (fun _ _ => rfl)) ip_add) (pss_one (ps_aug (i := 2) sc_Storage_run_best.nd rfl (Or.inl rfl) (pe_ix ix_list (pv 5) pe_int (fun _ _ => rfl)) ip_add))))))) (pss_one (ps_ret (pe_lst (pa_cons (pv 1) (pa_cons (pv 2) pa_nil))))))))), ?_⟩)
  · obtain ⟨a, L, s, rfl, _⟩ := h
    rfl
  · obtain ⟨a, L, s, rfl, hS, ok, k⟩ := h
    obtain ⟨dx, so⟩ := hS.obj
    obtain ⟨ws, hw, hwl⟩ := hS.lots.list
    have n4 := ok.n4
    have m6 : Kh430.maxHours = 6 := rfl
    have e0 : Kh430.apply s .runBest = if s.lots = [] then (s, Kh430.single (-6)) else (Kh430.runBest Kh430.maxHours s, Kh430.withValues ((Kh430.runBest Kh430.maxHours s).leftFresh - s.leftFresh) [(Kh430.runBest Kh430.maxHours s).spoiled - s.spoiled]) := rfl
    refine q_chk (ok := decide (0 < ((ws.length : Nat) : Int))) (ea_two (ev_op (ev_len2 (ev_fld (ev_var rfl) so T.l_Storage T.n_Storage_lots s_lots) (sq_of hw)) ev_c rv_I0) ev_c) chk_check (fun hl H1 e1 => ?_) (fun hl => k.no (by
      rw [e0, if_pos]
      have := of_decide_eq_false hl
      exact List.eq_nil_of_length_eq_zero (by omega)) (by decide))
    rw [if_neg (by intro z; have := of_decide_eq_true hl; rw [hwl, z] at this; exact absurd this (by decide)), m6] at e0
    refine q_asg ev_c fun H2 e2 => ?_
    refine q_asg ev_c fun H3 e3 => ?_
    have e13 := (e1.trans e2).trans e3
    refine q_while (fun n σ' H' => ∃ (c : Kh430.Store) (l q : Nat) (L' : Addr) (v3 v4 v5 : Option V), n = Kh430.horizon c ∧ σ' = [some (.ref a), some (nN l), some (nN q), v3, v4, v5] ∧ StoAt A H' a L' c ∧ Run s c l q ∧ (L' = L ∨ H L' = none) ∧ ∀ b o, H b = some o → b ≠ a → H' b = some o)
      (Kh430.horizon s) ⟨s, 0, 0, L, _, _, _, rfl, rfl, hS.mono e13, run_start ok, .inl rfl, fun b o hb _ => e13 _ _ hb⟩ ?_
    rintro n σ' H4 ⟨c, l, q, L', v3, v4, v5, rfl, rfl, hS4, R, hL', keep⟩
    obtain ⟨d4, o4⟩ := hS4.obj
    obtain ⟨vs4, hw4, hwl4⟩ := hS4.lots.list
    refine ⟨!vs4.isEmpty, ?_, fun hb H5 e5 => ?_, fun hb H5 e5 => ?_⟩
    · intro Hx ex Qx qx
      exact ev_fld (ev_var rfl) o4 T.l_Storage T.n_Storage_lots s_lots Hx ex _ fun H5 e5 => ⟨_, Or.inl ⟨vs4, sq_of ((ex.trans e5) _ _ hw4), rfl⟩, qx H5 e5⟩
    · have hne : c.lots ≠ [] := fun z => by
        rw [z] at hwl4
        have : vs4 = [] := List.eq_nil_of_length_eq_zero hwl4
        rw [this] at hb
        cases hb
      obtain ⟨pl, hpl⟩ := largest_plan c
      have hpos := horizon_pos R.ok hne
      have c4 := R.ok.n4
      have hS5 := hS4.mono e5
      refine ⟨fun σ2 H2 => ∃ m', m' < Kh430.horizon c ∧ ∃ (c : Kh430.Store) (l q : Nat) (L' : Addr) (v3 v4 v5 : Option V), m' = Kh430.horizon c ∧ σ2 = [some (.ref a), some (nN l), some (nN q), v3, v4, v5] ∧ StoAt A H2 a L' c ∧ Run s c l q ∧ (L' = L ∨ H L' = none) ∧ ∀ b o, H b = some o → b ≠ a → H2 b = some o, fun σ2 H2 z => z, ?_⟩
      -- planner = Planner(self, self.capacity)
      refine q_asgN (P := fun p H2 => PlaAt A H2 p c) (en_pla (K := K) hS5 R.ok (ea_two (ev_var rfl) (ev_fld (ev_var rfl) (e5 _ _ o4) T.l_Storage T.n_Storage_capacity s_cap))) fun pA H6 _ e6 hp6 => ?_
      obtain ⟨pd, pL, pNn, po, pr⟩ := hp6
      have hp6 : PlaAt A H6 pA c := ⟨pd, pL, pNn, po, pr⟩
      -- plan = planner.plan_for(planner.largest_set())
      refine q_asgN (P := fun r H2 => H2 r = some (.lst (lN pl))) (en_meth (ev_var rfl) po (p_no rfl) (ea_one (ev_meth (ev_var rfl) po (p_no rfl) ea_nil (spv_largest hp6 R.ok))) (fun Hx ex Qx qx E => spl_plaFor (m := Kh430.largestLastingSet c) hp6 R.ok hpl Hx ex Qx qx E)) fun rA H7 _ e7 hr7 => ?_
      have e57 := (e5.trans e6).trans e7
      have hfirst := lN_get (plan_first R.ok hne hpl)
      -- found = self.pass_hour(plan[0])
      refine q_pass (i := 5) (m := pl.getD 0 0) (hS4.mono e57) R.ok (ev_var rfl) (ev_op (ev_var rfl) ev_c (rv_ixL (sq_of hr7) (atI_get (j := 0) hfirst))) fun p H8 L8 hp hS8 hL8 keep8 h8 => ?_
      -- left += found[0]; spoiled += found[1]
      refine q_aug (i := 1) (a := (l : Int)) (b := (leftTo c (pl.getD 0 0) c.lots.length : Int)) rfl (ev_op (ev_var rfl) ev_c (rv_ixL (sq_of h8) (atI_get (j := 0) rfl))) fun H9 e9 => ?_
      refine s_aug (i := 2) (a := (q : Int)) (b := (spoiledTo c (pl.getD 0 0) c.lots.length : Int)) rfl (ev_op (ev_var rfl) ev_c (rv_ixL (sq_of (e9 _ _ h8)) (atI_get (j := 1) rfl))) fun H10 e10 => ?_
      have hz := horizon_after c (pl.getD 0 0)
      refine ⟨Kh430.horizon (Kh430.afterHour c (pl.getD 0 0)), by omega, Kh430.afterHour c (pl.getD 0 0), _, _, L8, some (.ref pA), some (.ref rA), some (.ref p), rfl, rfl, (hS8.mono e9).mono e10, run_turn R hne hpl, ?_, fun b o hb ne => e10 _ _ (e9 _ _ (keep8 b o (e57 _ _ (keep b o hb ne)) ne))⟩
      right
      cases z : H L8 with
      | none => rfl
      | some o =>
        by_cases y : L8 = a
        · obtain ⟨d7, o7⟩ := (hS4.mono e57).obj
          rw [y, o7] at hL8
          cases hL8
        · rw [e57 _ _ (keep L8 o z y)] at hL8
          cases hL8
    · have hnil : c.lots = [] := by
        have : vs4 = [] := by
          cases vs4 with
          | nil => rfl
          | cons x r => cases hb
        rw [this] at hwl4
        exact List.eq_nil_of_length_eq_zero hwl4.symm
      obtain ⟨r1, r2, r3⟩ := run_end R hnil
      refine s_retL (el_lst (ea_two (ev_var rfl) (ev_var rfl)) (by show 2 ≤ 100000; decide)) fun p H6 hp6 e6 h6 => ?_
      have hp0 : H p = none := by
        cases z : H p with
        | none => rfl
        | some o =>
          by_cases y : p = a
          · rw [y, e5 _ _ o4] at hp6
            cases hp6
          · rw [e5 _ _ (keep p o z y)] at hp6
            cases hp6
      refine k.yes e0 (Int.natCast_nonneg _) (lI_with _ _) hp0 (by rw [← r1]; exact (hS4.mono e5).mono e6) hL' (fun b o hb ne _ => e6 _ _ (e5 _ _ (keep b o hb ne))) ?_
      rw [h6, r2, r3]
      rfl
end
end Cold

namespace Cold
open PySem PySem.Spec PyProof.Rows L2 Evl
/-! ### the ways to the operations -/
theorem dec_nat (w k : Nat) : decide (nN w = nN k) = decide (w = k) := by
  apply decide_eq_decide.mpr
  constructor
  · intro h
    unfold nN at h
    injection h with h
    omega
  · intro h
    rw [h]
theorem AnsQ.mono {A : Ad} {r : Kh430.Result} {H H' : Hp} {Q : VK} {E : XK} (e : Ex H H') (k : AnsQ A r H Q E) : AnsQ A r H' Q E := ⟨fun h p H2 hp e2 h2 => k.1 h p H2 (fresh_back e hp) (e.trans e2) h2, fun h => (k.2 h).mono e⟩
theorem AnsM.mono {A : Ad} {r : Kh430.Store × Kh430.Result} {H H' : Hp} {a L : Addr} {Q : VK} {E : XK} (e : Ex H H') (k : AnsM A r H a L Q E) : AnsM A r H' a L Q E :=
  ⟨fun h p H2 L2 hp hS hL keep h2 => k.1 h p H2 L2 (fresh_back e hp) hS (hL.imp id (fresh_back e)) (fun b o hb n1 n2 => keep b o (e _ _ hb) n1 n2) h2, fun h => (k.2 h).mono e⟩
theorem AnsQ.free {A : Ad} {r : Kh430.Result} {H : Hp} {Q : VK} {E E' : XK} (k : AnsQ A r H Q E) (h : 0 ≤ r.status) : AnsQ A r H Q E' := ⟨k.1, fun z => absurd h (Int.not_le.mpr z)⟩
theorem AnsQ.of {A : Ad} {r r' : Kh430.Result} {H : Hp} {Q : VK} {E : XK} (k : AnsQ A r H Q E) (e : r = r') : AnsQ A r' H Q E := e ▸ k
section
variable {K : PySem.W.Frag} {σ : L2.St} {H : Hp} {ta tb te : TE} {tA : TA} {D : Ends} {a C dx : Addr} {fs : List (Str × V)} {m : Str} {vs : List V} {sp : Sp} {E : XK} {t : TT}
/-- return o.m(..): what m ends by is what the def ends by -/
theorem s_retM (ha : Ev ta σ H (.ref a)) (ho : H a = some (.ins C dx fs)) (l : fs.lookup m = none) (hv : EvA tA σ H vs) (hs : ∀ H1, Ex H H1 → sp (.ref a :: (vs ++ [])) H1 D.rt E) : tRet (tMeth C m sp [] E ta tA) D σ H :=
  ha H (Ex.refl H) _ fun H1 e1 => ⟨a, dx, fs, rfl, e1 _ _ ho, l, hv H1 e1 _ fun H2 e2 => hs H2 (e1.trans e2)⟩
theorem s_retIf {b : Bool} (h : EvT t σ H b) (h1 : b = true → ∀ H1, Ex H H1 → tRet ta D σ H1) (h2 : b = false → ∀ H1, Ex H H1 → tRet tb D σ H1) : tRet (tIf t ta tb) D σ H := h H (Ex.refl H) _ fun H1 e => by
  cases b with
  | true =>
    show ta σ H1 D.rt
    exact h1 rfl H1 e
  | false =>
    show tb σ H1 D.rt
    exact h2 rfl H1 e
theorem ev_nix {n : Addr} {ns : List Nat} {j : Nat} (h : Ev ta σ H (.ref n)) (hn : H n = some (.lst (lN ns))) (hj : j < ns.length) : Ev (tOp (rIxL K) ta (tC (nN j))) σ H (nN (ns.getD j 0)) :=
  ev_op h ev_c (rv_ixL (sq_of hn) (atI_get (lN_get (get_of_lt hj))))
theorem et_which {w k : Nat} (h : Ev ta σ H (nN w)) : EvT (tTest (tOp rEq ta (tC (nN k)))) σ H (decide (w = k)) := by
  rw [← dec_nat]
  exact et_test (ev_op h ev_c (rv_eq rfl))
end
section
variable {P : Program} {w : World} {K : PySem.W.Frag} {mg : Str → Option Value} {base : Heap} {A : Ad}
theorem ok_Storage_change (T : Txt K mg A) : FnOk P w K mg base (L2.CX P w) 13 A.f_Storage_change A.d_Storage_change ["self", "which", "n"] (spChange A) := by
  refine T.F_Storage_change.okX sc_Storage_change (fun vs H Q E h => ?_) (fun cdv Ar outer s H vs Q E hr h => ⟨_, (pss_cons (ps_if (pt_cmpR op_eq (pv 1) pe_int (nomark _)) (pss_one (ps_ret (pe_meth (pv 0) T.l_Storage T.m_Storage_add_lot (ok_Storage_add_lot T) (hr.mono (by decide)) T.b_Storage_add_lot .nil (passes_call (takes_of rfl rfl rfl rfl) (fun _ _ _ _ z => z)) (by exact (pa_cons (pe_ix ix_list (pv 2) pe_int (fun _ _ => rfl)) (pa_cons (pe_ix ix_list (pv 2) pe_int (fun _ _ => rfl)) pa_nil)))))) pss_nil) (pss_cons (ps_if (pt_cmpR op_eq (pv 1) pe_int (nomark _)) (pss_one (ps_ret (pe_meth (pv 0) T.l_Storage T.m_Storage_remove_lot (ok_Storage_remove_lot T) (hr.mono (by decide)) T.b_Storage_remove_lot .nil (passes_call (takes_of rfl rfl rfl rfl) (fun _ _ _ _ z => z)) (by exact (pa_cons (pe_ix ix_list (pv 2) pe_int (fun _ _ => rfl)) pa_nil))))) pss_nil) (pss_cons (ps_if (pt_cmpR op_eq (pv 1) pe_int (nomark _)) (pss_one (ps_ret (pe_meth (pv 0) T.l_Storage T.m_Storage_set_capacity (ok_Storage_set_capacity T) (hr.mono (by decide)) T.b_Storage_set_capacity .nil (passes_call (takes_of rfl rfl rfl rfl) (fun _ _ _ _ z => z)) (by exact (pa_cons (pe_ix ix_list (pv 2) pe_int (fun _ _ => rfl)) pa_nil))))) pss_nil) (pss_cons (ps_if (pt_cmpR op_eq (pv 1) pe_int (nomark _)) (pss_one (ps_ret (pe_meth (pv 0) T.l_Storage T.m_Storage_run_hour (ok_Storage_run_hour T) (hr.mono (by decide)) T.b_Storage_run_hour .nil (passes_call (takes_of rfl rfl rfl rfl) (fun _ _ _ _ z => z)) (by exact (pa_cons (pe_ix ix_list (pv 2) pe_int (fun _ _ => rfl)) pa_nil))))) pss_nil) (pss_one (ps_ret (pe_ifExp (pt_cmpR op_eq (pv 1) pe_int (nomark _)) (pe_meth (pv 0) T.l_Storage T.m_Storage_set_losses (ok_Storage_set_losses T) (hr.mono (by decide)) T.b_Storage_set_losses .nil (passes_call (takes_of rfl rfl rfl rfl) (fun _ _ _ _ z => z)) (by exact (pa_cons (pe_ix ix_list (pv 2) pe_int (fun _ _ => rfl)) (pa_cons (pe_ix ix_list (pv 2) pe_int (fun _ _ => rfl)) pa_nil)))) (pe_meth0 (pv 0) T.l_Storage T.m_Storage_run_best (ok_Storage_run_best T) (hr.mono (by decide)) T.b_Storage_run_best .nil (passes_call (takes_of rfl rfl rfl rfl) (fun _ _ _ _ z => z)))))))))), ?_⟩)
  · obtain ⟨a, L, n, s, v, ns, rfl, _⟩ := h
    rfl
  · obtain ⟨a, L, n, s, v, ns, rfl, hS, ok, h1, h6, hn, hz, k⟩ := h
    obtain ⟨dx, so⟩ := hS.obj
    refine q_when (et_which (k := 1) (ev_var rfl)) (fun hb H1 e1 => ?_) (fun hb H1 e1 => ?_)
    · obtain rfl := of_decide_eq_true hb
      exact s_retM (ev_var rfl) (e1 _ _ so) (s_no rfl) (ea_two (ev_nix (j := 0) (ev_var rfl) (e1 _ _ hn) (Nat.lt_of_lt_of_le (by decide) hz)) (ev_nix (j := 1) (ev_var rfl) (e1 _ _ hn) hz)) fun H2 e2 => ⟨a, L, s, _, _, rfl, hS.mono (e1.trans e2), ok, k.mono (e1.trans e2)⟩
    have b1 := of_decide_eq_false hb
    refine q_when (et_which (k := 2) (ev_var rfl)) (fun hb H2 e2 => ?_) (fun hb H2 e2 => ?_)
    · obtain rfl := of_decide_eq_true hb
      have e12 := e1.trans e2
      exact s_retM (ev_var rfl) (e12 _ _ so) (s_no rfl) (ea_one (ev_nix (j := 0) (ev_var rfl) (e12 _ _ hn) hz)) fun H3 e3 => ⟨a, L, s, _, rfl, hS.mono (e12.trans e3), ok, k.mono (e12.trans e3)⟩
    have b2 := of_decide_eq_false hb
    have e12 := e1.trans e2
    refine q_when (et_which (k := 3) (ev_var rfl)) (fun hb H3 e3 => ?_) (fun hb H3 e3 => ?_)
    · obtain rfl := of_decide_eq_true hb
      have e13 := e12.trans e3
      exact s_retM (ev_var rfl) (e13 _ _ so) (s_no rfl) (ea_one (ev_nix (j := 0) (ev_var rfl) (e13 _ _ hn) hz)) fun H4 e4 => ⟨a, L, s, _, rfl, hS.mono (e13.trans e4), ok, k.mono (e13.trans e4)⟩
    have b3 := of_decide_eq_false hb
    have e13 := e12.trans e3
    refine q_when (et_which (k := 4) (ev_var rfl)) (fun hb H4 e4 => ?_) (fun hb H4 e4 => ?_)
    · obtain rfl := of_decide_eq_true hb
      have e14 := e13.trans e4
      exact s_retM (ev_var rfl) (e14 _ _ so) (s_no rfl) (ea_one (ev_nix (j := 0) (ev_var rfl) (e14 _ _ hn) hz)) fun H5 e5 => ⟨a, L, s, _, rfl, hS.mono (e14.trans e5), ok, k.mono (e14.trans e5)⟩
    have b4 := of_decide_eq_false hb
    have e14 := e13.trans e4
    refine s_retIf (et_which (k := 5) (ev_var rfl)) (fun hb H5 e5 => ?_) (fun hb H5 e5 => ?_)
    · obtain rfl := of_decide_eq_true hb
      have e15 := e14.trans e5
      exact s_retM (ev_var rfl) (e15 _ _ so) (s_no rfl) (ea_two (ev_nix (j := 0) (ev_var rfl) (e15 _ _ hn) (Nat.lt_of_lt_of_le (by decide) hz)) (ev_nix (j := 1) (ev_var rfl) (e15 _ _ hn) hz)) fun H6 e6 => ⟨a, L, s, _, _, rfl, hS.mono (e15.trans e6), ok, k.mono (e15.trans e6)⟩
    · have b5 := of_decide_eq_false hb
      obtain rfl : v = 6 := by omega
      have e15 := e14.trans e5
      exact s_retM (ev_var rfl) (e15 _ _ so) (s_no rfl) ea_nil fun H6 e6 => ⟨a, L, s, rfl, hS.mono (e15.trans e6), ok, k.mono (e15.trans e6)⟩
theorem ok_Storage_tell (T : Txt K mg A) : FnOk P w K mg base (L2.CX P w) 13 A.f_Storage_tell A.d_Storage_tell ["self", "which", "n", "row"] (spTell A) := by
  refine T.F_Storage_tell.okX sc_Storage_tell (fun vs H Q E h => ?_) (fun cdv Ar outer s H vs Q E hr h => ⟨_, (pss_cons (ps_if (pt_cmpR op_eq (pv 1) pe_int (nomark _)) (pss_one (ps_ret (pe_op op_cat (pe_lst (pa_cons (pe_callB call_len_seq rfl T.z_len (by decide +kernel) (by exact (pa_cons (pe_fld (pv 0) rfl) pa_nil))) pa_nil)) (pe_lc (own := [("lot", 4)]) (g := gName 4) rfl sc_Storage_tell.nd (pi_list (pe_fld (pv 0) rfl)) (blkOk_by (N := ["self", "which", "n", "row", "lot"]) (sc := defScope s_Storage_tell) (by decide +kernel)) (fun _ _ _ _ _ => pg_name (i := 4) sc_Storage_tell.nd rfl (Or.inl rfl)) (fun _ _ _ _ _ => (by exact (pts_nil))) (fun _ _ _ _ _ => (by exact (pe_meth (pv 0) T.l_Storage T.m_Storage_cold_hours_needed (ok_Storage_cold_hours_needed T) (hr.mono (by decide)) T.b_Storage_cold_hours_needed .nil pass0 (by exact (pa_cons (pv 4) pa_nil))))))))) pss_nil) (pss_cons (ps_if (pt_cmpR op_eq (pv 1) pe_int (nomark _)) (pss_one (ps_ret (pe_meth (pv 0) T.l_Storage T.m_Storage_plan_for (ok_Storage_plan_for T) (hr.mono (by decide)) T.b_Storage_plan_for .nil (passes_call (takes_of rfl rfl rfl rfl) (fun _ _ _ _ z => z)) (by exact (pa_cons (pe_meth0 (pv 0) T.l_Storage T.m_Storage_all_lots (ok_Storage_all_lots T) (hr.mono (by decide)) T.b_Storage_all_lots .nil pass0) pa_nil))))) pss_nil) (pss_cons (ps_if (pt_cmpR op_eq (pv 1) pe_int (nomark _)) (pss_one (ps_ret (pe_meth (pv 0) T.l_Storage T.m_Storage_can_last (ok_Storage_can_last T) (hr.mono (by decide)) T.b_Storage_can_last .nil (passes_call (takes_of rfl rfl rfl rfl) (fun _ _ _ _ z => z)) (by exact (pa_cons (pe_ix ix_list (pv 2) pe_int (fun _ _ => rfl)) pa_nil))))) pss_nil) (pss_cons (ps_if (pt_cmpR op_eq (pv 1) pe_int (nomark _)) (pss_one (ps_ret (pe_meth (pv 0) T.l_Storage T.m_Storage_plan_for (ok_Storage_plan_for T) (hr.mono (by decide)) T.b_Storage_plan_for .nil (passes_call (takes_of rfl rfl rfl rfl) (fun _ _ _ _ z => z)) (by exact (pa_cons (pe_ix ix_list (pv 2) pe_int (fun _ _ => rfl)) pa_nil))))) pss_nil) (pss_cons (ps_if (pt_cmpR op_eq (pv 1) pe_int (nomark _)) (pss_one (ps_ret (pe_meth0 (pv 0) T.l_Storage T.m_Storage_largest_set (ok_Storage_largest_set T) (hr.mono (by decide)) T.b_Storage_largest_set .nil pass0))) pss_nil) (pss_cons (ps_if (pt_cmpR op_eq (pv 1) pe_int (nomark _)) (pss_one (ps_ret (pe_meth (pv 0) T.l_Storage T.m_Storage_check_plan (ok_Storage_check_plan T) (hr.mono (by decide)) T.b_Storage_check_plan .nil (passes_call (takes_of rfl rfl rfl rfl) (fun _ _ _ _ z => z)) (by exact (pa_cons (pe_ix ix_list (pv 2) pe_int (fun _ _ => rfl)) (pa_cons (pv 3) pa_nil)))))) pss_nil) (pss_one (ps_ret (pe_ifExp (pt_cmpR op_eq (pv 1) pe_int (nomark _)) (pe_meth (pv 0) T.l_Storage T.m_Storage_loss_under_plan (ok_Storage_loss_under_plan T) (hr.mono (by decide)) T.b_Storage_loss_under_plan .nil (passes_call (takes_of rfl rfl rfl rfl) (fun _ _ _ _ z => z)) (by exact (pa_cons (pe_ix ix_list (pv 2) pe_int (fun _ _ => rfl)) (pa_cons (pv 3) pa_nil)))) (pe_meth (pv 0) T.l_Storage T.m_Storage_largest_if_capacity (ok_Storage_largest_if_capacity T) (hr.mono (by decide)) T.b_Storage_largest_if_capacity .nil (passes_call (takes_of rfl rfl rfl rfl) (fun _ _ _ _ z => z)) (by exact (pa_cons (pe_ix ix_list (pv 2) pe_int (fun _ _ => rfl)) pa_nil)))))))))))), ?_⟩)
  · obtain ⟨a, L, n, r, s, v, ns, rs, rfl, _⟩ := h
    rfl
  · obtain ⟨a, L, n, r, s, v, ns, rs, rfl, hS, ok, h7, h14, hn, hz, hr', hrl, k⟩ := h
    obtain ⟨dx, so⟩ := hS.obj
    obtain ⟨ws, hw, hwl⟩ := hS.lots.list
    have n4 := ok.n4
    refine q_when (et_which (k := 7) (ev_var rfl)) (fun hb H1 e1 => ?_) (fun hb H1 e1 => ?_)
    · obtain rfl := of_decide_eq_true hb
      have hbnd : ∀ (i : Nat) y, s.lots[i]? = some y → y.hours ≤ 6 := fun i y hy => (ok.hrs y (List.mem_of_getElem? hy)).2
      refine s_retL (el_catL (xs := [nN ws.length]) (ys := needsV s) (el_lst (ea_one (ev_len2 (ev_fld (ev_var rfl) (e1 _ _ so) T.l_Storage T.n_Storage_lots s_lots) (sq_of (e1 _ _ hw)))) (by show 1 ≤ 100000; decide)) (fun Hx ex Qx qx => el_lcL (j := 4) (fun _ => true) (fun i => .int (needI s (Kh430.lotAt s i))) (ev_fld (ev_var rfl) (e1 _ _ so) T.l_Storage T.n_Storage_lots s_lots) (sq_of (e1 _ _ hw)) (by omega) (fun _ => rfl)
        (fun i x H2 e2 hx => et_yes) (fun i x H2 e2 hx _ => ?_) Hx ex Qx (fun N H2 h1 h2 h3 => qx N H2 h1 h2 ?_)) (by show 1 + (needsV s).length ≤ 100000; unfold needsV; rw [List.length_map]; omega)) fun p H2 hp e2 h2 => ?_
      · obtain ⟨l, y, rfl, hy, hl1⟩ := hS.lots.get hw hx
        rw [lotAt_get hy]
        have e12 := e1.trans e2
        exact ev_meth (ev_var rfl) (e12 _ _ so) (s_no rfl) (ea_one (ev_var rfl)) (spv_need (e12 _ _ so) (hl1.mono e12) (by have := hbnd i y hy; omega) (by have := ok.cw; have := ok.w20; omega) (by have := ok.w20; omega))
      · show H2 N = some (.lst (needsV s))
        rw [h3, hwl, given_of s.lots (fun x => .int (needI s x)) _ (fun i y hy => by rw [lotAt_get hy])]
        rfl
      · have er : lI (res (Kh430.apply s (callOf 7 ns rs)).2) = [nN ws.length] ++ needsV s := by
          show lI ((s.lots.length : Int) :: s.lots.map fun x => match Kh430.coldHoursNeeded s x with
            | none => -1
            | some k => Int.ofNat k) = _
          unfold lI needsV needI
          rw [List.map_cons, List.map_map, hwl]
          rfl
        refine k.1 (Int.natCast_nonneg _) p H2 (fresh_back e1 hp) (e1.trans e2) ?_
        rw [er]
        exact h2
    have b7 := of_decide_eq_false hb
    refine q_when (et_which (k := 8) (ev_var rfl)) (fun hb H2 e2 => ?_) (fun hb H2 e2 => ?_)
    · obtain rfl := of_decide_eq_true hb
      have e12 := e1.trans e2
      refine s_retM (ev_var rfl) (e12 _ _ so) (s_no rfl) (ea_one (ev_meth (ev_var rfl) (e12 _ _ so) (s_no rfl) ea_nil (spv_all (hS.mono e12) ok))) fun H3 e3 => ⟨a, L, s, Kh430.allLots s, rfl, hS.mono (e12.trans e3), ok, (k.of ?_).mono (e12.trans e3)⟩
      show Kh430.planResult (Kh430.planFor s (Kh430.allLots s)) = if Kh430.isSet s (Kh430.allLots s) = false then Kh430.single (-22) else Kh430.planResult (Kh430.planFor s (Kh430.allLots s))
      rw [if_neg]
      unfold Kh430.isSet Kh430.allLots
      have := Nat.two_pow_pos s.lots.length
      rw [decide_eq_true (by omega)]
      exact Bool.noConfusion
    have b8 := of_decide_eq_false hb
    have e12 := e1.trans e2
    refine q_when (et_which (k := 9) (ev_var rfl)) (fun hb H3 e3 => ?_) (fun hb H3 e3 => ?_)
    · obtain rfl := of_decide_eq_true hb
      have e13 := e12.trans e3
      exact s_retM (ev_var rfl) (e13 _ _ so) (s_no rfl) (ea_one (ev_nix (j := 0) (ev_var rfl) (e13 _ _ hn) hz)) fun H4 e4 => ⟨a, L, s, _, rfl, hS.mono (e13.trans e4), ok, k.mono (e13.trans e4)⟩
    have b9 := of_decide_eq_false hb
    have e13 := e12.trans e3
    refine q_when (et_which (k := 10) (ev_var rfl)) (fun hb H4 e4 => ?_) (fun hb H4 e4 => ?_)
    · obtain rfl := of_decide_eq_true hb
      have e14 := e13.trans e4
      exact s_retM (ev_var rfl) (e14 _ _ so) (s_no rfl) (ea_one (ev_nix (j := 0) (ev_var rfl) (e14 _ _ hn) hz)) fun H5 e5 => ⟨a, L, s, _, rfl, hS.mono (e14.trans e5), ok, k.mono (e14.trans e5)⟩
    have b10 := of_decide_eq_false hb
    have e14 := e13.trans e4
    refine q_when (et_which (k := 11) (ev_var rfl)) (fun hb H5 e5 => ?_) (fun hb H5 e5 => ?_)
    · obtain rfl := of_decide_eq_true hb
      have e15 := e14.trans e5
      exact s_retM (ev_var rfl) (e15 _ _ so) (s_no rfl) ea_nil fun H6 e6 => ⟨a, L, s, rfl, hS.mono (e15.trans e6), ok, (AnsQ.free k (Int.natCast_nonneg _)).mono (e15.trans e6)⟩
    have b11 := of_decide_eq_false hb
    have e15 := e14.trans e5
    refine q_when (et_which (k := 12) (ev_var rfl)) (fun hb H6 e6 => ?_) (fun hb H6 e6 => ?_)
    · obtain rfl := of_decide_eq_true hb
      have e16 := e15.trans e6
      exact s_retM (ev_var rfl) (e16 _ _ so) (s_no rfl) (ea_two (ev_nix (j := 0) (ev_var rfl) (e16 _ _ hn) hz) (ev_var rfl)) fun H7 e7 => ⟨a, L, r, s, _, rs, rfl, hS.mono (e16.trans e7), ok, (e16.trans e7) _ _ hr', hrl, k.mono (e16.trans e7)⟩
    have b12 := of_decide_eq_false hb
    have e16 := e15.trans e6
    refine s_retIf (et_which (k := 13) (ev_var rfl)) (fun hb H7 e7 => ?_) (fun hb H7 e7 => ?_)
    · obtain rfl := of_decide_eq_true hb
      have e17 := e16.trans e7
      exact s_retM (ev_var rfl) (e17 _ _ so) (s_no rfl) (ea_two (ev_nix (j := 0) (ev_var rfl) (e17 _ _ hn) hz) (ev_var rfl)) fun H8 e8 => ⟨a, L, r, s, _, rs, rfl, hS.mono (e17.trans e8), ok, (e17.trans e8) _ _ hr', hrl, k.mono (e17.trans e8)⟩
    · have b13 := of_decide_eq_false hb
      obtain rfl : v = 14 := by omega
      have e17 := e16.trans e7
      exact s_retM (ev_var rfl) (e17 _ _ so) (s_no rfl) (ea_one (ev_nix (j := 0) (ev_var rfl) (e17 _ _ hn) hz)) fun H8 e8 => ⟨a, L, s, _, rfl, hS.mono (e17.trans e8), ok, k.mono (e17.trans e8)⟩
theorem ok_Storage_tell_more (T : Txt K mg A) : FnOk P w K mg base (L2.CX P w) 13 A.f_Storage_tell_more A.d_Storage_tell_more ["self", "which", "n"] (spTellMore A) := by
  refine T.F_Storage_tell_more.okX sc_Storage_tell_more (fun vs H Q E h => ?_) (fun cdv Ar outer s H vs Q E hr h => ⟨_, (pss_cons (ps_if (pt_cmpR op_eq (pv 1) pe_int (nomark _)) (pss_one (ps_ret (pe_meth0 (pv 0) T.l_Storage T.m_Storage_min_capacity (ok_Storage_min_capacity T) (hr.mono (by decide)) T.b_Storage_min_capacity .nil (passes_call (takes_of rfl rfl rfl rfl) (fun _ _ _ _ z => z))))) pss_nil) (pss_cons (ps_if (pt_cmpR op_eq (pv 1) pe_int (nomark _)) (pss_one (ps_ret (pe_meth (pv 0) T.l_Storage T.m_Storage_count_if_warm_loss (ok_Storage_count_if_warm_loss T) (hr.mono (by decide)) T.b_Storage_count_if_warm_loss .nil (passes_call (takes_of rfl rfl rfl rfl) (fun _ _ _ _ z => z)) (by exact (pa_cons (pe_ix ix_list (pv 2) pe_int (fun _ _ => rfl)) pa_nil))))) pss_nil) (pss_cons (ps_if (pt_cmpR op_eq (pv 1) pe_int (nomark _)) (pss_one (ps_ret (pe_meth (pv 0) T.l_Storage T.m_Storage_needed_by (ok_Storage_needed_by T) (hr.mono (by decide)) T.b_Storage_needed_by .nil (passes_call (takes_of rfl rfl rfl rfl) (fun _ _ _ _ z => z)) (by exact (pa_cons (pe_ix ix_list (pv 2) pe_int (fun _ _ => rfl)) pa_nil))))) pss_nil) (pss_cons (ps_if (pt_cmpR op_eq (pv 1) pe_int (nomark _)) (pss_one (ps_ret (pe_meth0 (pv 0) T.l_Storage T.m_Storage_balance (ok_Storage_balance T) (hr.mono (by decide)) T.b_Storage_balance .nil pass0))) pss_nil) (pss_cons (ps_if (pt_cmpR op_eq (pv 1) pe_int (nomark _)) (pss_one (ps_ret (pe_meth0 (pv 0) T.l_Storage T.m_Storage_list_lots (ok_Storage_list_lots T) (hr.mono (by decide)) T.b_Storage_list_lots .nil pass0))) pss_nil) (pss_cons (ps_if (pt_cmpR op_eq (pv 1) pe_int (nomark _)) (pss_one (ps_ret (pe_lst (pa_cons (pe_fld (pv 0) rfl) (pa_cons (pe_fld (pv 0) rfl) pa_nil))))) pss_nil) (pss_one (ps_ret (pe_lst (pa_cons (pe_fld (pv 0) rfl) (pa_cons (pe_fld (pv 0) rfl) (pa_cons (pe_fld (pv 0) rfl) (pa_cons (pe_fld (pv 0) rfl) (pa_cons (pe_callB call_len_seq rfl T.z_len (by decide +kernel) (by exact (pa_cons (pe_fld (pv 0) rfl) pa_nil))) pa_nil)))))))))))))), ?_⟩)
  · obtain ⟨a, L, n, s, v, ns, rfl, _⟩ := h
    rfl
  · obtain ⟨a, L, n, s, v, ns, rfl, hS, ok, h15, h21, hn, hz, k⟩ := h
    obtain ⟨dx, so⟩ := hS.obj
    obtain ⟨ws, hw, hwl⟩ := hS.lots.list
    refine q_when (et_which (k := 15) (ev_var rfl)) (fun hb H1 e1 => ?_) (fun hb H1 e1 => ?_)
    · obtain rfl := of_decide_eq_true hb
      exact s_retM (ev_var rfl) (e1 _ _ so) (s_no rfl) ea_nil fun H2 e2 => ⟨a, L, s, rfl, hS.mono (e1.trans e2), ok, k.mono (e1.trans e2)⟩
    have b15 := of_decide_eq_false hb
    refine q_when (et_which (k := 16) (ev_var rfl)) (fun hb H2 e2 => ?_) (fun hb H2 e2 => ?_)
    · obtain rfl := of_decide_eq_true hb
      have e12 := e1.trans e2
      exact s_retM (ev_var rfl) (e12 _ _ so) (s_no rfl) (ea_one (ev_nix (j := 0) (ev_var rfl) (e12 _ _ hn) hz)) fun H3 e3 => ⟨a, L, s, _, rfl, hS.mono (e12.trans e3), ok, k.mono (e12.trans e3)⟩
    have b16 := of_decide_eq_false hb
    have e12 := e1.trans e2
    refine q_when (et_which (k := 17) (ev_var rfl)) (fun hb H3 e3 => ?_) (fun hb H3 e3 => ?_)
    · obtain rfl := of_decide_eq_true hb
      have e13 := e12.trans e3
      exact s_retM (ev_var rfl) (e13 _ _ so) (s_no rfl) (ea_one (ev_nix (j := 0) (ev_var rfl) (e13 _ _ hn) hz)) fun H4 e4 => ⟨a, L, s, _, rfl, hS.mono (e13.trans e4), ok, k.mono (e13.trans e4)⟩
    have b17 := of_decide_eq_false hb
    have e13 := e12.trans e3
    refine q_when (et_which (k := 18) (ev_var rfl)) (fun hb H4 e4 => ?_) (fun hb H4 e4 => ?_)
    · obtain rfl := of_decide_eq_true hb
      have e14 := e13.trans e4
      exact s_retM (ev_var rfl) (e14 _ _ so) (s_no rfl) ea_nil fun H5 e5 => ⟨a, L, s, rfl, hS.mono (e14.trans e5), ok, (AnsQ.free k (Int.natCast_nonneg _)).mono (e14.trans e5)⟩
    have b18 := of_decide_eq_false hb
    have e14 := e13.trans e4
    refine q_when (et_which (k := 19) (ev_var rfl)) (fun hb H5 e5 => ?_) (fun hb H5 e5 => ?_)
    · obtain rfl := of_decide_eq_true hb
      have e15 := e14.trans e5
      exact s_retM (ev_var rfl) (e15 _ _ so) (s_no rfl) ea_nil fun H6 e6 => ⟨a, L, s, rfl, hS.mono (e15.trans e6), ok, (AnsQ.free k (Int.natCast_nonneg _)).mono (e15.trans e6)⟩
    have b19 := of_decide_eq_false hb
    have e15 := e14.trans e5
    refine q_when (et_which (k := 20) (ev_var rfl)) (fun hb H6 e6 => ?_) (fun hb H6 e6 => ?_)
    · obtain rfl := of_decide_eq_true hb
      have e16 := e15.trans e6
      refine s_retL (el_lst (ea_two (ev_fld (ev_var rfl) (e16 _ _ so) T.l_Storage T.n_Storage_left s_left) (ev_fld (ev_var rfl) (e16 _ _ so) T.l_Storage T.n_Storage_spoiled s_spoiled)) (by show 2 ≤ 100000; decide)) fun p H7 hp e7 h7 => ?_
      exact k.1 (Int.natCast_nonneg _) p H7 (fresh_back e16 hp) (e16.trans e7) h7
    · have b20 := of_decide_eq_false hb
      obtain rfl : v = 21 := by omega
      have e16 := e15.trans e6
      refine s_retL (el_lst (ea_cons (ev_fld (ev_var rfl) (e16 _ _ so) T.l_Storage T.n_Storage_time s_time) (ea_cons (ev_fld (ev_var rfl) (e16 _ _ so) T.l_Storage T.n_Storage_warm_loss s_warm) (ea_cons (ev_fld (ev_var rfl) (e16 _ _ so) T.l_Storage T.n_Storage_cold_loss s_cold) (ea_two (ev_fld (ev_var rfl) (e16 _ _ so) T.l_Storage T.n_Storage_capacity s_cap) (ev_len2 (ev_fld (ev_var rfl) (e16 _ _ so) T.l_Storage T.n_Storage_lots s_lots) (sq_of (e16 _ _ hw))))))) (by show 5 ≤ 100000; decide)) fun p H7 hp e7 h7 => ?_
      refine k.1 (Int.natCast_nonneg _) p H7 (fresh_back e16 hp) (e16.trans e7) ?_
      rw [h7, hwl]
      rfl
theorem ok_new_storage (T : Txt K mg A) : FnOk P w K mg base (L2.CX P w) 13 A.f_new_storage A.d_new_storage ["n"] (spNew A) := by
  refine T.F_new_storage.okX sc_new_storage (fun vs H Q E h => ?_) (fun cdv Ar outer s H vs Q E hr h => ⟨_, (pss_cons (ps_expr (pe_call (ok_check_losses T) (hr.mono (by decide)) rfl T.g_check_losses T.F_check_losses.kp T.b_check_losses .nil (passes_call (takes_of rfl rfl rfl rfl) (fun _ _ _ _ z => z)) (by exact (pa_cons (pe_ix ix_list (pv 0) pe_int (fun _ _ => rfl)) (pa_cons (pe_ix ix_list (pv 0) pe_int (fun _ _ => rfl)) pa_nil))))) (pss_cons (ps_expr (pe_call (ok_check T) (hr.mono (by decide)) rfl T.g_check T.F_check.kp T.b_check .nil (passes_call (takes_of rfl rfl rfl rfl) (fun _ _ _ _ z => z)) (by exact (pa_cons (pe_cmpR op_le (pe_ix ix_list (pv 0) pe_int (fun _ _ => rfl)) (pe_gint rfl T.k_CAPACITY_AT_MOST) (nomark _)) (pa_cons (pe_gint rfl T.k_OUT_OF_RANGE) pa_nil))))) (pss_one (ps_ret (pe_make T.m_Storage (ok_Storage_init T) (hr.mono (by decide)) rfl T.g_Storage T.b_Storage_init .nil pass0 (by exact (pa_cons (pe_ix ix_list (pv 0) pe_int (fun _ _ => rfl)) (pa_cons (pe_ix ix_list (pv 0) pe_int (fun _ _ => rfl)) (pa_cons (pe_ix ix_list (pv 0) pe_int (fun _ _ => rfl)) pa_nil))))))))), ?_⟩)
  · obtain ⟨n, ns, rfl, _⟩ := h
    rfl
  · obtain ⟨n, ns, rfl, hn, hz, kY, kN⟩ := h
    refine q_chk (ea_two (ev_nix (j := 0) (ev_var rfl) hn (by omega)) (ev_nix (j := 1) (ev_var rfl) hn (by omega))) (chk_losses (w := ns.getD 0 0) (c := ns.getD 1 0)) (fun hm H1 e1 => ?_) (fun hm => kN (fun z => by rw [hm] at z; exact Bool.noConfusion z.1))
    refine q_chk (ok := decide ((ns.getD 2 0 : Int) ≤ 4)) (ea_two (ev_op (ev_nix (j := 2) (ev_var rfl) (e1 _ _ hn) (by omega)) ev_c rv_I0) ev_c) chk_check (fun hc H2 e2 => ?_) (fun hc => (kN (fun z => by have := of_decide_eq_false hc; omega)).mono e1)
    have e12 := e1.trans e2
    have hc' : ns.getD 2 0 ≤ 4 := by have := of_decide_eq_true hc; omega
    refine s_retN (P := fun p H2 => ∃ L, H2 L = some (.lst []) ∧ H L = none ∧ StoAt A H2 p L ⟨ns.getD 0 0, ns.getD 1 0, ns.getD 2 0, [], 0, 0, 0⟩) (fun Hx ex Qx qx => ?_) fun p H3 hp e3 h3 => ?_
    · refine ea_cons (ev_nix (j := 0) (ev_var rfl) (e12 _ _ hn) (by omega)) (ea_two (ev_nix (j := 1) (ev_var rfl) (e12 _ _ hn) (by omega)) (ev_nix (j := 2) (ev_var rfl) (e12 _ _ hn) (by omega))) Hx ex _ fun H4 e4 x dx hx hd ne => ?_
      have e04 := (e12.trans ex).trans e4
      have up : Ex H4 (upd (upd H4 dx (.own x)) x (.ins A.c_Storage dx [])) := (Ex.new hd).trans (Ex.new (by rw [upd_ne (Ne.symm ne), hx]))
      refine ⟨x, dx, _, _, _, rfl, upd_same, fun H5 L hL h5 hl keep => ⟨rfl, qx x H5 (fresh_back e4 hx) (fun b o hb => keep b o (up _ _ (e4 _ _ hb)) (ne_of_none (e4 _ _ hb) hx)) ⟨L, hl, fresh_back (e04.trans up) hL, ⟨⟨dx, h5⟩, [], hl, rfl, fun i y hi => by simp at hi⟩⟩⟩⟩
    · obtain ⟨L, _, hL, hS⟩ := h3
      exact kY ⟨hm, hc'⟩ p L H3 (fresh_back e12 hp) hL (e12.trans e3) hS
end
end Cold

namespace Cold
open PySem PySem.Spec PyProof.Rows L2 Evl
/-! ### the desk -/
theorem upto21 {p : Nat} (h : p ≤ 21) : p = 0 ∨ p = 1 ∨ p = 2 ∨ p = 3 ∨ p = 4 ∨ p = 5 ∨ p = 6 ∨ p = 7 ∨ p = 8 ∨ p = 9 ∨ p = 10 ∨ p = 11 ∨ p = 12 ∨ p = 13 ∨ p = 14 ∨ p = 15 ∨ p = 16 ∨ p = 17 ∨ p = 18 ∨ p = 19 ∨ p = 20 ∨ p = 21 := by omega
theorem exec_create (o : Option Kh430.Store) (a b d : Nat) : Kh430.execute o (.create a b d) = if Kh430.areValidLosses a b = false ∨ Kh430.maxLots < d then (o, Kh430.single (-22)) else (some ⟨a, b, d, [], 0, 0, 0⟩, Kh430.single 0) := by
  cases o <;> rfl
theorem exec_none {w : Nat} (h : w ≤ 21) (h1 : w ≠ 0) (n r : List Nat) : Kh430.execute none (callOf w n r) = (none, Kh430.single (-61)) := by
  rcases upto21 h with e | e | e | e | e | e | e | e | e | e | e | e | e | e | e | e | e | e | e | e | e | e <;> subst e <;> first
    | exact absurd rfl h1
    | rfl
theorem exec_some {w : Nat} (h : w ≤ 21) (h1 : w ≠ 0) (s : Kh430.Store) (n r : List Nat) : Kh430.execute (some s) (callOf w n r) = (some (Kh430.apply s (callOf w n r)).1, (Kh430.apply s (callOf w n r)).2) := by
  rcases upto21 h with e | e | e | e | e | e | e | e | e | e | e | e | e | e | e | e | e | e | e | e | e | e <;> subst e <;> first
    | exact absurd rfl h1
    | rfl
theorem apply_q {w : Nat} (h : w ≤ 21) (h1 : 6 < w) (s : Kh430.Store) (n r : List Nat) : (Kh430.apply s (callOf w n r)).1 = s := by
  rcases upto21 h with e | e | e | e | e | e | e | e | e | e | e | e | e | e | e | e | e | e | e | e | e | e <;> subst e <;> first
    | exact absurd h1 (by decide)
    | rfl
theorem callOf_row {w : Nat} (h : w ≤ 21) (h1 : w ≠ 12) (h2 : w ≠ 13) (n r : List Nat) : callOf w n r = callOf w n [] := by
  rcases upto21 h with e | e | e | e | e | e | e | e | e | e | e | e | e | e | e | e | e | e | e | e | e | e <;> subst e <;> first
    | exact absurd rfl h1
    | exact absurd rfl h2
    | rfl
def stoV : Option Addr → V
  | none => .non
  | some a => .ref a
theorem DeskAt.obj {A : Ad} {H : Hp} {d : Addr} {o : Option Kh430.Store} {fp : List Addr} (h : DeskAt A H d o fp) : ∃ dx v, H d = some (.ins A.c_Desk dx [("storage", v)]) ∧ d ∈ fp := by
  cases o with
  | none =>
    obtain ⟨⟨dx, q⟩, rfl⟩ := h
    exact ⟨dx, _, q, List.mem_singleton.mpr rfl⟩
  | some s =>
    obtain ⟨dx, a, L, q, _, rfl⟩ := h
    exact ⟨dx, _, q, List.mem_cons_self⟩
theorem AnsD.mono {A : Ad} {r : Option Kh430.Store × Kh430.Result} {H H' : Hp} {d : Addr} {fp : List Addr} {Q : VK} {E : XK} (e : Ex H H') (k : AnsD A r H d fp Q E) : AnsD A r H' d fp Q E :=
  ⟨fun h p H2 fp2 hp hD hf keep h2 => k.1 h p H2 fp2 (fresh_back e hp) hD (fun b hb => (hf b hb).imp id (fresh_back e)) (fun b o hb n => keep b o (e _ _ hb) n) h2, fun h => (k.2 h).mono e⟩
theorem dec_le (w k : Nat) : decide ((w : Int) ≤ (k : Int)) = decide (w ≤ k) := by
  apply decide_eq_decide.mpr
  omega
section
variable {K : PySem.W.Frag} {σ : L2.St} {H : Hp} {ta : TE} {tA : TA} {D : Ends} {f : Str} {vs dvs : List V} {sp : Sp} {E : XK} {tz : TS}
theorem q_fldE (ha : EvA tA σ H vs) (hs : ∀ H1, Ex H H1 → ∀ Q : VK, sp (vs ++ dvs) H1 Q E) : tSeq (sFld K ta (tCall sp dvs E tA) f) tz D σ H := ha H (Ex.refl H) _ fun H1 e1 => hs H1 e1 _
end
section
variable {P : Program} {w : World} {K : PySem.W.Frag} {mg : Str → Option Value} {base : Heap} {A : Ad}
theorem ok_Desk_ask (T : Txt K mg A) : FnOk P w K mg base (L2.CX P w) 14 A.f_Desk_ask A.d_Desk_ask ["self", "which", "n", "row"] (spAsk A) := by
  refine T.F_Desk_ask.okX sc_Desk_ask (fun vs H Q E h => ?_) (fun cdv Ar outer s H vs Q E hr h => ⟨_, (pss_cons (ps_if (pt_cmpR op_eq (pv 1) pe_int (nomark _)) (pss_cons (ps_fld (pv 0) (pe_call (ok_new_storage T) (hr.mono (by decide)) rfl T.g_new_storage T.F_new_storage.kp T.b_new_storage .nil (passes_call (takes_of rfl rfl rfl rfl) (fun _ _ _ _ z => z)) (by exact (pa_cons (pv 2) pa_nil))) rfl) (pss_one (ps_ret (pe_lst (pa_cons pe_int pa_nil))))) pss_nil) (pss_cons (ps_expr (pe_call (ok_check T) (hr.mono (by decide)) rfl T.g_check T.F_check.kp T.b_check .nil (passes_call (takes_of rfl rfl rfl rfl) (fun _ _ _ _ z => z)) (by exact (pa_cons (pe_cmpR op_notN (pe_fld (pv 0) rfl) pe_non (nomark _)) (pa_cons (pe_gint rfl T.k_NO_STORE) pa_nil))))) (pss_cons (ps_if (pt_cmpR op_le (pv 1) pe_int (nomark _)) (pss_one (ps_ret (pe_meth (pe_fld (pv 0) rfl) T.l_Storage T.m_Storage_change (ok_Storage_change T) (hr.mono (by decide)) T.b_Storage_change .nil (passes_call (takes_of rfl rfl rfl rfl) (fun _ _ _ _ z => z)) (by exact (pa_cons (pv 1) (pa_cons (pv 2) pa_nil)))))) pss_nil) (pss_one (ps_ret (pe_ifExp (pt_cmpR op_le (pv 1) pe_int (nomark _)) (pe_meth (pe_fld (pv 0) rfl) T.l_Storage T.m_Storage_tell (ok_Storage_tell T) (hr.mono (by decide)) T.b_Storage_tell .nil (passes_call (takes_of rfl rfl rfl rfl) (fun _ _ _ _ z => z)) (by exact (pa_cons (pv 1) (pa_cons (pv 2) (pa_cons (pv 3) pa_nil))))) (pe_meth (pe_fld (pv 0) rfl) T.l_Storage T.m_Storage_tell_more (ok_Storage_tell_more T) (hr.mono (by decide)) T.b_Storage_tell_more .nil (passes_call (takes_of rfl rfl rfl rfl) (fun _ _ _ _ z => z)) (by exact (pa_cons (pv 1) (pa_cons (pv 2) pa_nil)))))))))), ?_⟩)
  · obtain ⟨d, n, r, o, fp, v, ns, rs, rfl, _⟩ := h
    rfl
  · obtain ⟨d, n, r, o, fp, v, ns, rs, rfl, hD, ok, h21, hn, hz, hr', hrl, k⟩ := h
    refine q_when (et_which (k := 0) (ev_var rfl)) (fun hb H1 e1 => ?_) (fun hb H1 e1 => ?_)
    · obtain rfl := of_decide_eq_true hb
      have hz : 3 ≤ ns.length := hz
      have k : AnsD A (Kh430.execute o (.create (ns.getD 0 0) (ns.getD 1 0) (ns.getD 2 0))) H d fp Q E := k
      rw [exec_create] at k
      by_cases hv : Kh430.areValidLosses (ns.getD 0 0) (ns.getD 1 0) = true ∧ ns.getD 2 0 ≤ 4
      · rw [if_neg (by have m4 : Kh430.maxLots = 4 := rfl; exact fun z => z.elim (fun z => by rw [hv.1] at z; cases z) (fun z => by omega))] at k
        obtain ⟨dx, x, hd, hmem⟩ := hD.obj
        refine q_fldN (P := fun p H2 => ∃ L, H L = none ∧ StoAt A H2 p L ⟨ns.getD 0 0, ns.getD 1 0, ns.getD 2 0, [], 0, 0, 0⟩) (en_call (ea_one (ev_var rfl)) fun Hx ex Q' q E' => ⟨n, ns, rfl, (e1.trans ex) _ _ hn, hz, fun _ a L H2 ha hL e2 hS => q a H2 ha e2 ⟨L, fresh_back (e1.trans ex) hL, hS⟩, fun z => absurd hv z⟩) (ev_var rfl) (e1 _ _ hd) T.l_Desk T.n_Desk_storage (by show 1 < 1000; decide) fun p H2 hp e2 h2 H3 e3 => ?_
        obtain ⟨L, hL, hS⟩ := h2
        have hS := hS.mono e3
        have hp := fresh_back e1 hp
        have e03 := (e1.trans e2).trans e3
        have epd : p ≠ d := fun z => by rw [z, hd] at hp; cases hp
        have eLd : L ≠ d := fun z => by rw [z, hd] at hL; cases hL
        refine s_retL (el_lst (ea_one ev_c) (by show 1 ≤ 100000; decide)) fun p' H4 hp' e4 h4 => ?_
        have hd4 := e4 _ _ (upd_same (H := H3) (a := d) (o := .ins A.c_Desk dx (putF "storage" (.ref p) [("storage", x)])))
        rw [put0] at hd4
        obtain ⟨sx, so⟩ := hS.obj
        obtain ⟨ls, lo, ll, _⟩ := hS.lots
        have so4 := e4 p _ (by rw [upd_ne epd]; exact so)
        have lo4 := e4 L _ (by rw [upd_ne eLd]; exact lo)
        have hp3 : H p' = none := by
          by_cases z : p' = d
          · rw [z, upd_same] at hp'; cases hp'
          · rw [upd_ne z] at hp'; exact fresh_back e03 hp'
        refine k.1 (by show (0 : Int) ≤ 0; decide) p' H4 [d, p, L] hp3 ⟨dx, p, L, hd4, ⟨⟨sx, so4⟩, ls, lo4, ll, fun i y hi => by simp at hi⟩, rfl⟩ (fun b hb => ?_) (fun b ob hb nb => ?_) h4
        · rcases List.mem_cons.mp hb with z | hb
          · exact .inl (z ▸ hmem)
          · rcases List.mem_cons.mp hb with z | hb
            · exact .inr (z ▸ hp)
            · exact .inr (List.mem_singleton.mp hb ▸ hL)
        · exact e4 _ _ (by rw [upd_ne (fun z : b = d => nb (by rw [z]; exact hmem))]; exact e03 _ _ hb)
      · rw [if_pos (by
          have m4 : Kh430.maxLots = 4 := rfl
          cases z : Kh430.areValidLosses (ns.getD 0 0) (ns.getD 1 0) with
          | false => exact .inl rfl
          | true => exact .inr (by rw [z] at hv; have : ¬ ns.getD 2 0 ≤ 4 := fun y => hv ⟨rfl, y⟩; omega))] at k
        exact q_fldE (ea_one (ev_var rfl)) fun H2 e2 Q' => ⟨n, ns, rfl, (e1.trans e2) _ _ hn, hz, fun z => absurd z hv, fun _ => (k.2 (by show (-22 : Int) < 0; decide)).mono (e1.trans e2)⟩
    · have b0 := of_decide_eq_false hb
      cases o with
      | none =>
        obtain ⟨⟨dx, hd⟩, rfl⟩ := hD
        rw [exec_none h21 b0] at k
        exact q_chk (ok := false) (ea_two (ev_notN (x := .non) (ev_fld (ev_var rfl) (e1 _ _ hd) T.l_Desk T.n_Desk_storage lk0)) ev_c) chk_check (fun z => Bool.noConfusion z) (fun _ => (k.2 (by show (-61 : Int) < 0; decide)).mono e1)
      | some s =>
        obtain ⟨dx, a, L, hd, hS, rfl⟩ := hD
        have oks := ok s rfl
        rw [exec_some h21 b0] at k
        obtain ⟨sx, so⟩ := hS.obj
        refine q_chk (ok := true) (ea_two (ev_notN (x := .ref a) (ev_fld (ev_var rfl) (e1 _ _ hd) T.l_Desk T.n_Desk_storage lk0)) ev_c) chk_check (fun _ H2 e2 => ?_) (fun z => Bool.noConfusion z)
        have e12 := e1.trans e2
        refine q_when (b := decide (v ≤ 6)) (by rw [← dec_le v 6]; exact et_test (ev_op (ev_var rfl) ev_c rv_I0)) (fun hb H3 e3 => ?_) (fun hb H3 e3 => ?_)
        · have b6 := of_decide_eq_true hb
          have e13 := e12.trans e3
          refine s_retM (ev_fld (ev_var rfl) (e13 _ _ hd) T.l_Desk T.n_Desk_storage lk0) (e13 _ _ so) (s_no rfl) (ea_two (ev_var rfl) (ev_var rfl)) fun H4 e4 => ⟨a, L, n, s, v, ns, rfl, hS.mono (e13.trans e4), oks, by omega, b6, (e13.trans e4) _ _ hn, hz, ?_⟩
          rw [callOf_row h21 (by omega) (by omega)] at k
          have e14 := e13.trans e4
          refine ⟨fun h p H5 L2 hp hS2 hL keep h5 => ?_, fun h => (k.2 h).mono e14⟩
          have hne : d ≠ a := fun z => by rw [z, so] at hd; have := Option.some.inj hd; injection this with c1 _ c3; simp [sF] at c3
          obtain ⟨lv, lo, _, _⟩ := hS.lots
          have hnl : d ≠ L := fun z => by rw [z, lo] at hd; cases hd
          refine k.1 h p H5 [d, a, L2] (fresh_back e14 hp) ⟨dx, a, L2, keep d _ (e14 _ _ hd) hne hnl, hS2, rfl⟩ (fun b hb => ?_) (fun b ob hb nb => ?_) h5
          · rcases List.mem_cons.mp hb with z | hb
            · exact .inl (z ▸ List.mem_cons_self)
            · rcases List.mem_cons.mp hb with z | hb
              · exact .inl (z ▸ List.mem_cons_of_mem _ List.mem_cons_self)
              · have z := List.mem_singleton.mp hb
                rcases hL with q | q
                · exact .inl (by rw [z, q]; exact List.mem_cons_of_mem _ (List.mem_cons_of_mem _ List.mem_cons_self))
                · exact .inr (z ▸ fresh_back e14 q)
          · exact keep b ob (e14 _ _ hb) (fun z : b = a => nb (by rw [z]; exact List.mem_cons_of_mem _ List.mem_cons_self)) (fun z : b = L => nb (by rw [z]; exact List.mem_cons_of_mem _ (List.mem_cons_of_mem _ List.mem_cons_self)))
        · have b6 := of_decide_eq_false hb
          have e13 := e12.trans e3
          rw [apply_q h21 (by omega)] at k
          have kQ : AnsQ A (Kh430.apply s (callOf v ns rs)).2 H Q E := ⟨fun h p H5 hp e5 h5 => k.1 h p H5 [d, a, L] hp ⟨dx, a, L, e5 _ _ hd, hS.mono e5, rfl⟩ (fun b hb => .inl hb) (fun b ob hb _ => e5 _ _ hb) h5, k.2⟩
          refine s_retIf (b := decide (v ≤ 14)) (by rw [← dec_le v 14]; exact et_test (ev_op (ev_var rfl) ev_c rv_I0)) (fun hb H4 e4 => ?_) (fun hb H4 e4 => ?_)
          · have b14 := of_decide_eq_true hb
            have e14 := e13.trans e4
            exact s_retM (ev_fld (ev_var rfl) (e14 _ _ hd) T.l_Desk T.n_Desk_storage lk0) (e14 _ _ so) (s_no rfl) (ea_cons (ev_var rfl) (ea_two (ev_var rfl) (ev_var rfl))) fun H5 e5 => ⟨a, L, n, r, s, v, ns, rs, rfl, hS.mono (e14.trans e5), oks, by omega, b14, (e14.trans e5) _ _ hn, hz, (e14.trans e5) _ _ hr', hrl, kQ.mono (e14.trans e5)⟩
          · have b14 := of_decide_eq_false hb
            have e14 := e13.trans e4
            rw [callOf_row h21 (by omega) (by omega)] at kQ
            exact s_retM (ev_fld (ev_var rfl) (e14 _ _ hd) T.l_Desk T.n_Desk_storage lk0) (e14 _ _ so) (s_no rfl) (ea_two (ev_var rfl) (ev_var rfl)) fun H5 e5 => ⟨a, L, n, s, v, ns, rfl, hS.mono (e14.trans e5), oks, by omega, h21, (e14.trans e5) _ _ hn, hz, kQ.mono (e14.trans e5)⟩
end
end Cold

namespace Cold
open PySem PySem.Spec PyProof.Rows L2 Evl
/-! ### carrying out, and the whole -/
/-- o.m(e, ..) within a try: what it raises is wished for at the slots as they stand -/
def tMethS (C : Addr) (m : Str) (sp : Sp) (E : L2.St → XK) (ta : TE) (t : TA) : TE := fun σ H Q => ta σ H fun x H1 => ∃ a dx fs, x = .ref a ∧ H1 a = some (.ins C dx fs) ∧ fs.lookup m = none ∧ t σ H1 fun vs H2 => sp (x :: vs) H2 Q (E σ)
theorem pe_methS {X : Cx} {CX : CXT} {k : Nat} {f C : Addr} {fd : FuncData} {ps : List Str} {sp : Sp} {E : L2.St → XK} {m : Str} {pos apos : Pos} {e o : Expr} {es : List Expr} {ta : TE} {t : TA} {pl : Sem Bool} (he : PE X o ta) (c : Cls X.K C) (hm : Meth X.K C m f)
    (F : FnOk X.prog X.w X.K X.mg X.base CX k f fd ps sp) (hr : Room k X.A) (hb : Binds X.K fd ps []) (hx : ∀ σ, PassesAt CX X σ (E σ)) (ha : PA X (e :: es) t)
    (hst : starEach (e :: es) X.env = (false, eval e X.env) :: starEach es X.env := by rfl) (hpl : (backTo pos (starEach es X.env)).any (·.1) = false := by rfl)
    (ht : eval (.Call (.Attribute o m apos) (e :: es) [] pos) X.env = (do
      let ov ← eval o X.env
      standAt apos.atName
      let (f, first) ← holding [ov] (getMethod ov m pl)
      callWith pos f first (backTo pos (starEach (e :: es) X.env)) (backToKw pos (keywordEach [] X.env))) := by rfl) :
    PE X (.Call (.Attribute o m apos) (e :: es) [] pos) (tMethS C m sp E ta t) := by
  refine ⟨fun pins s σ H Q I h => ?_⟩
  refine PySem.W.methodCall_KW (pl := pl) (thn (he.run pins s σ H _ I h) fun u s1 ⟨x, H1, I1, rx, a, dx, fs, ex, ea, l, q⟩ => ?_) ht
  subst ex
  obtain rfl : u = Value.ref a := rx
  refine getmeth_ok I1 ea c hm l ?_
  refine PySem.W.callWith_K (first := [.ref a]) (h₀ := X.base) I.ok.mod.kin hm.kp (thn (ha.run pos pins s1 σ H1 _ I1 q) fun us s2 ⟨vs, H2, I2, r, q2⟩ => ⟨I2.kIn, ?_⟩) hst hpl
  exact run_fnS (us := .ref a :: us) (vs := .ref a :: vs) F hr hb (hx σ) I2 (.cons rfl r) q2
section
variable {P : Program} {w : World} {K : PySem.W.Frag} {mg : Str → Option Value} {base : Heap} {A : Ad}
theorem ok_Desk_carry_out (T : Txt K mg A) : FnOk P w K mg base CX0 15 A.f_Desk_carry_out A.d_Desk_carry_out ["self", "which", "n", "row"] (spCarry A) := by
  refine T.F_Desk_carry_out.ok sc_Desk_carry_out (fun vs H Q E h => ?_) (fun cdv Ar outer s H vs Q E hr h => ⟨_, pss_one (ps_try_as (i := 4) (tb := fun W => tRet (tMethS A.c_Desk "ask" (spAsk A) (WE W) (tVar 0) (tCons (tVar 1) (tCons (tVar 2) (tCons (tVar 3) tNil)))))
    (ts := fun a cls d => tRet (tLst (tCons (tXf a cls d A.c_Refusal "code" (tVar 4)) tNil))) (Wout := fun _ _ _ _ => False) rfl rfl sc_Desk_carry_out.nd rfl rfl ⟨rfl, by decide, .inl T.g_Refusal⟩ takes0
    (fun W pn xe tk _ => pss_one (ps_ret (pe_methS (pv 0) T.l_Desk T.m_Desk_ask (ok_Desk_ask T) (hr.mono (by decide)) T.b_Desk_ask (fun σ => passAt tk σ) (by exact (pa_cons (pv 1) (pa_cons (pv 2) (pa_cons (pv 3) pa_nil)))))))
    (fun a oe cls d pn hz hf => pss_one (ps_ret (pe_lst (pa_cons (pe_xf T.rfx T.rfn hz hf (pv 4)) pa_nil))))), ?_⟩)
  · obtain ⟨d, n, r, o, fp, v, ns, rs, rfl, _⟩ := h
    rfl
  · obtain ⟨d, n, r, o, fp, v, ns, rs, rfl, hD, ok, h21, hn, hz, hr', hrl, k⟩ := h
    obtain ⟨dx, x, hd, hmem⟩ := hD.obj
    refine ⟨_, rfl, d, dx, _, rfl, hd, lk1 (by decide +kernel) lkn, _, rfl, _, rfl, _, rfl, d, n, r, o, fp, v, ns, rs, rfl, hD, ok, h21, hn, hz, hr', hrl, fun h p H2 fp2 hp hD2 hf keep h2 => k p H2 fp2 hp hD2 hf keep h2, fun h dd H2 e2 hdd h2 => ?_⟩
    refine ⟨true, T.rfe, fun _ a ha => ?_, fun q => Bool.noConfusion q⟩
    obtain ⟨x1, x2⟩ := exec_err o (callOf v ns rs) h
    refine ⟨_, rfl, rfl, rfl, dd, _, _, rfl, h2, lk0, (by show 1 ≤ sizeLine; exact sz_of (by decide)), fun p hp => ?_⟩
    have up : Ex H (upd H2 p (.lst [.int (Kh430.execute o (callOf v ns rs)).2.status])) := e2.trans (Ex.new hp)
    refine k p _ fp (fresh_back e2 hp) (by rw [x1]; exact hD.mono up) (fun b hb => .inl hb) (fun b ob hb _ => up _ _ hb) ?_
    rw [x2, upd_same, lI_single]
    rfl
theorem DeskAt.put {H : Hp} {d t : Addr} {o : Option Kh430.Store} {fp : List Addr} {xs ys : List V} (ht : H t = some (.lst xs)) (hn : t ∉ fp) (h : DeskAt A H d o fp) : DeskAt A (upd H t (.lst ys)) d o fp := by
  have ins : ∀ {b c dx fs}, H b = some (.ins c dx fs) → upd H t (.lst ys) b = some (.ins c dx fs) := fun {b c dx fs} hb => by
    rw [upd_ne (fun z : b = t => by rw [z, ht] at hb; cases hb)]
    exact hb
  cases o with
  | none =>
    obtain ⟨⟨dx, q⟩, f⟩ := h
    exact ⟨⟨dx, ins q⟩, f⟩
  | some s =>
    obtain ⟨dx, a, L, q, ⟨⟨sx, so⟩, vs, lo, ll, lk⟩, rfl⟩ := h
    refine ⟨dx, a, L, ins q, ⟨⟨sx, ins so⟩, vs, ?_, ll, fun i x hx => ?_⟩, rfl⟩
    · rw [upd_ne (fun z : L = t => hn (by rw [← z]; exact List.mem_cons_of_mem _ (List.mem_cons_of_mem _ List.mem_cons_self)))]
      exact lo
    · obtain ⟨b, h1, bx, h2⟩ := lk i x hx
      exact ⟨b, h1, bx, ins h2⟩
theorem cut_nat {ns : List Nat} {i j : Nat} (h : i ≤ ns.length) (h2 : j ≤ ns.length) : cutV (lN ns) (some (i : Int)) (some (j : Int)) = lN ((ns.drop i).take (j - i)) := by
  unfold cutV
  rw [HT.sIx_nat, HT.sIx_nat, lN_len, Nat.min_eq_left h, Nat.min_eq_left h2]
  unfold lN
  rw [← List.map_drop, ← List.map_take]
theorem size_getV {p : Nat} (h : p ≤ 21) : ([.int 3, .int 2, .int 1, .int 1, .int 1, .int 2, .int 0, .int 0, .int 0, .int 1, .int 1, .int 0, .int 1, .int 1, .int 1, .int 0, .int 1, .int 1, .int 0, .int 0, .int 0, .int 0] : List V)[p]? = some (nN (sizeOf p)) := by
  rcases upto21 h with e | e | e | e | e | e | e | e | e | e | e | e | e | e | e | e | e | e | e | e | e | e <;> subst e <;> rfl
theorem row_in {p : Nat} (h : p ≤ 21) : inV (nN p) [.int 12, .int 13] = rowQ p := by
  rcases upto21 h with e | e | e | e | e | e | e | e | e | e | e | e | e | e | e | e | e | e | e | e | e | e <;> subst e <;> decide +kernel
theorem ini_desk {H : Hp} : IniOk (spDeskInit A) A.c_Desk [] H (fun p H2 => ∃ dx, H2 p = some (.ins A.c_Desk dx [("storage", .non)])) := fun H1 e1 p dx hp hd ne Q E q =>
  have up : Ex H1 (upd (upd H1 dx (.own p)) p (.ins A.c_Desk dx [])) := (Ex.new hd).trans (Ex.new (by rw [upd_ne (Ne.symm ne), hp]))
  ⟨p, dx, rfl, upd_same, fun H2 h2 keep => q H2 (fun b o hb => keep b o (up b o hb) (ne_of_none hb hp)) ⟨dx, h2⟩⟩
section
variable {σ : L2.St} {H : Hp} {ta te : TE} {tA : TA} {D : Ends} {tz : TS} {a C dx l : Addr} {fs : List (Str × V)} {m : Str} {vs xs ys : List V} {v : V} {sp : Sp} {E : XK} {i : Nat}
theorem q_asgM (ha : Ev ta σ H (.ref a)) (ho : H a = some (.ins C dx fs)) (l : fs.lookup m = none) (hv : EvA tA σ H vs) (hs : ∀ H1, Ex H H1 → sp (.ref a :: (vs ++ [])) H1 (fun v H2 => tz D (σ.set i (some v)) H2) E) : tSeq (tAsg (tMeth C m sp [] E ta tA) (gName i)) tz D σ H :=
  ha H (Ex.refl H) _ fun H1 e1 => ⟨a, dx, fs, rfl, e1 _ _ ho, l, hv H1 e1 _ fun H2 e2 => hs H2 (e1.trans e2)⟩
theorem q_appZ (hl : H l = some (.lst xs)) (ha : Ev ta σ H (.ref l)) (h : Ev te σ H v) (hz : xs.length < sizeLine) (k : ∀ H1, Ex H H1 → tz D σ (upd H1 l (.lst (xs ++ [v])))) :
    tSeq (tDrop (tBM K "list" rAppend ta (tCons te tNil))) tz D σ H := ha H (Ex.refl H) _ fun H1 e1 =>
  ⟨Or.inl ⟨rfl, xs, sq_of (e1 l _ hl)⟩, h H1 e1 _ fun H2 e2 => ⟨l, xs, v, rfl, rfl, e2 l _ (e1 l _ hl), hz, k H2 (e1.trans e2)⟩⟩
theorem q_extV {b : Addr} (hl : H l = some (.lst xs)) (ha : Ev ta σ H (.ref l)) (h : Ev te σ H (.ref b)) (hb : H b = some (.lst ys)) (hz : xs.length + ys.length ≤ sizeLine) (k : ∀ H1, Ex H H1 → tz D σ (upd H1 l (.lst (xs ++ ys)))) :
    tSeq (tDrop (tBM K "list" rExtend ta (tCons te tNil))) tz D σ H := s_extV (D := { D with nx := tz D }) hl ha h hb hz k
theorem el_cut {j : Nat} {ns : List Nat} {tl th : TO} {b : Addr} (h : Ev te σ H (.ref b)) (h1 : EvO tl σ H (some (i : Int))) (h2 : EvO th σ H (some (j : Int))) (hs : SqL K H b (lN ns)) (hi : i ≤ ns.length) (hj : j ≤ ns.length) : EvL (tSl (rSlL K) te tl th) σ H (lN ((ns.drop i).take (j - i))) := by
  rw [← cut_nat hi hj]
  exact el_sl h h1 h2 hs
end
/-- between the turns -/
def Turn (A : Ad) (H : Hp) (a d t : Addr) (ns : List Nat) (m : Nat) (σ : L2.St) (H' : Hp) : Prop := ∃ (o : Option Kh430.Store) (fp : List Addr) (told : List Int) (i f : Nat) (cs : List (List (List Int))) (x4 x5 x6 x7 x8 x9 : Option V),
  σ = [some (.ref a), some (.ref d), some (.ref t), some (nN i), x4, x5, x6, x7, x8, x9] ∧ DeskAt A H' d o fp ∧ OkO o ∧ Ex H H' ∧ (∀ b ∈ fp, H b = none) ∧ H t = none ∧ t ∉ fp ∧ H' t = some (.lst (lI told)) ∧ i ≤ ns.length ∧
  PyFlat.calls PyKh430.shape f (I (ns.drop i)) = some cs ∧ PyKh430.answers (I ns) = told ++ later o cs ∧ m = ns.length - i
/-- the end of a turn -/
def tTail (K : PySem.W.Frag) (A : Ad) : TS := tSeq (tAsg (tMeth A.c_Desk "carry_out" (spCarry A) [] E0 (tVar 1) (tCons (tVar 4) (tCons (tVar 6) (tCons (tVar 7) tNil)))) (gName 9))
  (tSeq (tDrop (tBM K "list" rAppend (tVar 2) (tCons (tCB (fun xs H Q => ∃ p ys, xs = [V.ref p] ∧ (SqL K H p ys ∨ SqT K H p ys) ∧ Q (.int (ys.length : Nat)) H) (tCons (tVar 9) tNil)) tNil)))
  (tSeq (tDrop (tBM K "list" rExtend (tVar 2) (tCons (tVar 9) tNil))) (tAsg (tVar 5) (gName 3))))
theorem sz_big : 10000000 ≤ sizeLine := by
  rw [sizeLine_eq]
  decide
theorem ok_answers (T : Txt K mg A) : FnOk P w K mg base CX0 16 A.f_answers A.d_answers ["calls"] (spAnswers K) := by
  refine T.F_answers.ok sc_answers (fun vs H Q E h => ?_) (fun cdv Ar outer s H vs Q E hr h => ⟨_, (pss_cons (ps_set (i := 1) sc_answers.nd rfl (Or.inl rfl) (pe_make0 T.m_Desk (ok_Desk_init T) (hr.mono (by decide)) rfl T.g_Desk T.b_Desk_init .nil pass0)) (pss_cons (ps_set (i := 2) sc_answers.nd rfl (Or.inl rfl) (pe_lst pa_nil)) (pss_cons (ps_set (i := 3) sc_answers.nd rfl (Or.inl rfl) pe_int) (pss_cons (ps_while PassesOwn.never (pt_cmpR op_lt (pv 3) (pe_callB call_len_seq rfl T.z_len (by decide +kernel) (by exact (pa_cons (pv 0) pa_nil))) (nomark _)) (pss_cons (ps_set (i := 4) sc_answers.nd rfl (Or.inl rfl) (pe_ix ix_list (pv 0) (pv 3) (fun _ _ => rfl))) (pss_cons (ps_set (i := 5) sc_answers.nd rfl (Or.inl rfl) (pe_op op_add (pe_op op_add (pv 3) pe_int) (pe_ix ix_tup (pe_glob (v := .ref A.t_SIZES) rfl T.g_SIZES rfl) (pv 4) (fun _ _ => rfl)))) (pss_cons (ps_set (i := 6) sc_answers.nd rfl (Or.inl rfl) (pe_slice sl_list (pv 0) (po_some (pe_op op_add (pv 3) pe_int)) (po_some (pv 5)))) (pss_cons (ps_set (i := 7) sc_answers.nd rfl (Or.inl rfl) (pe_lst pa_nil)) (pss_cons (ps_if (pt_cmpR op_in_seq (pv 4) (pe_glob (v := .ref A.t_WITH_ROW) rfl T.g_WITH_ROW rfl) (by rfl)) (pss_cons (ps_set (i := 8) sc_answers.nd rfl (Or.inl rfl) (pe_op op_add (pv 5) pe_int)) (pss_cons (ps_set (i := 5) sc_answers.nd rfl (Or.inl rfl) (pe_op op_add (pv 8) (pe_ix ix_list (pv 0) (pv 5) (fun _ _ => rfl)))) (pss_one (ps_set (i := 7) sc_answers.nd rfl (Or.inl rfl) (pe_slice sl_list (pv 0) (po_some (pv 8)) (po_some (pv 5))))))) pss_nil) (pss_cons (ps_set (i := 9) sc_answers.nd rfl (Or.inl rfl) (pe_meth (pv 1) T.l_Desk T.m_Desk_carry_out (ok_Desk_carry_out T) (hr.mono (by decide)) T.b_Desk_carry_out .nil pass0 (by exact (pa_cons (pv 4) (pa_cons (pv 6) (pa_cons (pv 7) pa_nil)))))) (pss_cons (ps_expr (pe_bm PySem.F.plainAttrs_list PySem.F.slot_list_append PySem.F.type_list_append mt_append (pv 2) (pa_cons (pe_callB call_len_seq rfl T.z_len (by decide +kernel) (by exact (pa_cons (pv 9) pa_nil))) pa_nil))) (pss_cons (ps_expr (pe_bm PySem.F.plainAttrs_list PySem.F.slot_list_extend PySem.F.type_list_extend mt_extend (pv 2) (pa_cons (pv 9) pa_nil))) (pss_one (ps_set (i := 3) sc_answers.nd rfl (Or.inl rfl) (pv 5)))))))))))) (pss_one (ps_ret (pv 2))))))), ?_⟩)
  · obtain ⟨a, ns, rfl, _⟩ := h
    rfl
  · obtain ⟨a, ns, rfl, hS, hlen, hask, k⟩ := h
    obtain ⟨cs0, hc0, hans, hbig⟩ := answers_start hask
    have hz := sz_big
    refine q_asgN (en_make ea_nil ini_desk) fun d H1 hd e1 h1 => ?_
    obtain ⟨dx, h1⟩ := h1
    refine q_asgL (el_lst ea_nil (by show 0 ≤ 100000; decide)) fun t H2 ht e2 h2 => ?_
    have e02 := e1.trans e2
    have htd : t ≠ d := fun z => by rw [z, h1] at ht; cases ht
    refine q_asg ev_c fun H3 e3 => ?_
    have e03 := e02.trans e3
    refine q_while (Turn A H a d t ns) (ns.length) ⟨none, [d], [], 0, ns.length, cs0, none, none, none, none, none, none, rfl, ⟨⟨dx, (e2.trans e3) _ _ h1⟩, rfl⟩, (fun s hs => by cases hs), e03, (fun b hb => by rw [List.mem_singleton.mp hb]; exact hd), fresh_back e1 ht, (fun z => htd (List.mem_singleton.mp z)), e3 _ _ h2, Nat.zero_le _, hc0, hans, rfl⟩ ?_
    rintro m σ' H' ⟨o, fp, told, i, f, cs, x4, x5, x6, x7, x8, x9, rfl, hD, ok, e0, hfp, htn, htf, hT, hi, hc, ha, rfl⟩
    have hS' := ex_l e0 hS
    refine ⟨decide ((i : Int) < ((lN ns).length : Nat)), et_test (ev_op (ev_var rfl) (ev_len2 (ev_var rfl) hS') rv_I0), fun hb H4 e4 => ?_, fun hb H4 e4 => ?_⟩
    · have hb := of_decide_eq_true hb
      rw [lN_len] at hb
      have hi2 : i < ns.length := by omega
      obtain ⟨p, hp, _⟩ := drop_at hi2
      obtain ⟨h21, hsz, row, j, f', cs', ec, hc', hij, hj, hrow⟩ := turn_at hp hc
      refine ⟨fun σ2 H2 => ∃ m', m' < ns.length - i ∧ Turn A H a d t ns m' σ2 H2, fun _ _ h => h, ?_⟩
      have e04 := e0.trans e4
      refine q_asg (v := nN p) (ev_op (ev_var rfl) (ev_var rfl) (rv_ixL (ex_l e04 hS) (atI_get (lN_get hp)))) fun H5 e5 => ?_
      have e45 := e4.trans e5
      refine q_asg (v := nN (i + 1 + sizeOf p)) (ev_op (ev_op (ev_var rfl) ev_c rv_I0) (ev_op ev_c (ev_var rfl) (rv_ixT (T.w_SIZES _) (atI_get (size_getV h21)))) rv_I0) fun H6 e6 => ?_
      have e46 := e45.trans e6
      refine q_asgL (el_cut (i := i + 1) (j := i + 1 + sizeOf p) (ev_var rfl) (eo_some (ev_op (ev_var rfl) ev_c rv_I0)) (eo_some (ev_var rfl)) (ex_l (e0.trans e46) hS) (by omega) hsz) fun n H7 hn e7 h7 => ?_
      rw [show i + 1 + sizeOf p - (i + 1) = sizeOf p by omega] at h7
      have e47 := e46.trans e7
      refine q_asgL (el_lst ea_nil (by show 0 ≤ 100000; decide)) fun r0 H8 hr0 e8 h8 => ?_
      have e48 := e47.trans e8
      have h78 := e8 _ _ h7
      have tail : ∀ (H9 : Hp) (r : Addr) (y8 : Option V), Ex H8 H9 → H9 r = some (.lst (lN row)) → ∀ D : Ends, D.nx = (fun σ2 H2 => ∃ m', m' < ns.length - i ∧ Turn A H a d t ns m' σ2 H2) → tTail K A D [some (.ref a), some (.ref d), some (.ref t), some (nN i), some (nN p), some (nN j), some (.ref n), some (.ref r), y8, x9] H9 := fun H9 r y8 e9 h9 D hD' => by
        have e49 := e48.trans e9
        obtain ⟨dy, x, hd9, _⟩ := (hD.mono e49).obj
        have hrl : row.length ≤ 1000 := by
          rcases hrow with ⟨_, q, _⟩ | ⟨_, q, _, _, z⟩
          · rw [q]; exact Nat.zero_le _
          · rw [z, List.length_take, List.length_drop]; omega
        refine q_asgM (ev_var rfl) hd9 (lk1 (by decide +kernel) lkn) (ea_cons (ev_var rfl) (ea_two (ev_var rfl) (ev_var rfl))) fun G1 g1 => ?_
        have e4g := e49.trans g1
        refine ⟨d, n, r, o, fp, p, _, row, rfl, hD.mono e4g, ok, h21, g1 _ _ (e9 _ _ h78), (by rw [List.length_take, List.length_drop]; omega), g1 _ _ h9, hrl, fun q G2 fp2 hq hD2 hf2 keep hq2 => ?_⟩
        have ht1 := e4g _ _ hT
        have ht2 := keep t _ ht1 htf
        have htf2 : t ∉ fp2 := fun z => (hf2 t z).elim htf fun y => by rw [ht1] at y; cases y
        have hqt : q ≠ t := fun z => by rw [z, ht1] at hq; cases hq
        have hfp2 : ∀ b ∈ fp2, H b = none := fun b hb => (hf2 b hb).elim (hfp b) fun y => fresh_back (e0.trans e4g) y
        have e02 : Ex H G2 := fun b ob hb => keep b ob ((e0.trans e4g) _ _ hb) fun z => by rw [hfp b z] at hb; cases hb
        have ans := ha
        rw [ec, later_cons h21] at ans
        have hsum : told.length + (1 + (res (Kh430.execute o (callOf p ((ns.drop (i + 1)).take (sizeOf p)) row)).2).length) ≤ 10000000 := by
          have := hbig
          rw [ans, List.length_append, List.length_cons, List.length_append] at this
          omega
        refine q_appZ (v := .int ((res (Kh430.execute o (callOf p ((ns.drop (i + 1)).take (sizeOf p)) row)).2).length : Nat)) ht2 (ev_var rfl) (by
          have := ev_len2 (K := K) (σ := [some (.ref a), some (.ref d), some (.ref t), some (nN i), some (nN p), some (nN j), some (.ref n), some (.ref r), y8, some (.ref q)]) (ev_var (i := 9) rfl) (sq_of hq2)
          rw [lI_len] at this
          exact this) (by rw [lI_len]; omega) fun G3 g3 => ?_
        have hD3 := (hD2.mono g3).put (ys := lI told ++ [.int ((res (Kh430.execute o (callOf p ((ns.drop (i + 1)).take (sizeOf p)) row)).2).length : Nat)]) (g3 _ _ ht2) htf2
        refine q_extV upd_same (ev_var rfl) (ev_var rfl) (b := q) (by rw [upd_ne hqt]; exact g3 _ _ hq2) (by rw [List.length_append, lI_len, lI_len]; show told.length + 1 + _ ≤ _; omega) fun G4 g4 => ?_
        refine s_asg (ev_var rfl) fun G5 g5 => ?_
        rw [hD']
        have hT4 := g4 _ _ (upd_same (H := G3) (a := t) (o := .lst (lI told ++ [.int ((res (Kh430.execute o (callOf p ((ns.drop (i + 1)).take (sizeOf p)) row)).2).length : Nat)])))
        have hD5 := (((hD3.mono g4).put (ys := lI told ++ [.int ((res (Kh430.execute o (callOf p ((ns.drop (i + 1)).take (sizeOf p)) row)).2).length : Nat)] ++ lI (res (Kh430.execute o (callOf p ((ns.drop (i + 1)).take (sizeOf p)) row)).2)) hT4 htf2)).mono g5
        refine ⟨ns.length - j, by omega, _, fp2, told ++ ((res (Kh430.execute o (callOf p ((ns.drop (i + 1)).take (sizeOf p)) row)).2).length : Int) :: res (Kh430.execute o (callOf p ((ns.drop (i + 1)).take (sizeOf p)) row)).2, j, f', cs', _, _, _, _, _, _, rfl, hD5, ok_exec ok _, ?_, hfp2, htn, htf2, ?_, hj, hc', ?_, rfl⟩
        · exact ((((e02.trans g3).mut htn).trans g4).mut htn).trans g5
        · rw [g5 _ _ upd_same]
          unfold lI
          rw [List.map_append, List.map_cons, List.append_assoc]
          rfl
        · rw [ans, List.append_assoc]
          rfl
      rcases hrow with ⟨q, rfl, rfl⟩ | ⟨q, m, hm, rfl, rfl⟩
      · refine q_when (b := false) (et_is (et_test (ev_op (x := nN p) (ev_var rfl) ev_c (rv_isT (x := nN p) (T.w_WITH_ROW _) rfl rfl))) ((row_in h21).trans q)) (fun z => Bool.noConfusion z) fun _ H9 e9 => ?_
        exact tail H9 r0 x8 e9 (e9 _ _ h8) _ rfl
      · refine q_when (b := true) (et_is (et_test (ev_op (x := nN p) (ev_var rfl) ev_c (rv_isT (x := nN p) (T.w_WITH_ROW _) rfl rfl))) ((row_in h21).trans q)) (fun _ H9 e9 => ?_) fun z => Bool.noConfusion z
        refine q_asg (v := nN (i + 1 + sizeOf p + 1)) (ev_op (ev_var rfl) ev_c rv_I0) fun H10 e10 => ?_
        have e4a := (e48.trans e9).trans e10
        refine q_asg (v := nN (i + 1 + sizeOf p + 1 + m)) (ev_op (ev_var rfl) (ev_op (ev_var rfl) (ev_var rfl) (rv_ixL (ex_l (e0.trans e4a) hS) (atI_get (lN_get hm)))) rv_I0) fun H11 e11 => ?_
        have e4b := e4a.trans e11
        refine s_asgL (el_cut (i := i + 1 + sizeOf p + 1) (j := i + 1 + sizeOf p + 1 + m) (ev_var rfl) (eo_some (ev_var rfl)) (eo_some (ev_var rfl)) (ex_l (e0.trans e4b) hS) (by omega) hj) fun r H12 hr12 e12 h12 => ?_
        rw [show i + 1 + sizeOf p + 1 + m - (i + 1 + sizeOf p + 1) = m by omega] at h12
        exact tail H12 r _ (((e9.trans e10).trans e11).trans e12) h12 _ rfl
    · have hb := of_decide_eq_false hb
      rw [lN_len] at hb
      have hi2 : i = ns.length := by omega
      rw [hi2, List.drop_length] at hc
      rw [parse_nil hc, later_nil, List.append_nil] at ha
      refine s_ret (ev_var rfl) fun H5 e5 => ?_
      refine k H5 t ?_
      rw [ha]
      exact (e4.trans e5) _ _ hT
end
end Cold

namespace Cold
open PySem PySem.Spec PyProof.Rows L2 Evl
/-! ### the end: what the top has written. Printed by end.py -/
/-- a def's object -/
def DefAt (K : PySem.W.Frag) (x qual : Str) (st : Stmt) (f : Addr) : Prop := ∃ (oc : Value) (od : Option Addr) (kV doc pm : Value) (an : Option Addr) (cdv ct : Value) (osl : Array (Option Value)),
  K.lookup f = some ⟨oc, od, .func (PySem.W.fnOf x qual (defArgs st) (defBody st) (defScope st) .none kV doc pm an cdv ct), osl⟩ ∧ PySem.W.codeIn K cdv qual = true
theorem DefAt.fn {K : PySem.W.Frag} {x qual : Str} {st : Stmt} {f : Addr} (h : DefAt K x qual st f) (k : PySem.W.keepIn K (.ref f) = true) : ∃ fd, Fun K x qual st f fd := by
  obtain ⟨oc, od, kV, doc, pm, an, cdv, ct, osl, l, c⟩ := h
  exact ⟨_, fun_mk l c k⟩
def MethAt (K : PySem.W.Frag) (C : Addr) (m qual : Str) (st : Stmt) (f : Addr) : Prop := PySem.W.findIn K (.ref C) m = some (some (.ref f)) ∧ PySem.W.isFn K (.ref f) = true ∧ PySem.W.keepIn K (.ref f) = true ∧ DefAt K m qual st f
def FnAt (K : PySem.W.Frag) (x : Str) (st : Stmt) (f : Addr) : Prop := PySem.W.nsIn K mainGlobals x = some (some (.ref f)) ∧ PySem.W.keepIn K (.ref f) = true ∧ DefAt K x x st f
def ClsAt (K : PySem.W.Frag) (x : Str) (C : Addr) : Prop := PySem.W.nsIn K mainGlobals x = some (some (.ref C)) ∧ PySem.W.plainGet K C Str.empty = true ∧ PySem.W.hasDictIn K C = true ∧ PySem.W.plainOver K C = true ∧ PySem.W.findIn K (.ref C) "__setattr__" = some (some (.builtin "object.__setattr__")) ∧ PySem.W.makesIn K C = true ∧ PySem.W.keepIn K (.ref C) = true
/-- the error's class -/
def RefAt (K : PySem.W.Frag) (C : Addr) : Prop := PySem.W.nsIn K mainGlobals "Refusal" = some (some (.ref C)) ∧
  (∃ nm q N bs sn sub ab col dd k0 k1 k2 k3 k5, K.lookup C = some (excClassObj nm q C N bs PySem.ESX.exTail true sn sub ab col dd k0 k1 k2 k3 k5 "Exception.__new__")) ∧
  PySem.W.findIn K (.ref C) "__setattr__" = some (some (.builtin "object.__setattr__")) ∧ PySem.W.subIn K (.ref C) (.type "BaseException") = some true ∧ PySem.W.typeIn K (.ref C) = some (.type "type") ∧ PySem.W.keepIn K (.ref C) = true ∧
  PySem.W.findIn K (.ref C) "__getattribute__" = some (some (.builtin "BaseException.__getattribute__")) ∧ PySem.W.findIn K (.ref C) "__getattr__" = some none ∧ PySem.W.hasDictIn K C = true ∧ PySem.W.findIn K (.ref C) "code" = some none ∧
  PySem.W.isClsIn K C = true ∧ PySem.W.subIn K (.ref C) (.ref C) = some true ∧ PySem.W.findCls K (.type "Exception") (.type "type") "__init__" = some (.val (.builtin "Exception.__init__"))
def TupAt (K : PySem.W.Frag) (x : Str) (t : Addr) (xs : List V) : Prop := PySem.W.nsIn K mainGlobals x = some (some (.ref t)) ∧ ∃ (od : Option Addr) (its : Array Value) (n : Nat) (sl : Array (Option Value)), K.lookup t = some ⟨.type "tuple", od, .seq its n, sl⟩ ∧ its.size ≤ sizeLine ∧ Vals xs its.toList
def IntAt (K : PySem.W.Frag) (x : Str) (i : Int) : Prop := ∃ t, PySem.W.nsIn K mainGlobals x = some (some (.int i t))
theorem MethAt.mk {K : PySem.W.Frag} {C f : Addr} {m qual : Str} {st : Stmt} {oc kV doc pm cdv ct : Value} {od an : Option Addr} {osl : Array (Option Value)} (a : PySem.W.findIn K (.ref C) m = some (some (.ref f))) (i : PySem.W.isFn K (.ref f) = true) (k : PySem.W.keepIn K (.ref f) = true)
    (l : K.lookup f = some ⟨oc, od, .func (PySem.W.fnOf m qual (defArgs st) (defBody st) (defScope st) .none kV doc pm an cdv ct), osl⟩) (c : PySem.W.codeIn K cdv qual = true) : MethAt K C m qual st f := ⟨a, i, k, oc, od, kV, doc, pm, an, cdv, ct, osl, l, c⟩
theorem FnAt.mk {K : PySem.W.Frag} {f : Addr} {x : Str} {st : Stmt} {oc kV doc pm cdv ct : Value} {od an : Option Addr} {osl : Array (Option Value)} (a : PySem.W.nsIn K mainGlobals x = some (some (.ref f))) (k : PySem.W.keepIn K (.ref f) = true)
    (l : K.lookup f = some ⟨oc, od, .func (PySem.W.fnOf x x (defArgs st) (defBody st) (defScope st) .none kV doc pm an cdv ct), osl⟩) (c : PySem.W.codeIn K cdv x = true) : FnAt K x st f := ⟨a, k, oc, od, kV, doc, pm, an, cdv, ct, osl, l, c⟩
theorem RefAt.mk {K : PySem.W.Frag} {C N : Addr} {nm q : Str} {bs : List Value} {sn : List Str} {sub : List Value} {ab : Bool} {col : Option Bool} {dd : Option Addr} {k0 k1 k2 k3 k5 : Option Value} (a : PySem.W.nsIn K mainGlobals "Refusal" = some (some (.ref C)))
    (l : K.lookup C = some (excClassObj nm q C N bs PySem.ESX.exTail true sn sub ab col dd k0 k1 k2 k3 k5 "Exception.__new__"))
    (f1 : PySem.W.findIn K (.ref C) "__setattr__" = some (some (.builtin "object.__setattr__"))) (f2 : PySem.W.subIn K (.ref C) (.type "BaseException") = some true) (f3 : PySem.W.typeIn K (.ref C) = some (.type "type")) (f4 : PySem.W.keepIn K (.ref C) = true)
    (f5 : PySem.W.findIn K (.ref C) "__getattribute__" = some (some (.builtin "BaseException.__getattribute__"))) (f6 : PySem.W.findIn K (.ref C) "__getattr__" = some none) (f7 : PySem.W.hasDictIn K C = true) (f8 : PySem.W.findIn K (.ref C) "code" = some none)
    (f9 : PySem.W.isClsIn K C = true) (f10 : PySem.W.subIn K (.ref C) (.ref C) = some true) (f11 : PySem.W.findCls K (.type "Exception") (.type "type") "__init__" = some (.val (.builtin "Exception.__init__"))) : RefAt K C :=
  ⟨a, ⟨nm, q, N, bs, sn, sub, ab, col, dd, k0, k1, k2, k3, k5, l⟩, f1, f2, f3, f4, f5, f6, f7, f8, f9, f10, f11⟩
theorem TupAt.mk {K : PySem.W.Frag} {x : Str} {t : Addr} {xs : List V} {od : Option Addr} {its : Array Value} {n : Nat} {sl : Array (Option Value)} (a : PySem.W.nsIn K mainGlobals x = some (some (.ref t))) (l : K.lookup t = some ⟨.type "tuple", od, .seq its n, sl⟩) (z : its.size ≤ sizeLine) (v : Vals xs its.toList) : TupAt K x t xs := ⟨a, od, its, n, sl, l, z, v⟩
theorem IntAt.mk {K : PySem.W.Frag} {x : Str} {i : Int} {t : Tok} (a : PySem.W.nsIn K mainGlobals x = some (some (.int i t))) : IntAt K x i := ⟨t, a⟩
/-- the error is what its own except clause names -/
theorem exm_own {K : PySem.W.Frag} {S : Addr} (h1 : PySem.W.subIn K (.ref S) (.type "BaseException") = some true) (h2 : PySem.W.isClsIn K S = true) (h3 : PySem.W.typeIn K (.ref S) = some (.type "type")) (h4 : PySem.W.subIn K (.ref S) (.ref S) = some true) : PySem.W.exmOne K (.ref S) (.ref S) = some true := by
  have c1 : (PySem.W.subIn K (.ref S) (.type "BaseException") == some true) = true := by
    rw [h1]
    rfl
  have c2 : ((PySem.W.clsIn K S).isSome && PySem.W.typeIn K (.ref S) == some (.type "type")) = true := by
    rw [show (PySem.W.clsIn K S).isSome = true from h2, h3]
    rfl
  unfold PySem.W.exmOne
  first
    | (simp only [c1, c2, if_true]; exact h4)
    | (rw [if_pos c1]; first | (rw [if_pos c2]; exact h4) | (show (if ((PySem.W.clsIn K S).isSome && PySem.W.typeIn K (.ref S) == some (.type "type")) = true then PySem.W.subIn K (.ref S) (.ref S) else none) = some true; rw [if_pos c2]; exact h4))
theorem all_mk {P : Program} {w : World} {K : PySem.W.Frag} {h : Heap} {mg : Str → Option Value} {fa : Addr} {c_Refusal c_Lot c_Planner c_Storage c_Desk f_Refusal_init f_Lot_init f_Planner_init f_Planner_plan_for f_Planner_plan_from f_Planner_largest_set f_Storage_init f_Storage_cold_hours_needed f_Storage_all_lots f_Storage_add_lot f_Storage_remove_lot f_Storage_set_capacity f_Storage_pass_hour f_Storage_run_hour f_Storage_run_best f_Storage_plan_for f_Storage_can_last f_Storage_largest_set f_Storage_check_plan f_Storage_largest_if_capacity f_Storage_min_capacity f_Storage_list_lots f_Storage_set_losses f_Storage_loss_under_plan f_Storage_count_if_warm_loss f_Storage_needed_by f_Storage_balance f_Storage_change f_Storage_tell f_Storage_tell_more f_Desk_init f_Desk_ask f_Desk_carry_out f_check f_members_of f_check_mask f_check_losses f_new_storage f_answers t_SIZES t_WITH_ROW : Addr} (X : K.In h) (G : h.Ns mainGlobals mg) (hfa : mg "answers" = some (.ref fa))
    (z_Exception : PySem.W.nsIn K mainGlobals "Exception" = some none)
    (z_range : PySem.W.nsIn K mainGlobals "range" = some none)
    (z_max : PySem.W.nsIn K mainGlobals "max" = some none)
    (z_min : PySem.W.nsIn K mainGlobals "min" = some none)
    (z_len : PySem.W.nsIn K mainGlobals "len" = some none)
    (z_enumerate : PySem.W.nsIn K mainGlobals "enumerate" = some none)
    (z_all : PySem.W.nsIn K mainGlobals "all" = some none)
    (z_any : PySem.W.nsIn K mainGlobals "any" = some none)
    (z_sum : PySem.W.nsIn K mainGlobals "sum" = some none)
    (k_NOT_THERE : IntAt K "NOT_THERE" (-2))
    (k_MISSING : IntAt K "MISSING" (-6))
    (k_OUT_OF_RANGE : IntAt K "OUT_OF_RANGE" (-22))
    (k_FULL : IntAt K "FULL" (-28))
    (k_IMPOSSIBLE : IntAt K "IMPOSSIBLE" (-33))
    (k_NO_STORE : IntAt K "NO_STORE" (-61))
    (k_LOTS_AT_MOST : IntAt K "LOTS_AT_MOST" (4))
    (k_HOURS_AT_MOST : IntAt K "HOURS_AT_MOST" (6))
    (k_LIFE_AT_MOST : IntAt K "LIFE_AT_MOST" (99))
    (k_CAPACITY_AT_MOST : IntAt K "CAPACITY_AT_MOST" (4))
    (k_LOSS_AT_MOST : IntAt K "LOSS_AT_MOST" (20))
    (w_SIZES : TupAt K "SIZES" t_SIZES [.int 3, .int 2, .int 1, .int 1, .int 1, .int 2, .int 0, .int 0, .int 0, .int 1, .int 1, .int 0, .int 1, .int 1, .int 1, .int 0, .int 1, .int 1, .int 0, .int 0, .int 0, .int 0])
    (w_WITH_ROW : TupAt K "WITH_ROW" t_WITH_ROW [.int 12, .int 13])
    (r_Refusal : RefAt K c_Refusal)
    (l_Lot : ClsAt K "Lot" c_Lot)
    (n_Lot_life : NoAttr K c_Lot "life")
    (n_Lot_hours : NoAttr K c_Lot "hours")
    (l_Planner : ClsAt K "Planner" c_Planner)
    (n_Planner_lots : NoAttr K c_Planner "lots")
    (n_Planner_needs : NoAttr K c_Planner "needs")
    (n_Planner_capacity : NoAttr K c_Planner "capacity")
    (n_Planner_hours : NoAttr K c_Planner "hours")
    (l_Storage : ClsAt K "Storage" c_Storage)
    (n_Storage_warm_loss : NoAttr K c_Storage "warm_loss")
    (n_Storage_cold_loss : NoAttr K c_Storage "cold_loss")
    (n_Storage_capacity : NoAttr K c_Storage "capacity")
    (n_Storage_lots : NoAttr K c_Storage "lots")
    (n_Storage_time : NoAttr K c_Storage "time")
    (n_Storage_left : NoAttr K c_Storage "left")
    (n_Storage_spoiled : NoAttr K c_Storage "spoiled")
    (l_Desk : ClsAt K "Desk" c_Desk)
    (n_Desk_storage : NoAttr K c_Desk "storage")
    (d_Refusal_init : MethAt K c_Refusal "__init__" "Refusal.__init__" s_Refusal_init f_Refusal_init)
    (d_Lot_init : MethAt K c_Lot "__init__" "Lot.__init__" s_Lot_init f_Lot_init)
    (d_Planner_init : MethAt K c_Planner "__init__" "Planner.__init__" s_Planner_init f_Planner_init)
    (d_Planner_plan_for : MethAt K c_Planner "plan_for" "Planner.plan_for" s_Planner_plan_for f_Planner_plan_for)
    (d_Planner_plan_from : MethAt K c_Planner "plan_from" "Planner.plan_from" s_Planner_plan_from f_Planner_plan_from)
    (d_Planner_largest_set : MethAt K c_Planner "largest_set" "Planner.largest_set" s_Planner_largest_set f_Planner_largest_set)
    (d_Storage_init : MethAt K c_Storage "__init__" "Storage.__init__" s_Storage_init f_Storage_init)
    (d_Storage_cold_hours_needed : MethAt K c_Storage "cold_hours_needed" "Storage.cold_hours_needed" s_Storage_cold_hours_needed f_Storage_cold_hours_needed)
    (d_Storage_all_lots : MethAt K c_Storage "all_lots" "Storage.all_lots" s_Storage_all_lots f_Storage_all_lots)
    (d_Storage_add_lot : MethAt K c_Storage "add_lot" "Storage.add_lot" s_Storage_add_lot f_Storage_add_lot)
    (d_Storage_remove_lot : MethAt K c_Storage "remove_lot" "Storage.remove_lot" s_Storage_remove_lot f_Storage_remove_lot)
    (d_Storage_set_capacity : MethAt K c_Storage "set_capacity" "Storage.set_capacity" s_Storage_set_capacity f_Storage_set_capacity)
    (d_Storage_pass_hour : MethAt K c_Storage "pass_hour" "Storage.pass_hour" s_Storage_pass_hour f_Storage_pass_hour)
    (d_Storage_run_hour : MethAt K c_Storage "run_hour" "Storage.run_hour" s_Storage_run_hour f_Storage_run_hour)
    (d_Storage_run_best : MethAt K c_Storage "run_best" "Storage.run_best" s_Storage_run_best f_Storage_run_best)
    (d_Storage_plan_for : MethAt K c_Storage "plan_for" "Storage.plan_for" s_Storage_plan_for f_Storage_plan_for)
    (d_Storage_can_last : MethAt K c_Storage "can_last" "Storage.can_last" s_Storage_can_last f_Storage_can_last)
    (d_Storage_largest_set : MethAt K c_Storage "largest_set" "Storage.largest_set" s_Storage_largest_set f_Storage_largest_set)
    (d_Storage_check_plan : MethAt K c_Storage "check_plan" "Storage.check_plan" s_Storage_check_plan f_Storage_check_plan)
    (d_Storage_largest_if_capacity : MethAt K c_Storage "largest_if_capacity" "Storage.largest_if_capacity" s_Storage_largest_if_capacity f_Storage_largest_if_capacity)
    (d_Storage_min_capacity : MethAt K c_Storage "min_capacity" "Storage.min_capacity" s_Storage_min_capacity f_Storage_min_capacity)
    (d_Storage_list_lots : MethAt K c_Storage "list_lots" "Storage.list_lots" s_Storage_list_lots f_Storage_list_lots)
    (d_Storage_set_losses : MethAt K c_Storage "set_losses" "Storage.set_losses" s_Storage_set_losses f_Storage_set_losses)
    (d_Storage_loss_under_plan : MethAt K c_Storage "loss_under_plan" "Storage.loss_under_plan" s_Storage_loss_under_plan f_Storage_loss_under_plan)
    (d_Storage_count_if_warm_loss : MethAt K c_Storage "count_if_warm_loss" "Storage.count_if_warm_loss" s_Storage_count_if_warm_loss f_Storage_count_if_warm_loss)
    (d_Storage_needed_by : MethAt K c_Storage "needed_by" "Storage.needed_by" s_Storage_needed_by f_Storage_needed_by)
    (d_Storage_balance : MethAt K c_Storage "balance" "Storage.balance" s_Storage_balance f_Storage_balance)
    (d_Storage_change : MethAt K c_Storage "change" "Storage.change" s_Storage_change f_Storage_change)
    (d_Storage_tell : MethAt K c_Storage "tell" "Storage.tell" s_Storage_tell f_Storage_tell)
    (d_Storage_tell_more : MethAt K c_Storage "tell_more" "Storage.tell_more" s_Storage_tell_more f_Storage_tell_more)
    (d_Desk_init : MethAt K c_Desk "__init__" "Desk.__init__" s_Desk_init f_Desk_init)
    (d_Desk_ask : MethAt K c_Desk "ask" "Desk.ask" s_Desk_ask f_Desk_ask)
    (d_Desk_carry_out : MethAt K c_Desk "carry_out" "Desk.carry_out" s_Desk_carry_out f_Desk_carry_out)
    (d_check : FnAt K "check" s_check f_check)
    (d_members_of : FnAt K "members_of" s_members_of f_members_of)
    (d_check_mask : FnAt K "check_mask" s_check_mask f_check_mask)
    (d_check_losses : FnAt K "check_losses" s_check_losses f_check_losses)
    (d_new_storage : FnAt K "new_storage" s_new_storage f_new_storage)
    (d_answers : FnAt K "answers" s_answers f_answers)
    (rt : PySem.W.typeIn K (.ref f_Refusal_init) = some (.type "function")) :
    ∃ fd : FuncData, (∀ (s : Shared) (us : List Value), us.length = (["calls"] : List Str).length → BindsTo s fd ⟨us, []⟩ ((["calls"] : List Str).zip us)) ∧ ∀ base : Heap, K.In base → base.Ns mainGlobals mg → FnOk P w K mg base CX0 16 fa fd ["calls"] (spAnswers K) := by
  obtain ⟨a_Refusal_init, i_Refusal_init, p_Refusal_init, e_Refusal_init⟩ := d_Refusal_init
  obtain ⟨D_Refusal_init, F_Refusal_init⟩ := e_Refusal_init.fn p_Refusal_init
  obtain ⟨a_Lot_init, i_Lot_init, p_Lot_init, e_Lot_init⟩ := d_Lot_init
  obtain ⟨D_Lot_init, F_Lot_init⟩ := e_Lot_init.fn p_Lot_init
  obtain ⟨a_Planner_init, i_Planner_init, p_Planner_init, e_Planner_init⟩ := d_Planner_init
  obtain ⟨D_Planner_init, F_Planner_init⟩ := e_Planner_init.fn p_Planner_init
  obtain ⟨a_Planner_plan_for, i_Planner_plan_for, p_Planner_plan_for, e_Planner_plan_for⟩ := d_Planner_plan_for
  obtain ⟨D_Planner_plan_for, F_Planner_plan_for⟩ := e_Planner_plan_for.fn p_Planner_plan_for
  obtain ⟨a_Planner_plan_from, i_Planner_plan_from, p_Planner_plan_from, e_Planner_plan_from⟩ := d_Planner_plan_from
  obtain ⟨D_Planner_plan_from, F_Planner_plan_from⟩ := e_Planner_plan_from.fn p_Planner_plan_from
  obtain ⟨a_Planner_largest_set, i_Planner_largest_set, p_Planner_largest_set, e_Planner_largest_set⟩ := d_Planner_largest_set
  obtain ⟨D_Planner_largest_set, F_Planner_largest_set⟩ := e_Planner_largest_set.fn p_Planner_largest_set
  obtain ⟨a_Storage_init, i_Storage_init, p_Storage_init, e_Storage_init⟩ := d_Storage_init
  obtain ⟨D_Storage_init, F_Storage_init⟩ := e_Storage_init.fn p_Storage_init
  obtain ⟨a_Storage_cold_hours_needed, i_Storage_cold_hours_needed, p_Storage_cold_hours_needed, e_Storage_cold_hours_needed⟩ := d_Storage_cold_hours_needed
  obtain ⟨D_Storage_cold_hours_needed, F_Storage_cold_hours_needed⟩ := e_Storage_cold_hours_needed.fn p_Storage_cold_hours_needed
  obtain ⟨a_Storage_all_lots, i_Storage_all_lots, p_Storage_all_lots, e_Storage_all_lots⟩ := d_Storage_all_lots
  obtain ⟨D_Storage_all_lots, F_Storage_all_lots⟩ := e_Storage_all_lots.fn p_Storage_all_lots
  obtain ⟨a_Storage_add_lot, i_Storage_add_lot, p_Storage_add_lot, e_Storage_add_lot⟩ := d_Storage_add_lot
  obtain ⟨D_Storage_add_lot, F_Storage_add_lot⟩ := e_Storage_add_lot.fn p_Storage_add_lot
  obtain ⟨a_Storage_remove_lot, i_Storage_remove_lot, p_Storage_remove_lot, e_Storage_remove_lot⟩ := d_Storage_remove_lot
  obtain ⟨D_Storage_remove_lot, F_Storage_remove_lot⟩ := e_Storage_remove_lot.fn p_Storage_remove_lot
  obtain ⟨a_Storage_set_capacity, i_Storage_set_capacity, p_Storage_set_capacity, e_Storage_set_capacity⟩ := d_Storage_set_capacity
  obtain ⟨D_Storage_set_capacity, F_Storage_set_capacity⟩ := e_Storage_set_capacity.fn p_Storage_set_capacity
  obtain ⟨a_Storage_pass_hour, i_Storage_pass_hour, p_Storage_pass_hour, e_Storage_pass_hour⟩ := d_Storage_pass_hour
  obtain ⟨D_Storage_pass_hour, F_Storage_pass_hour⟩ := e_Storage_pass_hour.fn p_Storage_pass_hour
  obtain ⟨a_Storage_run_hour, i_Storage_run_hour, p_Storage_run_hour, e_Storage_run_hour⟩ := d_Storage_run_hour
  obtain ⟨D_Storage_run_hour, F_Storage_run_hour⟩ := e_Storage_run_hour.fn p_Storage_run_hour
  obtain ⟨a_Storage_run_best, i_Storage_run_best, p_Storage_run_best, e_Storage_run_best⟩ := d_Storage_run_best
  obtain ⟨D_Storage_run_best, F_Storage_run_best⟩ := e_Storage_run_best.fn p_Storage_run_best
  obtain ⟨a_Storage_plan_for, i_Storage_plan_for, p_Storage_plan_for, e_Storage_plan_for⟩ := d_Storage_plan_for
  obtain ⟨D_Storage_plan_for, F_Storage_plan_for⟩ := e_Storage_plan_for.fn p_Storage_plan_for
  obtain ⟨a_Storage_can_last, i_Storage_can_last, p_Storage_can_last, e_Storage_can_last⟩ := d_Storage_can_last
  obtain ⟨D_Storage_can_last, F_Storage_can_last⟩ := e_Storage_can_last.fn p_Storage_can_last
  obtain ⟨a_Storage_largest_set, i_Storage_largest_set, p_Storage_largest_set, e_Storage_largest_set⟩ := d_Storage_largest_set
  obtain ⟨D_Storage_largest_set, F_Storage_largest_set⟩ := e_Storage_largest_set.fn p_Storage_largest_set
  obtain ⟨a_Storage_check_plan, i_Storage_check_plan, p_Storage_check_plan, e_Storage_check_plan⟩ := d_Storage_check_plan
  obtain ⟨D_Storage_check_plan, F_Storage_check_plan⟩ := e_Storage_check_plan.fn p_Storage_check_plan
  obtain ⟨a_Storage_largest_if_capacity, i_Storage_largest_if_capacity, p_Storage_largest_if_capacity, e_Storage_largest_if_capacity⟩ := d_Storage_largest_if_capacity
  obtain ⟨D_Storage_largest_if_capacity, F_Storage_largest_if_capacity⟩ := e_Storage_largest_if_capacity.fn p_Storage_largest_if_capacity
  obtain ⟨a_Storage_min_capacity, i_Storage_min_capacity, p_Storage_min_capacity, e_Storage_min_capacity⟩ := d_Storage_min_capacity
  obtain ⟨D_Storage_min_capacity, F_Storage_min_capacity⟩ := e_Storage_min_capacity.fn p_Storage_min_capacity
  obtain ⟨a_Storage_list_lots, i_Storage_list_lots, p_Storage_list_lots, e_Storage_list_lots⟩ := d_Storage_list_lots
  obtain ⟨D_Storage_list_lots, F_Storage_list_lots⟩ := e_Storage_list_lots.fn p_Storage_list_lots
  obtain ⟨a_Storage_set_losses, i_Storage_set_losses, p_Storage_set_losses, e_Storage_set_losses⟩ := d_Storage_set_losses
  obtain ⟨D_Storage_set_losses, F_Storage_set_losses⟩ := e_Storage_set_losses.fn p_Storage_set_losses
  obtain ⟨a_Storage_loss_under_plan, i_Storage_loss_under_plan, p_Storage_loss_under_plan, e_Storage_loss_under_plan⟩ := d_Storage_loss_under_plan
  obtain ⟨D_Storage_loss_under_plan, F_Storage_loss_under_plan⟩ := e_Storage_loss_under_plan.fn p_Storage_loss_under_plan
  obtain ⟨a_Storage_count_if_warm_loss, i_Storage_count_if_warm_loss, p_Storage_count_if_warm_loss, e_Storage_count_if_warm_loss⟩ := d_Storage_count_if_warm_loss
  obtain ⟨D_Storage_count_if_warm_loss, F_Storage_count_if_warm_loss⟩ := e_Storage_count_if_warm_loss.fn p_Storage_count_if_warm_loss
  obtain ⟨a_Storage_needed_by, i_Storage_needed_by, p_Storage_needed_by, e_Storage_needed_by⟩ := d_Storage_needed_by
  obtain ⟨D_Storage_needed_by, F_Storage_needed_by⟩ := e_Storage_needed_by.fn p_Storage_needed_by
  obtain ⟨a_Storage_balance, i_Storage_balance, p_Storage_balance, e_Storage_balance⟩ := d_Storage_balance
  obtain ⟨D_Storage_balance, F_Storage_balance⟩ := e_Storage_balance.fn p_Storage_balance
  obtain ⟨a_Storage_change, i_Storage_change, p_Storage_change, e_Storage_change⟩ := d_Storage_change
  obtain ⟨D_Storage_change, F_Storage_change⟩ := e_Storage_change.fn p_Storage_change
  obtain ⟨a_Storage_tell, i_Storage_tell, p_Storage_tell, e_Storage_tell⟩ := d_Storage_tell
  obtain ⟨D_Storage_tell, F_Storage_tell⟩ := e_Storage_tell.fn p_Storage_tell
  obtain ⟨a_Storage_tell_more, i_Storage_tell_more, p_Storage_tell_more, e_Storage_tell_more⟩ := d_Storage_tell_more
  obtain ⟨D_Storage_tell_more, F_Storage_tell_more⟩ := e_Storage_tell_more.fn p_Storage_tell_more
  obtain ⟨a_Desk_init, i_Desk_init, p_Desk_init, e_Desk_init⟩ := d_Desk_init
  obtain ⟨D_Desk_init, F_Desk_init⟩ := e_Desk_init.fn p_Desk_init
  obtain ⟨a_Desk_ask, i_Desk_ask, p_Desk_ask, e_Desk_ask⟩ := d_Desk_ask
  obtain ⟨D_Desk_ask, F_Desk_ask⟩ := e_Desk_ask.fn p_Desk_ask
  obtain ⟨a_Desk_carry_out, i_Desk_carry_out, p_Desk_carry_out, e_Desk_carry_out⟩ := d_Desk_carry_out
  obtain ⟨D_Desk_carry_out, F_Desk_carry_out⟩ := e_Desk_carry_out.fn p_Desk_carry_out
  obtain ⟨a_check, p_check, e_check⟩ := d_check
  obtain ⟨D_check, F_check⟩ := e_check.fn p_check
  obtain ⟨a_members_of, p_members_of, e_members_of⟩ := d_members_of
  obtain ⟨D_members_of, F_members_of⟩ := e_members_of.fn p_members_of
  obtain ⟨a_check_mask, p_check_mask, e_check_mask⟩ := d_check_mask
  obtain ⟨D_check_mask, F_check_mask⟩ := e_check_mask.fn p_check_mask
  obtain ⟨a_check_losses, p_check_losses, e_check_losses⟩ := d_check_losses
  obtain ⟨D_check_losses, F_check_losses⟩ := e_check_losses.fn p_check_losses
  obtain ⟨a_new_storage, p_new_storage, e_new_storage⟩ := d_new_storage
  obtain ⟨D_new_storage, F_new_storage⟩ := e_new_storage.fn p_new_storage
  obtain ⟨a_answers, p_answers, oc, od, kV, doc, pm, an, cdv, ct, osl, lk, cd⟩ := d_answers
  have F_answers := fun_mk (st := s_answers) lk cd p_answers
  have e := hfa.symm.trans (PySem.W.mg_of X G a_answers)
  cases e
  obtain ⟨rC, rL, rSa, rEx, rTy, rK, rGa, rGg, rHd, rNo, rIs, rSub, rV⟩ := r_Refusal
  obtain ⟨aw_SIZES, od_SIZES, its_SIZES, n_SIZES, sl_SIZES, lw_SIZES, zw_SIZES, vw_SIZES⟩ := w_SIZES
  obtain ⟨aw_WITH_ROW, od_WITH_ROW, its_WITH_ROW, n_WITH_ROW, sl_WITH_ROW, lw_WITH_ROW, zw_WITH_ROW, vw_WITH_ROW⟩ := w_WITH_ROW
  obtain ⟨aC_Lot, pg_Lot, hd_Lot, po_Lot, sa_Lot, mk_Lot, kC_Lot⟩ := l_Lot
  obtain ⟨aC_Planner, pg_Planner, hd_Planner, po_Planner, sa_Planner, mk_Planner, kC_Planner⟩ := l_Planner
  obtain ⟨aC_Storage, pg_Storage, hd_Storage, po_Storage, sa_Storage, mk_Storage, kC_Storage⟩ := l_Storage
  obtain ⟨aC_Desk, pg_Desk, hd_Desk, po_Desk, sa_Desk, mk_Desk, kC_Desk⟩ := l_Desk
  have T : Txt K mg { c_Refusal := c_Refusal, c_Lot := c_Lot, c_Planner := c_Planner, c_Storage := c_Storage, c_Desk := c_Desk, f_Refusal_init := f_Refusal_init, d_Refusal_init := D_Refusal_init, f_Lot_init := f_Lot_init, d_Lot_init := D_Lot_init, f_Planner_init := f_Planner_init, d_Planner_init := D_Planner_init, f_Planner_plan_for := f_Planner_plan_for, d_Planner_plan_for := D_Planner_plan_for, f_Planner_plan_from := f_Planner_plan_from, d_Planner_plan_from := D_Planner_plan_from, f_Planner_largest_set := f_Planner_largest_set, d_Planner_largest_set := D_Planner_largest_set, f_Storage_init := f_Storage_init, d_Storage_init := D_Storage_init, f_Storage_cold_hours_needed := f_Storage_cold_hours_needed, d_Storage_cold_hours_needed := D_Storage_cold_hours_needed, f_Storage_all_lots := f_Storage_all_lots, d_Storage_all_lots := D_Storage_all_lots, f_Storage_add_lot := f_Storage_add_lot, d_Storage_add_lot := D_Storage_add_lot, f_Storage_remove_lot := f_Storage_remove_lot, d_Storage_remove_lot := D_Storage_remove_lot, f_Storage_set_capacity := f_Storage_set_capacity, d_Storage_set_capacity := D_Storage_set_capacity, f_Storage_pass_hour := f_Storage_pass_hour, d_Storage_pass_hour := D_Storage_pass_hour, f_Storage_run_hour := f_Storage_run_hour, d_Storage_run_hour := D_Storage_run_hour, f_Storage_run_best := f_Storage_run_best, d_Storage_run_best := D_Storage_run_best, f_Storage_plan_for := f_Storage_plan_for, d_Storage_plan_for := D_Storage_plan_for, f_Storage_can_last := f_Storage_can_last, d_Storage_can_last := D_Storage_can_last, f_Storage_largest_set := f_Storage_largest_set, d_Storage_largest_set := D_Storage_largest_set, f_Storage_check_plan := f_Storage_check_plan, d_Storage_check_plan := D_Storage_check_plan, f_Storage_largest_if_capacity := f_Storage_largest_if_capacity, d_Storage_largest_if_capacity := D_Storage_largest_if_capacity, f_Storage_min_capacity := f_Storage_min_capacity, d_Storage_min_capacity := D_Storage_min_capacity, f_Storage_list_lots := f_Storage_list_lots, d_Storage_list_lots := D_Storage_list_lots, f_Storage_set_losses := f_Storage_set_losses, d_Storage_set_losses := D_Storage_set_losses, f_Storage_loss_under_plan := f_Storage_loss_under_plan, d_Storage_loss_under_plan := D_Storage_loss_under_plan, f_Storage_count_if_warm_loss := f_Storage_count_if_warm_loss, d_Storage_count_if_warm_loss := D_Storage_count_if_warm_loss, f_Storage_needed_by := f_Storage_needed_by, d_Storage_needed_by := D_Storage_needed_by, f_Storage_balance := f_Storage_balance, d_Storage_balance := D_Storage_balance, f_Storage_change := f_Storage_change, d_Storage_change := D_Storage_change, f_Storage_tell := f_Storage_tell, d_Storage_tell := D_Storage_tell, f_Storage_tell_more := f_Storage_tell_more, d_Storage_tell_more := D_Storage_tell_more, f_Desk_init := f_Desk_init, d_Desk_init := D_Desk_init, f_Desk_ask := f_Desk_ask, d_Desk_ask := D_Desk_ask, f_Desk_carry_out := f_Desk_carry_out, d_Desk_carry_out := D_Desk_carry_out, f_check := f_check, d_check := D_check, f_members_of := f_members_of, d_members_of := D_members_of, f_check_mask := f_check_mask, d_check_mask := D_check_mask, f_check_losses := f_check_losses, d_check_losses := D_check_losses, f_new_storage := f_new_storage, d_new_storage := D_new_storage, f_answers := fa, d_answers := PySem.W.fnOf "answers" "answers" (defArgs s_answers) (defBody s_answers) (defScope s_answers) .none kV doc pm an cdv ct, t_SIZES := t_SIZES, t_WITH_ROW := t_WITH_ROW } := {
    z_Exception := PySem.W.mg_none_of X G z_Exception
    z_range := PySem.W.mg_none_of X G z_range
    z_max := PySem.W.mg_none_of X G z_max
    z_min := PySem.W.mg_none_of X G z_min
    z_len := PySem.W.mg_none_of X G z_len
    z_enumerate := PySem.W.mg_none_of X G z_enumerate
    z_all := PySem.W.mg_none_of X G z_all
    z_any := PySem.W.mg_none_of X G z_any
    z_sum := PySem.W.mg_none_of X G z_sum
    k_NOT_THERE := let ⟨t, z⟩ := k_NOT_THERE; ⟨t, PySem.W.mg_of X G z⟩
    k_MISSING := let ⟨t, z⟩ := k_MISSING; ⟨t, PySem.W.mg_of X G z⟩
    k_OUT_OF_RANGE := let ⟨t, z⟩ := k_OUT_OF_RANGE; ⟨t, PySem.W.mg_of X G z⟩
    k_FULL := let ⟨t, z⟩ := k_FULL; ⟨t, PySem.W.mg_of X G z⟩
    k_IMPOSSIBLE := let ⟨t, z⟩ := k_IMPOSSIBLE; ⟨t, PySem.W.mg_of X G z⟩
    k_NO_STORE := let ⟨t, z⟩ := k_NO_STORE; ⟨t, PySem.W.mg_of X G z⟩
    k_LOTS_AT_MOST := let ⟨t, z⟩ := k_LOTS_AT_MOST; ⟨t, PySem.W.mg_of X G z⟩
    k_HOURS_AT_MOST := let ⟨t, z⟩ := k_HOURS_AT_MOST; ⟨t, PySem.W.mg_of X G z⟩
    k_LIFE_AT_MOST := let ⟨t, z⟩ := k_LIFE_AT_MOST; ⟨t, PySem.W.mg_of X G z⟩
    k_CAPACITY_AT_MOST := let ⟨t, z⟩ := k_CAPACITY_AT_MOST; ⟨t, PySem.W.mg_of X G z⟩
    k_LOSS_AT_MOST := let ⟨t, z⟩ := k_LOSS_AT_MOST; ⟨t, PySem.W.mg_of X G z⟩
    g_SIZES := PySem.W.mg_of X G aw_SIZES
    w_SIZES := fun _ => Or.inr ⟨_, its_SIZES, n_SIZES, lw_SIZES, rfl, rfl, zw_SIZES, vw_SIZES⟩
    g_WITH_ROW := PySem.W.mg_of X G aw_WITH_ROW
    w_WITH_ROW := fun _ => Or.inr ⟨_, its_WITH_ROW, n_WITH_ROW, lw_WITH_ROW, rfl, rfl, zw_WITH_ROW, vw_WITH_ROW⟩
    g_Refusal := PySem.W.mg_of X G rC
    rf := ⟨rL, rSa, rEx, rTy, rK⟩
    rfi := a_Refusal_init
    rft := rt
    rfx := ⟨rGa, rGg, rEx, rHd⟩
    rfn := rNo
    rfe := exm_own rEx rIs rTy rSub
    rfv := rV
    g_Lot := PySem.W.mg_of X G aC_Lot
    l_Lot := ⟨pg_Lot, hd_Lot, po_Lot, sa_Lot⟩
    m_Lot := ⟨mk_Lot, a_Lot_init, i_Lot_init, kC_Lot⟩
    n_Lot_life := n_Lot_life
    n_Lot_hours := n_Lot_hours
    g_Planner := PySem.W.mg_of X G aC_Planner
    l_Planner := ⟨pg_Planner, hd_Planner, po_Planner, sa_Planner⟩
    m_Planner := ⟨mk_Planner, a_Planner_init, i_Planner_init, kC_Planner⟩
    n_Planner_lots := n_Planner_lots
    n_Planner_needs := n_Planner_needs
    n_Planner_capacity := n_Planner_capacity
    n_Planner_hours := n_Planner_hours
    g_Storage := PySem.W.mg_of X G aC_Storage
    l_Storage := ⟨pg_Storage, hd_Storage, po_Storage, sa_Storage⟩
    m_Storage := ⟨mk_Storage, a_Storage_init, i_Storage_init, kC_Storage⟩
    n_Storage_warm_loss := n_Storage_warm_loss
    n_Storage_cold_loss := n_Storage_cold_loss
    n_Storage_capacity := n_Storage_capacity
    n_Storage_lots := n_Storage_lots
    n_Storage_time := n_Storage_time
    n_Storage_left := n_Storage_left
    n_Storage_spoiled := n_Storage_spoiled
    g_Desk := PySem.W.mg_of X G aC_Desk
    l_Desk := ⟨pg_Desk, hd_Desk, po_Desk, sa_Desk⟩
    m_Desk := ⟨mk_Desk, a_Desk_init, i_Desk_init, kC_Desk⟩
    n_Desk_storage := n_Desk_storage
    F_Refusal_init := F_Refusal_init
    b_Refusal_init := F_Refusal_init.binds (ps := ["self", "code"]) fun _ _ _ _ _ _ us hl => match us, hl with | [_, _], _ => rfl
    F_Lot_init := F_Lot_init
    b_Lot_init := F_Lot_init.binds (ps := ["self", "life", "hours"]) fun _ _ _ _ _ _ us hl => match us, hl with | [_, _, _], _ => rfl
    F_Planner_init := F_Planner_init
    b_Planner_init := F_Planner_init.binds (ps := ["self", "storage", "capacity"]) fun _ _ _ _ _ _ us hl => match us, hl with | [_, _, _], _ => rfl
    F_Planner_plan_for := F_Planner_plan_for
    b_Planner_plan_for := F_Planner_plan_for.binds (ps := ["self", "mask"]) fun _ _ _ _ _ _ us hl => match us, hl with | [_, _], _ => rfl
    m_Planner_plan_for := ⟨a_Planner_plan_for, i_Planner_plan_for, p_Planner_plan_for⟩
    F_Planner_plan_from := F_Planner_plan_from
    b_Planner_plan_from := F_Planner_plan_from.binds (ps := ["self", "hour", "needs"]) fun _ _ _ _ _ _ us hl => match us, hl with | [_, _, _], _ => rfl
    m_Planner_plan_from := ⟨a_Planner_plan_from, i_Planner_plan_from, p_Planner_plan_from⟩
    F_Planner_largest_set := F_Planner_largest_set
    b_Planner_largest_set := F_Planner_largest_set.binds (ps := ["self"]) fun _ _ _ _ _ _ us hl => match us, hl with | [_], _ => rfl
    m_Planner_largest_set := ⟨a_Planner_largest_set, i_Planner_largest_set, p_Planner_largest_set⟩
    F_Storage_init := F_Storage_init
    b_Storage_init := F_Storage_init.binds (ps := ["self", "warm_loss", "cold_loss", "capacity"]) fun _ _ _ _ _ _ us hl => match us, hl with | [_, _, _, _], _ => rfl
    F_Storage_cold_hours_needed := F_Storage_cold_hours_needed
    b_Storage_cold_hours_needed := F_Storage_cold_hours_needed.binds (ps := ["self", "lot"]) fun _ _ _ _ _ _ us hl => match us, hl with | [_, _], _ => rfl
    m_Storage_cold_hours_needed := ⟨a_Storage_cold_hours_needed, i_Storage_cold_hours_needed, p_Storage_cold_hours_needed⟩
    F_Storage_all_lots := F_Storage_all_lots
    b_Storage_all_lots := F_Storage_all_lots.binds (ps := ["self"]) fun _ _ _ _ _ _ us hl => match us, hl with | [_], _ => rfl
    m_Storage_all_lots := ⟨a_Storage_all_lots, i_Storage_all_lots, p_Storage_all_lots⟩
    F_Storage_add_lot := F_Storage_add_lot
    b_Storage_add_lot := F_Storage_add_lot.binds (ps := ["self", "life", "hours"]) fun _ _ _ _ _ _ us hl => match us, hl with | [_, _, _], _ => rfl
    m_Storage_add_lot := ⟨a_Storage_add_lot, i_Storage_add_lot, p_Storage_add_lot⟩
    F_Storage_remove_lot := F_Storage_remove_lot
    b_Storage_remove_lot := F_Storage_remove_lot.binds (ps := ["self", "lot"]) fun _ _ _ _ _ _ us hl => match us, hl with | [_, _], _ => rfl
    m_Storage_remove_lot := ⟨a_Storage_remove_lot, i_Storage_remove_lot, p_Storage_remove_lot⟩
    F_Storage_set_capacity := F_Storage_set_capacity
    b_Storage_set_capacity := F_Storage_set_capacity.binds (ps := ["self", "capacity"]) fun _ _ _ _ _ _ us hl => match us, hl with | [_, _], _ => rfl
    m_Storage_set_capacity := ⟨a_Storage_set_capacity, i_Storage_set_capacity, p_Storage_set_capacity⟩
    F_Storage_pass_hour := F_Storage_pass_hour
    b_Storage_pass_hour := F_Storage_pass_hour.binds (ps := ["self", "mask"]) fun _ _ _ _ _ _ us hl => match us, hl with | [_, _], _ => rfl
    m_Storage_pass_hour := ⟨a_Storage_pass_hour, i_Storage_pass_hour, p_Storage_pass_hour⟩
    F_Storage_run_hour := F_Storage_run_hour
    b_Storage_run_hour := F_Storage_run_hour.binds (ps := ["self", "mask"]) fun _ _ _ _ _ _ us hl => match us, hl with | [_, _], _ => rfl
    m_Storage_run_hour := ⟨a_Storage_run_hour, i_Storage_run_hour, p_Storage_run_hour⟩
    F_Storage_run_best := F_Storage_run_best
    b_Storage_run_best := F_Storage_run_best.binds (ps := ["self"]) fun _ _ _ _ _ _ us hl => match us, hl with | [_], _ => rfl
    m_Storage_run_best := ⟨a_Storage_run_best, i_Storage_run_best, p_Storage_run_best⟩
    F_Storage_plan_for := F_Storage_plan_for
    b_Storage_plan_for := F_Storage_plan_for.binds (ps := ["self", "mask"]) fun _ _ _ _ _ _ us hl => match us, hl with | [_, _], _ => rfl
    m_Storage_plan_for := ⟨a_Storage_plan_for, i_Storage_plan_for, p_Storage_plan_for⟩
    F_Storage_can_last := F_Storage_can_last
    b_Storage_can_last := F_Storage_can_last.binds (ps := ["self", "mask"]) fun _ _ _ _ _ _ us hl => match us, hl with | [_, _], _ => rfl
    m_Storage_can_last := ⟨a_Storage_can_last, i_Storage_can_last, p_Storage_can_last⟩
    F_Storage_largest_set := F_Storage_largest_set
    b_Storage_largest_set := F_Storage_largest_set.binds (ps := ["self"]) fun _ _ _ _ _ _ us hl => match us, hl with | [_], _ => rfl
    m_Storage_largest_set := ⟨a_Storage_largest_set, i_Storage_largest_set, p_Storage_largest_set⟩
    F_Storage_check_plan := F_Storage_check_plan
    b_Storage_check_plan := F_Storage_check_plan.binds (ps := ["self", "mask", "plan"]) fun _ _ _ _ _ _ us hl => match us, hl with | [_, _, _], _ => rfl
    m_Storage_check_plan := ⟨a_Storage_check_plan, i_Storage_check_plan, p_Storage_check_plan⟩
    F_Storage_largest_if_capacity := F_Storage_largest_if_capacity
    b_Storage_largest_if_capacity := F_Storage_largest_if_capacity.binds (ps := ["self", "capacity"]) fun _ _ _ _ _ _ us hl => match us, hl with | [_, _], _ => rfl
    m_Storage_largest_if_capacity := ⟨a_Storage_largest_if_capacity, i_Storage_largest_if_capacity, p_Storage_largest_if_capacity⟩
    F_Storage_min_capacity := F_Storage_min_capacity
    b_Storage_min_capacity := F_Storage_min_capacity.binds (ps := ["self"]) fun _ _ _ _ _ _ us hl => match us, hl with | [_], _ => rfl
    m_Storage_min_capacity := ⟨a_Storage_min_capacity, i_Storage_min_capacity, p_Storage_min_capacity⟩
    F_Storage_list_lots := F_Storage_list_lots
    b_Storage_list_lots := F_Storage_list_lots.binds (ps := ["self"]) fun _ _ _ _ _ _ us hl => match us, hl with | [_], _ => rfl
    m_Storage_list_lots := ⟨a_Storage_list_lots, i_Storage_list_lots, p_Storage_list_lots⟩
    F_Storage_set_losses := F_Storage_set_losses
    b_Storage_set_losses := F_Storage_set_losses.binds (ps := ["self", "warm_loss", "cold_loss"]) fun _ _ _ _ _ _ us hl => match us, hl with | [_, _, _], _ => rfl
    m_Storage_set_losses := ⟨a_Storage_set_losses, i_Storage_set_losses, p_Storage_set_losses⟩
    F_Storage_loss_under_plan := F_Storage_loss_under_plan
    b_Storage_loss_under_plan := F_Storage_loss_under_plan.binds (ps := ["self", "number", "plan"]) fun _ _ _ _ _ _ us hl => match us, hl with | [_, _, _], _ => rfl
    m_Storage_loss_under_plan := ⟨a_Storage_loss_under_plan, i_Storage_loss_under_plan, p_Storage_loss_under_plan⟩
    F_Storage_count_if_warm_loss := F_Storage_count_if_warm_loss
    b_Storage_count_if_warm_loss := F_Storage_count_if_warm_loss.binds (ps := ["self", "warm_loss"]) fun _ _ _ _ _ _ us hl => match us, hl with | [_, _], _ => rfl
    m_Storage_count_if_warm_loss := ⟨a_Storage_count_if_warm_loss, i_Storage_count_if_warm_loss, p_Storage_count_if_warm_loss⟩
    F_Storage_needed_by := F_Storage_needed_by
    b_Storage_needed_by := F_Storage_needed_by.binds (ps := ["self", "number"]) fun _ _ _ _ _ _ us hl => match us, hl with | [_, _], _ => rfl
    m_Storage_needed_by := ⟨a_Storage_needed_by, i_Storage_needed_by, p_Storage_needed_by⟩
    F_Storage_balance := F_Storage_balance
    b_Storage_balance := F_Storage_balance.binds (ps := ["self"]) fun _ _ _ _ _ _ us hl => match us, hl with | [_], _ => rfl
    m_Storage_balance := ⟨a_Storage_balance, i_Storage_balance, p_Storage_balance⟩
    F_Storage_change := F_Storage_change
    b_Storage_change := F_Storage_change.binds (ps := ["self", "which", "n"]) fun _ _ _ _ _ _ us hl => match us, hl with | [_, _, _], _ => rfl
    m_Storage_change := ⟨a_Storage_change, i_Storage_change, p_Storage_change⟩
    F_Storage_tell := F_Storage_tell
    b_Storage_tell := F_Storage_tell.binds (ps := ["self", "which", "n", "row"]) fun _ _ _ _ _ _ us hl => match us, hl with | [_, _, _, _], _ => rfl
    m_Storage_tell := ⟨a_Storage_tell, i_Storage_tell, p_Storage_tell⟩
    F_Storage_tell_more := F_Storage_tell_more
    b_Storage_tell_more := F_Storage_tell_more.binds (ps := ["self", "which", "n"]) fun _ _ _ _ _ _ us hl => match us, hl with | [_, _, _], _ => rfl
    m_Storage_tell_more := ⟨a_Storage_tell_more, i_Storage_tell_more, p_Storage_tell_more⟩
    F_Desk_init := F_Desk_init
    b_Desk_init := F_Desk_init.binds (ps := ["self"]) fun _ _ _ _ _ _ us hl => match us, hl with | [_], _ => rfl
    F_Desk_ask := F_Desk_ask
    b_Desk_ask := F_Desk_ask.binds (ps := ["self", "which", "n", "row"]) fun _ _ _ _ _ _ us hl => match us, hl with | [_, _, _, _], _ => rfl
    m_Desk_ask := ⟨a_Desk_ask, i_Desk_ask, p_Desk_ask⟩
    F_Desk_carry_out := F_Desk_carry_out
    b_Desk_carry_out := F_Desk_carry_out.binds (ps := ["self", "which", "n", "row"]) fun _ _ _ _ _ _ us hl => match us, hl with | [_, _, _, _], _ => rfl
    m_Desk_carry_out := ⟨a_Desk_carry_out, i_Desk_carry_out, p_Desk_carry_out⟩
    F_check := F_check
    b_check := F_check.binds (ps := ["holds", "code"]) fun _ _ _ _ _ _ us hl => match us, hl with | [_, _], _ => rfl
    g_check := PySem.W.mg_of X G a_check
    F_members_of := F_members_of
    b_members_of := F_members_of.binds (ps := ["mask"]) fun _ _ _ _ _ _ us hl => match us, hl with | [_], _ => rfl
    g_members_of := PySem.W.mg_of X G a_members_of
    F_check_mask := F_check_mask
    b_check_mask := F_check_mask.binds (ps := ["mask", "count"]) fun _ _ _ _ _ _ us hl => match us, hl with | [_, _], _ => rfl
    g_check_mask := PySem.W.mg_of X G a_check_mask
    F_check_losses := F_check_losses
    b_check_losses := F_check_losses.binds (ps := ["warm_loss", "cold_loss"]) fun _ _ _ _ _ _ us hl => match us, hl with | [_, _], _ => rfl
    g_check_losses := PySem.W.mg_of X G a_check_losses
    F_new_storage := F_new_storage
    b_new_storage := F_new_storage.binds (ps := ["n"]) fun _ _ _ _ _ _ us hl => match us, hl with | [_], _ => rfl
    g_new_storage := PySem.W.mg_of X G a_new_storage
    F_answers := F_answers
    b_answers := F_answers.binds (ps := ["calls"]) fun _ _ _ _ _ _ us hl => match us, hl with | [_], _ => rfl
    g_answers := PySem.W.mg_of X G a_answers }
  exact ⟨PySem.W.fnOf "answers" "answers" (defArgs s_answers) (defBody s_answers) (defScope s_answers) .none kV doc pm an cdv ct, fun s us hu => match us, hu with | [_], _ => .of_eq rfl, fun base _ _ => ok_answers T⟩
/-- the request: numbers that are none below nought are natural numbers -/
theorem nats_of : ∀ l : List Int, (∀ x ∈ l, 0 ≤ x) → l = I (l.map Int.toNat)
  | [], _ => rfl
  | x :: r, h => by
    have e := nats_of r fun y hy => h y (List.mem_cons_of_mem _ hy)
    have e0 : x = Int.ofNat x.toNat := (Int.toNat_of_nonneg (h x List.mem_cons_self)).symm
    show x :: r = Int.ofNat x.toNat :: I (r.map Int.toNat)
    rw [← e, ← e0]
end Cold

open PySem PySem.W PyProof.Rows
set_option maxRecDepth 100000 in
set_option maxHeartbeats 8000000 in
theorem PySem.Challenge.cw_coldhall_s01_answers_holds : PySem.Challenge.rw_coldhall_s01_answers.Holds := by
  w_on; k_headS; (case hw => exact ⟨[.list [.int 20]], by decide +kernel, by decide +kernel⟩)
  k_fillS
  refine L2.walk_specK (r := PySem.Challenge.rw_coldhall_s01_answers) (k := 16) (CX := L2.CX0) (ps := ["calls"]) (sp := Cold.spAnswers) (by decide +kernel) rfl rfl ⟨rfl, by decide, by decide⟩ (fun w h Y => PySem.W.kIn_of Y) ?F ?S (fun _ _ _ _ z => z)
  case F =>
    intro w mg fa h Y KX G hmg
    refine' Cold.all_mk KX G hmg ?z_Exception ?z_range ?z_max ?z_min ?z_len ?z_enumerate ?z_all ?z_any ?z_sum ?k_NOT_THERE ?k_MISSING ?k_OUT_OF_RANGE ?k_FULL ?k_IMPOSSIBLE ?k_NO_STORE ?k_LOTS_AT_MOST ?k_HOURS_AT_MOST ?k_LIFE_AT_MOST ?k_CAPACITY_AT_MOST ?k_LOSS_AT_MOST ?w_SIZES ?w_WITH_ROW ?r_Refusal ?l_Lot ?n_Lot_life ?n_Lot_hours ?l_Planner ?n_Planner_lots ?n_Planner_needs ?n_Planner_capacity ?n_Planner_hours ?l_Storage ?n_Storage_warm_loss ?n_Storage_cold_loss ?n_Storage_capacity ?n_Storage_lots ?n_Storage_time ?n_Storage_left ?n_Storage_spoiled ?l_Desk ?n_Desk_storage ?d_Refusal_init ?d_Lot_init ?d_Planner_init ?d_Planner_plan_for ?d_Planner_plan_from ?d_Planner_largest_set ?d_Storage_init ?d_Storage_cold_hours_needed ?d_Storage_all_lots ?d_Storage_add_lot ?d_Storage_remove_lot ?d_Storage_set_capacity ?d_Storage_pass_hour ?d_Storage_run_hour ?d_Storage_run_best ?d_Storage_plan_for ?d_Storage_can_last ?d_Storage_largest_set ?d_Storage_check_plan ?d_Storage_largest_if_capacity ?d_Storage_min_capacity ?d_Storage_list_lots ?d_Storage_set_losses ?d_Storage_loss_under_plan ?d_Storage_count_if_warm_loss ?d_Storage_needed_by ?d_Storage_balance ?d_Storage_change ?d_Storage_tell ?d_Storage_tell_more ?d_Desk_init ?d_Desk_ask ?d_Desk_carry_out ?d_check ?d_members_of ?d_check_mask ?d_check_losses ?d_new_storage ?d_answers ?rt
    (case z_Exception => k_is)
    (case z_range => k_is)
    (case z_max => k_is)
    (case z_min => k_is)
    (case z_len => k_is)
    (case z_enumerate => k_is)
    (case z_all => k_is)
    (case z_any => k_is)
    (case z_sum => k_is)
    (case k_NOT_THERE => refine' Cold.IntAt.mk ?a; (case a => k_is))
    (case k_MISSING => refine' Cold.IntAt.mk ?a; (case a => k_is))
    (case k_OUT_OF_RANGE => refine' Cold.IntAt.mk ?a; (case a => k_is))
    (case k_FULL => refine' Cold.IntAt.mk ?a; (case a => k_is))
    (case k_IMPOSSIBLE => refine' Cold.IntAt.mk ?a; (case a => k_is))
    (case k_NO_STORE => refine' Cold.IntAt.mk ?a; (case a => k_is))
    (case k_LOTS_AT_MOST => refine' Cold.IntAt.mk ?a; (case a => k_is))
    (case k_HOURS_AT_MOST => refine' Cold.IntAt.mk ?a; (case a => k_is))
    (case k_LIFE_AT_MOST => refine' Cold.IntAt.mk ?a; (case a => k_is))
    (case k_CAPACITY_AT_MOST => refine' Cold.IntAt.mk ?a; (case a => k_is))
    (case k_LOSS_AT_MOST => refine' Cold.IntAt.mk ?a; (case a => k_is))
    (case w_SIZES => refine' Cold.TupAt.mk ?a ?l ?z ?v; (case a => k_is); (case l => k_is); (case z => exact Evl.sz_of (by decide)); (case v => exact .cons ⟨_, rfl⟩ (.cons ⟨_, rfl⟩ (.cons ⟨_, rfl⟩ (.cons ⟨_, rfl⟩ (.cons ⟨_, rfl⟩ (.cons ⟨_, rfl⟩ (.cons ⟨_, rfl⟩ (.cons ⟨_, rfl⟩ (.cons ⟨_, rfl⟩ (.cons ⟨_, rfl⟩ (.cons ⟨_, rfl⟩ (.cons ⟨_, rfl⟩ (.cons ⟨_, rfl⟩ (.cons ⟨_, rfl⟩ (.cons ⟨_, rfl⟩ (.cons ⟨_, rfl⟩ (.cons ⟨_, rfl⟩ (.cons ⟨_, rfl⟩ (.cons ⟨_, rfl⟩ (.cons ⟨_, rfl⟩ (.cons ⟨_, rfl⟩ (.cons ⟨_, rfl⟩ .nil)))))))))))))))))))))))
    (case w_WITH_ROW => refine' Cold.TupAt.mk ?a ?l ?z ?v; (case a => k_is); (case l => k_is); (case z => exact Evl.sz_of (by decide)); (case v => exact .cons ⟨_, rfl⟩ (.cons ⟨_, rfl⟩ .nil)))
    (case r_Refusal => refine' Cold.RefAt.mk ?a ?l ?f1 ?f2 ?f3 ?f4 ?f5 ?f6 ?f7 ?f8 ?f9 ?f10 ?f11; (case a => k_is); (case l => k_is); (case f1 => k_is); (case f2 => k_is); (case f3 => k_is); (case f4 => k_is); (case f5 => k_is); (case f6 => k_is); (case f7 => k_is); (case f8 => k_is); (case f9 => k_is); (case f10 => first | rfl | k_is); (case f11 => k_is))
    (case l_Lot => refine ⟨?_, ?_, ?_, ?_, ?_, ?_, ?_⟩; k_is; k_is; k_is; k_is; k_is; k_is; k_is)
    (case n_Lot_life => unfold L2.NoAttr; k_is)
    (case n_Lot_hours => unfold L2.NoAttr; k_is)
    (case l_Planner => refine ⟨?_, ?_, ?_, ?_, ?_, ?_, ?_⟩; k_is; k_is; k_is; k_is; k_is; k_is; k_is)
    (case n_Planner_lots => unfold L2.NoAttr; k_is)
    (case n_Planner_needs => unfold L2.NoAttr; k_is)
    (case n_Planner_capacity => unfold L2.NoAttr; k_is)
    (case n_Planner_hours => unfold L2.NoAttr; k_is)
    (case l_Storage => refine ⟨?_, ?_, ?_, ?_, ?_, ?_, ?_⟩; k_is; k_is; k_is; k_is; k_is; k_is; k_is)
    (case n_Storage_warm_loss => unfold L2.NoAttr; k_is)
    (case n_Storage_cold_loss => unfold L2.NoAttr; k_is)
    (case n_Storage_capacity => unfold L2.NoAttr; k_is)
    (case n_Storage_lots => unfold L2.NoAttr; k_is)
    (case n_Storage_time => unfold L2.NoAttr; k_is)
    (case n_Storage_left => unfold L2.NoAttr; k_is)
    (case n_Storage_spoiled => unfold L2.NoAttr; k_is)
    (case l_Desk => refine ⟨?_, ?_, ?_, ?_, ?_, ?_, ?_⟩; k_is; k_is; k_is; k_is; k_is; k_is; k_is)
    (case n_Desk_storage => unfold L2.NoAttr; k_is)
    (case d_Refusal_init => refine' Cold.MethAt.mk ?a ?i ?k ?l ?c; (case a => k_is); (case i => k_is); (case k => k_is); (case l => k_is); (case c => k_is))
    (case d_Lot_init => refine' Cold.MethAt.mk ?a ?i ?k ?l ?c; (case a => k_is); (case i => k_is); (case k => k_is); (case l => k_is); (case c => k_is))
    (case d_Planner_init => refine' Cold.MethAt.mk ?a ?i ?k ?l ?c; (case a => k_is); (case i => k_is); (case k => k_is); (case l => k_is); (case c => k_is))
    (case d_Planner_plan_for => refine' Cold.MethAt.mk ?a ?i ?k ?l ?c; (case a => k_is); (case i => k_is); (case k => k_is); (case l => k_is); (case c => k_is))
    (case d_Planner_plan_from => refine' Cold.MethAt.mk ?a ?i ?k ?l ?c; (case a => k_is); (case i => k_is); (case k => k_is); (case l => k_is); (case c => k_is))
    (case d_Planner_largest_set => refine' Cold.MethAt.mk ?a ?i ?k ?l ?c; (case a => k_is); (case i => k_is); (case k => k_is); (case l => k_is); (case c => k_is))
    (case d_Storage_init => refine' Cold.MethAt.mk ?a ?i ?k ?l ?c; (case a => k_is); (case i => k_is); (case k => k_is); (case l => k_is); (case c => k_is))
    (case d_Storage_cold_hours_needed => refine' Cold.MethAt.mk ?a ?i ?k ?l ?c; (case a => k_is); (case i => k_is); (case k => k_is); (case l => k_is); (case c => k_is))
    (case d_Storage_all_lots => refine' Cold.MethAt.mk ?a ?i ?k ?l ?c; (case a => k_is); (case i => k_is); (case k => k_is); (case l => k_is); (case c => k_is))
    (case d_Storage_add_lot => refine' Cold.MethAt.mk ?a ?i ?k ?l ?c; (case a => k_is); (case i => k_is); (case k => k_is); (case l => k_is); (case c => k_is))
    (case d_Storage_remove_lot => refine' Cold.MethAt.mk ?a ?i ?k ?l ?c; (case a => k_is); (case i => k_is); (case k => k_is); (case l => k_is); (case c => k_is))
    (case d_Storage_set_capacity => refine' Cold.MethAt.mk ?a ?i ?k ?l ?c; (case a => k_is); (case i => k_is); (case k => k_is); (case l => k_is); (case c => k_is))
    (case d_Storage_pass_hour => refine' Cold.MethAt.mk ?a ?i ?k ?l ?c; (case a => k_is); (case i => k_is); (case k => k_is); (case l => k_is); (case c => k_is))
    (case d_Storage_run_hour => refine' Cold.MethAt.mk ?a ?i ?k ?l ?c; (case a => k_is); (case i => k_is); (case k => k_is); (case l => k_is); (case c => k_is))
    (case d_Storage_run_best => refine' Cold.MethAt.mk ?a ?i ?k ?l ?c; (case a => k_is); (case i => k_is); (case k => k_is); (case l => k_is); (case c => k_is))
    (case d_Storage_plan_for => refine' Cold.MethAt.mk ?a ?i ?k ?l ?c; (case a => k_is); (case i => k_is); (case k => k_is); (case l => k_is); (case c => k_is))
    (case d_Storage_can_last => refine' Cold.MethAt.mk ?a ?i ?k ?l ?c; (case a => k_is); (case i => k_is); (case k => k_is); (case l => k_is); (case c => k_is))
    (case d_Storage_largest_set => refine' Cold.MethAt.mk ?a ?i ?k ?l ?c; (case a => k_is); (case i => k_is); (case k => k_is); (case l => k_is); (case c => k_is))
    (case d_Storage_check_plan => refine' Cold.MethAt.mk ?a ?i ?k ?l ?c; (case a => k_is); (case i => k_is); (case k => k_is); (case l => k_is); (case c => k_is))
    (case d_Storage_largest_if_capacity => refine' Cold.MethAt.mk ?a ?i ?k ?l ?c; (case a => k_is); (case i => k_is); (case k => k_is); (case l => k_is); (case c => k_is))
    (case d_Storage_min_capacity => refine' Cold.MethAt.mk ?a ?i ?k ?l ?c; (case a => k_is); (case i => k_is); (case k => k_is); (case l => k_is); (case c => k_is))
    (case d_Storage_list_lots => refine' Cold.MethAt.mk ?a ?i ?k ?l ?c; (case a => k_is); (case i => k_is); (case k => k_is); (case l => k_is); (case c => k_is))
    (case d_Storage_set_losses => refine' Cold.MethAt.mk ?a ?i ?k ?l ?c; (case a => k_is); (case i => k_is); (case k => k_is); (case l => k_is); (case c => k_is))
    (case d_Storage_loss_under_plan => refine' Cold.MethAt.mk ?a ?i ?k ?l ?c; (case a => k_is); (case i => k_is); (case k => k_is); (case l => k_is); (case c => k_is))
    (case d_Storage_count_if_warm_loss => refine' Cold.MethAt.mk ?a ?i ?k ?l ?c; (case a => k_is); (case i => k_is); (case k => k_is); (case l => k_is); (case c => k_is))
    (case d_Storage_needed_by => refine' Cold.MethAt.mk ?a ?i ?k ?l ?c; (case a => k_is); (case i => k_is); (case k => k_is); (case l => k_is); (case c => k_is))
    (case d_Storage_balance => refine' Cold.MethAt.mk ?a ?i ?k ?l ?c; (case a => k_is); (case i => k_is); (case k => k_is); (case l => k_is); (case c => k_is))
    (case d_Storage_change => refine' Cold.MethAt.mk ?a ?i ?k ?l ?c; (case a => k_is); (case i => k_is); (case k => k_is); (case l => k_is); (case c => k_is))
    (case d_Storage_tell => refine' Cold.MethAt.mk ?a ?i ?k ?l ?c; (case a => k_is); (case i => k_is); (case k => k_is); (case l => k_is); (case c => k_is))
    (case d_Storage_tell_more => refine' Cold.MethAt.mk ?a ?i ?k ?l ?c; (case a => k_is); (case i => k_is); (case k => k_is); (case l => k_is); (case c => k_is))
    (case d_Desk_init => refine' Cold.MethAt.mk ?a ?i ?k ?l ?c; (case a => k_is); (case i => k_is); (case k => k_is); (case l => k_is); (case c => k_is))
    (case d_Desk_ask => refine' Cold.MethAt.mk ?a ?i ?k ?l ?c; (case a => k_is); (case i => k_is); (case k => k_is); (case l => k_is); (case c => k_is))
    (case d_Desk_carry_out => refine' Cold.MethAt.mk ?a ?i ?k ?l ?c; (case a => k_is); (case i => k_is); (case k => k_is); (case l => k_is); (case c => k_is))
    (case d_check => refine' Cold.FnAt.mk ?a ?k ?l ?c; (case a => k_is); (case k => k_is); (case l => k_is); (case c => k_is))
    (case d_members_of => refine' Cold.FnAt.mk ?a ?k ?l ?c; (case a => k_is); (case k => k_is); (case l => k_is); (case c => k_is))
    (case d_check_mask => refine' Cold.FnAt.mk ?a ?k ?l ?c; (case a => k_is); (case k => k_is); (case l => k_is); (case c => k_is))
    (case d_check_losses => refine' Cold.FnAt.mk ?a ?k ?l ?c; (case a => k_is); (case k => k_is); (case l => k_is); (case c => k_is))
    (case d_new_storage => refine' Cold.FnAt.mk ?a ?k ?l ?c; (case a => k_is); (case k => k_is); (case l => k_is); (case c => k_is))
    (case d_answers => refine' Cold.FnAt.mk ?a ?k ?l ?c; (case a => k_is); (case k => k_is); (case l => k_is); (case c => k_is))
    (case rt => k_is)
  case S =>
    intro K H xs a hO hwi hask hx
    cases hx with
    | cons h1 h2 =>
      cases h2
      cases h1 with
      | lst hs ha =>
        have e := L2.ints_dw a.1 _ ha
        subst e
        have q : ((Codec.inLen 0 540 a.1 && a.1.all (Codec.inInt 0 2147483647)) && true) = true := hwi
        rw [Bool.and_eq_true, Bool.and_eq_true] at q
        have hl := (Codec.inNat_iff.mp q.1.1).2
        have ge : ∀ x ∈ a.1, 0 ≤ x := fun x hx => (Codec.inInt_iff.mp (List.all_eq_true.mp q.1.2 x hx)).1
        have en := Cold.nats_of a.1 ge
        have hask' : PyKh430.answers_asked a.1 = true := hask
        refine ⟨_, a.1.map Int.toNat, rfl, ?_, ?_, ?_, fun H' p hp => ?_⟩
        · rw [Cold.lN_eq, ← en]
          exact hs
        · rw [List.length_map]
          exact Nat.le_trans hl (by decide)
        · rw [← en]
          exact hask'
        · rw [← en] at hp
          exact .lst (L2.SqL.of hp) (L2.dw_ints _)
#print axioms PySem.Challenge.cw_coldhall_s01_answers_holds

